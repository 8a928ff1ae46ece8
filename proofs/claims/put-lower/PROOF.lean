import PyProof.Rows.All
import Wide.All
import OpenK.AllK
import Wide.FinOn
import HandS.Flow
import HandS.ForMost
import HandS.Defaults
import HandS.Lambda
import HandS.TupAny
import HandS.Deep
import HandS.IsInst
import HandS.NoneIn
import HandS.Walk
import HandS.CallLocal
import HandS.HeadHook1
import HandS.HeadHook2
import HandS.SetBool
import HandS.SetFor
import HandS.Strs
import KE.SortData
import HandS.TupSets
import KE.KeyNested
import KE.KDictKeyed
import HandS.HeadHook4
import KE.SortKeyHeap
import HandS.Zip
import KE.KDictZip
import KE.KDictPairs
import PyProof.EnumMake
import HandS.Conv
import KE.KUnpackStar
import KE.KStateDown
import Lean
import HandS.Head0
import HandS.Head1
import HandS.Head2
import HandS.HeadEnd
import HandS.HeadWalk
import PySem.Challenge.RW_markpieces_k75_whole_put_lower
set_option Elab.async false
set_option linter.all false
set_option maxRecDepth 100000
set_option maxHeartbeats 0
set_option autoImplicit false
-- DL1
/-! DATA LAYER 1: judgements over data (PyData) on top of the hand layer. -/
namespace MP
open PySem PySem.Spec PyProof.Rows L2 LamX
abbrev Dt := PyData
/-- no table of code objects -/
def NoTbl (o : HO) : Prop := ∀ ps, o ≠ HO.tbl ps
/-! ### data in a heap: tracked lists and tuples alone -/
mutual
inductive Dn (G : Hp) : V → Dt → Prop
  | non : Dn G .non .none
  | bl (b : Bool) : Dn G (.bl b) (.bool b)
  | int (i : Int) : Dn G (.int i) (.int i)
  | str (x : Str) : Dn G (.str x) (.str x)
  | lst {a : Addr} {xs : List V} {ds : List Dt} : G a = some (.lst xs) → Dns G xs ds → Dn G (.ref a) (.list ds)
  | tup {a : Addr} {xs : List V} {ds : List Dt} : G a = some (.tup xs) → Dns G xs ds → Dn G (.ref a) (.tuple ds)
inductive Dns (G : Hp) : List V → List Dt → Prop
  | nil : Dns G [] []
  | cons {v : V} {vs : List V} {d : Dt} {ds : List Dt} : Dn G v d → Dns G vs ds → Dns G (v :: vs) (d :: ds)
end
mutual
theorem dn_gr {G H : Hp} (s : Same G H) : ∀ (d : Dt) (v : V), Dn G v d → Dn H v d
  | .none, _, h => by cases h; exact .non
  | .bool b, _, h => by cases h; exact .bl b
  | .int i, _, h => by cases h; exact .int i
  | .str x, _, h => by cases h; exact .str x
  | .list ds, _, h => by
    cases h with
    | lst q r => exact .lst (s _ _ q) (dns_gr s ds _ r)
  | .tuple ds, _, h => by
    cases h with
    | tup q r => exact .tup (s _ _ q) (dns_gr s ds _ r)
  | .dict _, _, h => by cases h
theorem dns_gr {G H : Hp} (s : Same G H) : ∀ (ds : List Dt) (vs : List V), Dns G vs ds → Dns H vs ds
  | [], _, h => by cases h; exact .nil
  | d :: ds, _, h => by
    cases h with
    | cons h1 h2 => exact .cons (dn_gr s d _ h1) (dns_gr s ds _ h2)
end
mutual
theorem dn_dp (K : PySem.W.Frag) {G H : Hp} (s : Same G H) : ∀ (d : Dt) (v : V), Dn G v d → Dp K H v d
  | .none, _, h => by cases h; exact .non
  | .bool b, _, h => by cases h; exact .bl b
  | .int i, _, h => by cases h; exact .int i
  | .str x, _, h => by cases h; exact .str x
  | .list ds, _, h => by
    cases h with
    | lst q r => exact .lst (SqL.of (s _ _ q)) (dns_dp K s ds _ r)
  | .tuple ds, _, h => by
    cases h with
    | tup q r => exact .tup (SqT.of (s _ _ q)) (dns_dp K s ds _ r)
  | .dict _, _, h => by cases h
theorem dns_dp (K : PySem.W.Frag) {G H : Hp} (s : Same G H) : ∀ (ds : List Dt) (vs : List V), Dns G vs ds → DpAll K H vs ds
  | [], _, h => by cases h; exact .nil
  | d :: ds, _, h => by
    cases h with
    | cons h1 h2 => exact .cons (dn_dp K s d _ h1) (dns_dp K s ds _ h2)
end
theorem Dn.gr {G H : Hp} {v : V} {d : Dt} (h : Dn G v d) (s : Same G H) : Dn H v d := dn_gr s d v h
theorem Dns.gr {G H : Hp} {vs : List V} {ds : List Dt} (h : Dns G vs ds) (s : Same G H) : Dns H vs ds := dns_gr s ds vs h
theorem Dn.dp {G H : Hp} {v : V} {d : Dt} (K : PySem.W.Frag) (h : Dn G v d) (s : Same G H) : Dp K H v d := dn_dp K s d v h
theorem Dns.len {G : Hp} : ∀ {vs : List V} {ds : List Dt}, Dns G vs ds → vs.length = ds.length
  | _, _, .nil => rfl
  | _, _, .cons _ t => congrArg Nat.succ (Dns.len t)
theorem Dns.get {G : Hp} : ∀ {vs : List V} {ds : List Dt} {i : Nat} {d : Dt}, Dns G vs ds → ds[i]? = some d → ∃ v, vs[i]? = some v ∧ Dn G v d
  | _, _, _, _, .nil, e => by simp at e
  | _, _, 0, _, .cons h _, e => by
    simp only [List.getElem?_cons_zero, Option.some.injEq] at e
    subst e
    exact ⟨_, by simp, h⟩
  | _, _, i + 1, _, .cons _ t, e => by
    simp only [List.getElem?_cons_succ] at e
    obtain ⟨v, h1, h2⟩ := Dns.get t e
    exact ⟨v, by simpa using h1, h2⟩
theorem Dns.get' {G : Hp} : ∀ {vs : List V} {ds : List Dt} {i : Nat} {v : V}, Dns G vs ds → vs[i]? = some v → ∃ d, ds[i]? = some d ∧ Dn G v d
  | _, _, _, _, .nil, e => by simp at e
  | _, _, 0, _, .cons h _, e => by
    simp only [List.getElem?_cons_zero, Option.some.injEq] at e
    subst e
    exact ⟨_, by simp, h⟩
  | _, _, i + 1, _, .cons _ t, e => by
    simp only [List.getElem?_cons_succ] at e
    obtain ⟨d, h1, h2⟩ := Dns.get' t e
    exact ⟨d, by simpa using h1, h2⟩
theorem Dns.app {G : Hp} : ∀ {vs ws : List V} {ds es : List Dt}, Dns G vs ds → Dns G ws es → Dns G (vs ++ ws) (ds ++ es)
  | _, _, _, _, .nil, t => t
  | _, _, _, _, .cons h r, t => .cons h (Dns.app r t)
theorem Dns.one {G : Hp} {v : V} {d : Dt} (h : Dn G v d) : Dns G [v] [d] := .cons h .nil
theorem Dns.tk {G : Hp} : ∀ (n : Nat) {vs : List V} {ds : List Dt}, Dns G vs ds → Dns G (vs.take n) (ds.take n)
  | 0, _, _, _ => .nil
  | _ + 1, _, _, .nil => .nil
  | n + 1, _, _, .cons h t => .cons h (Dns.tk n t)
theorem Dns.dr {G : Hp} : ∀ (n : Nat) {vs : List V} {ds : List Dt}, Dns G vs ds → Dns G (vs.drop n) (ds.drop n)
  | 0, _, _, h => h
  | _ + 1, _, _, .nil => .nil
  | n + 1, _, _, .cons _ t => Dns.dr n t
/-- the name of the one lambda that is made -/
def lamQ : Str := "_law_rows.<locals>.<lambda>"
/-- a table of that lambda's code objects -/
def TabL (H : Hp) (P : Addr) (q : Str) : Prop := q = lamQ ∧ TabS H P q
theorem TabL.ext {H H' : Hp} {P : Addr} {q : Str} (t : TabL H P q) (e : ∀ b o, H b = some o → H' b = some o) : TabL H' P q := ⟨t.1, t.2.ext e⟩
/-! ### slots of a frame, said by data -/
inductive Sl where
  | no
  | da (d : Dt)
  | ow (ds : List Dt)
  | od (kvs : List (Str × Dt))
  | ob (R : Hp → Addr → HO → Prop)
  | dk (a : Addr) (n : Nat)
  | vl (v : V)
  | tb (P : Addr) (q : Str)
abbrev Ev := List Sl
/-- neither a table nor a code object -/
def NoT (a : Addr) (u : HO) : Prop := NoTbl u ∧ ∀ q, u ≠ CodeO a q
theorem noT_lst {a : Addr} {vs : List V} : NoT a (.lst vs) := ⟨fun _ z => (by cases z), fun _ z => (by cases z)⟩
theorem TabL.ne {H : Hp} {P l : Addr} {q : Str} {u : HO} (t : TabL H P q) (h : H l = some u) (n : NoT l u) : P ≠ l := by
  obtain ⟨_, ps, e, _⟩ := t
  rintro rfl
  rw [e] at h
  exact n.1 ps (Option.some.inj h).symm
theorem noT_dK {a : Addr} {kvs : List (Key × V)} : NoT a (.dK kvs) := ⟨fun _ z => (by cases z), fun _ z => (by cases z)⟩
/-- the deck: its list at a, the cells' list at b, at most n more draws wanted -/
def DeckAt (H : Hp) (a b : Addr) (n : Nat) : Prop :=
  a ≠ b ∧ ∃ (k : Int) (cs : List Int), H a = some (.lst [.ref b, .int k]) ∧ H b = some (.lst (cs.map V.int)) ∧ cs.length ≤ 63 ∧ (∀ c ∈ cs, 0 ≤ c) ∧ 0 ≤ k ∧ k + n ≤ 1000000
/-- an object that this frame alone has -/
def ObOk (H0 G H : Hp) (o : Option (Option V)) (as : List Addr) (R : Hp → Addr → HO → Prop) : Prop :=
  ∃ l u, as = [l] ∧ o = some (some (.ref l)) ∧ H l = some u ∧ NoT l u ∧ H0 l = none ∧ ∀ G', Same G G' → R G' l u
def OwL (ds : List Dt) : Hp → Addr → HO → Prop := fun G _ u => ∃ vs, u = .lst vs ∧ Dns G vs ds
def KvD (G : Hp) : List (Key × V) → List (Str × Dt) → Prop := Paired fun p q => p.1 = Sum.inr q.1 ∧ Dn G p.2 q.2
def OwD (kvs : List (Str × Dt)) : Hp → Addr → HO → Prop := fun G _ u => ∃ ps, u = .dK ps ∧ KvD G ps kvs
def SlOk (H0 G H : Hp) (o : Option (Option V)) (as : List Addr) : Sl → Prop
  | .no => as = []
  | .da d => as = [] ∧ ∃ v, o = some (some v) ∧ Dn G v d
  | .ow ds => ObOk H0 G H o as (OwL ds)
  | .od kvs => ObOk H0 G H o as (OwD kvs)
  | .ob R => ObOk H0 G H o as R
  | .dk a n => ∃ b, as = [a, b] ∧ o = some (some (.ref a)) ∧ DeckAt H a b n
  | .vl v => as = [] ∧ o = some (some v)
  | .tb P q => as = [] ∧ TabL H P q ∧ G P = none
/-- what a run of code may lean on from outside: the objects it may change, the frozen data and the heap at its entry -/
structure Bs where
  ex : List Addr
  G : Hp
  H : Hp
structure Rep (B : Bs) (G H : Hp) (σ : L2.St) (ρ : Ev) (xs : List (Addr × HO)) : Prop where
  sub : Same G H
  fr : ∀ a o, B.H a = some o → ∃ o', H a = some o' ∧ G a = B.G a ∧ (NoTbl o → a ∉ B.ex → o' = o)
  tb : ∀ P q, TabL B.H P q → TabL H P q
  own : ∃ ass : List (List Addr), ass.length = ρ.length ∧ (∀ (i : Nat) (s : Sl) (as : List Addr), ρ[i]? = some s → ass[i]? = some as → SlOk B.H G H σ[i]? as s) ∧
    (ass.flatten ++ xs.map (·.1)).Nodup ∧ ∀ a ∈ ass.flatten ++ xs.map (·.1), G a = none ∧ (a ∈ B.ex ∨ B.H a = none)
  ext : ∀ q ∈ xs, H q.1 = some q.2 ∧ NoT q.1 q.2 ∧ B.H q.1 = none
  len : σ.length = ρ.length
/-- a step that makes new things only -/
structure Post (G H G' H' : Hp) : Prop where
  sub : Same G' H'
  fr : ∀ a o, H a = some o → ∃ o', H' a = some o' ∧ G' a = G a ∧ (NoTbl o → o' = o)
  tb : ∀ P q, TabL H P q → TabL H' P q
theorem Post.same {G H G' H' : Hp} (p : Post G H G' H') (s : Same G H) : Same G G' := fun a o e => by
  obtain ⟨_, _, q, _⟩ := p.fr a o (s a o e)
  exact q.trans e
theorem Post.refl {G H : Hp} (s : Same G H) : Post G H G H := ⟨s, fun a o e => ⟨o, e, rfl, fun _ => rfl⟩, fun _ _ t => t⟩
theorem Post.trans {G H G1 H1 G2 H2 : Hp} (p : Post G H G1 H1) (q : Post G1 H1 G2 H2) : Post G H G2 H2 := by
  refine ⟨q.sub, fun a o e => ?_, fun P x t => q.tb P x (p.tb P x t)⟩
  obtain ⟨o1, e1, g1, k1⟩ := p.fr a o e
  obtain ⟨o2, e2, g2, k2⟩ := q.fr a o1 e1
  refine ⟨o2, e2, g2.trans g1, fun n => ?_⟩
  have z := k1 n
  subst z
  exact k2 n
theorem same_new {H : Hp} {p : Addr} (h : H p = none) (o : HO) : Same H (upd H p o) := fun b u q => by rw [upd_ne (ne_of_none q h)]; exact q
theorem free_of {G H : Hp} {p : Addr} (s : Same G H) (h : H p = none) : G p = none := by
  cases e : G p with
  | none => rfl
  | some o =>
    rw [s p o e] at h
    cases h
theorem same_both {G H : Hp} {p : Addr} (s : Same G H) (o : HO) : Same (upd G p o) (upd H p o) := fun b u q => by
  by_cases e : b = p
  · subst e
    rw [upd_same] at q ⊢
    exact q
  · rw [upd_ne e] at q ⊢
    exact s b u q
/-- a new object, frozen at once -/
theorem Post.new {G H : Hp} {p : Addr} (s : Same G H) (h : H p = none) (o : HO) : Post G H (upd G p o) (upd H p o) :=
  ⟨same_both s o, fun a u e => ⟨u, same_new h o a u e, upd_ne (ne_of_none e h), fun _ => rfl⟩, fun _ _ t => t.ext (same_new h o)⟩
/-- a new object, not frozen -/
theorem Post.newX {G H : Hp} {p : Addr} (s : Same G H) (h : H p = none) (o : HO) : Post G H G (upd H p o) :=
  ⟨s.trans (same_new h o), fun a u e => ⟨u, same_new h o a u e, rfl, fun _ => rfl⟩, fun _ _ t => t.ext (same_new h o)⟩
section
variable {B : Bs} {G H G' H' : Hp} {σ : L2.St} {ρ : Ev} {xs : List (Addr × HO)}
theorem noTbl_lst {vs : List V} : NoTbl (.lst vs) := fun _ z => by cases z
theorem ObOk.there {H0 : Hp} {o : Option (Option V)} {as : List Addr} {R : Hp → Addr → HO → Prop} (h : ObOk H0 G H o as R) : ∀ a ∈ as, ∃ u, H a = some u ∧ NoTbl u := by
  obtain ⟨l, u, e, _, hl, nt, _⟩ := h
  intro a ha
  rw [e] at ha
  rw [List.mem_singleton.mp ha]
  exact ⟨u, hl, nt.1⟩
theorem SlOk.there {H0 : Hp} {o : Option (Option V)} {as : List Addr} {s : Sl} (h : SlOk H0 G H o as s) : ∀ a ∈ as, ∃ u, H a = some u ∧ NoTbl u := by
  cases s with
  | no =>
    intro a ha
    rw [show as = [] from h] at ha
    cases ha
  | da d =>
    intro a ha
    rw [h.1] at ha
    cases ha
  | ow ds => exact ObOk.there h
  | od kvs => exact ObOk.there h
  | ob R => exact ObOk.there h
  | vl v =>
    intro a ha
    rw [h.1] at ha
    cases ha
  | tb P q =>
    intro a ha
    rw [h.1] at ha
    cases ha
  | dk a n =>
    obtain ⟨b, e, _, _, k, cs, h1, h2, _⟩ := h
    intro c hc
    rw [e] at hc
    rcases List.mem_cons.mp hc with rfl | hc
    · exact ⟨_, h1, noTbl_lst⟩
    · rw [List.mem_singleton.mp hc]
      exact ⟨_, h2, noTbl_lst⟩
theorem ObOk.grow {H0 : Hp} {o : Option (Option V)} {as : List Addr} {R : Hp → Addr → HO → Prop} (h : ObOk H0 G H o as R) (sg : Same G G') (k : ∀ a u, a ∈ as → H a = some u → NoTbl u → H' a = some u) : ObOk H0 G' H' o as R := by
  obtain ⟨l, u, e, q, hl, nt, h0, r⟩ := h
  exact ⟨l, u, e, q, k l u (by rw [e]; simp) hl nt.1, nt, h0, fun G2 s2 => r G2 (sg.trans s2)⟩
theorem SlOk.grow {H0 : Hp} {o : Option (Option V)} {as : List Addr} {s : Sl} (h : SlOk H0 G H o as s) (sg : Same G G') (k : ∀ a u, a ∈ as → H a = some u → NoTbl u → H' a = some u)
    (kt : ∀ P q, TabL H P q → TabL H' P q ∧ G' P = G P) : SlOk H0 G' H' o as s := by
  cases s with
  | no => exact h
  | da d =>
    obtain ⟨e, v, q, r⟩ := h
    exact ⟨e, v, q, r.gr sg⟩
  | ow ds => exact ObOk.grow h sg k
  | od kvs => exact ObOk.grow h sg k
  | ob R => exact ObOk.grow h sg k
  | vl v => exact h
  | tb P q =>
    obtain ⟨e, t, g⟩ := h
    obtain ⟨t', g'⟩ := kt P q t
    exact ⟨e, t', g'.trans g⟩
  | dk a n =>
    obtain ⟨b, e, q, ne, c, cs, h1, h2, r⟩ := h
    exact ⟨b, e, q, ne, c, cs, k a _ (by rw [e]; simp) h1 noTbl_lst, k b _ (by rw [e]; simp) h2 noTbl_lst, r⟩
theorem flat_mem {ass : List (List Addr)} {i : Nat} {as : List Addr} {a : Addr} (h : ass[i]? = some as) (ha : a ∈ as) : a ∈ ass.flatten :=
  List.mem_flatten.mpr ⟨as, List.mem_of_getElem? h, ha⟩
theorem Rep.owned (R : Rep B G H σ ρ xs) {ass : List (List Addr)} (hl : ass.length = ρ.length) (hs : ∀ (i : Nat) (s : Sl) (as : List Addr), ρ[i]? = some s → ass[i]? = some as → SlOk B.H G H σ[i]? as s) :
    ∀ a ∈ ass.flatten ++ xs.map (·.1), ∃ u, H a = some u ∧ NoTbl u := by
  intro a ha
  rcases List.mem_append.mp ha with h | h
  · obtain ⟨as, h1, h2⟩ := List.mem_flatten.mp h
    obtain ⟨i, hi⟩ := List.mem_iff_getElem?.mp h1
    have hi2 : i < ρ.length := by
      rw [← hl]
      exact (List.getElem?_eq_some_iff.mp hi).1
    exact (hs i ρ[i] as (List.getElem?_eq_getElem hi2) hi).there a h2
  · obtain ⟨q, h1, rfl⟩ := List.mem_map.mp h
    exact ⟨_, (R.ext q h1).1, (R.ext q h1).2.1.1⟩
theorem Rep.grow (R : Rep B G H σ ρ xs) (p : Post G H G' H') : Rep B G' H' σ ρ xs := by
  obtain ⟨ass, hl, hs, nd, fr⟩ := R.own
  have ow := R.owned hl hs
  have sg := p.same R.sub
  refine ⟨p.sub, fun a o e => ?_, fun P q t => p.tb P q (R.tb P q t), ⟨ass, hl, fun i s as h1 h2 => ?_, nd, fun a ha => ?_⟩, fun q hq => ?_, R.len⟩
  · obtain ⟨o1, e1, g1, k1⟩ := R.fr a o e
    obtain ⟨o2, e2, g2, k2⟩ := p.fr a o1 e1
    refine ⟨o2, e2, g2.trans g1, fun n hx => ?_⟩
    have z := k1 n hx
    subst z
    exact k2 n
  · refine (hs i s as h1 h2).grow sg (fun a u ha e n => ?_) (fun P q t => ⟨p.tb P q t, let ⟨_, ps, e, _⟩ := t; let ⟨_, _, g, _⟩ := p.fr P _ e; g⟩)
    obtain ⟨o', e', _, k⟩ := p.fr a u e
    rw [e', k n]
  · obtain ⟨u, e, _⟩ := ow a ha
    obtain ⟨_, _, g, _⟩ := p.fr a u e
    exact ⟨g.trans (fr a ha).1, (fr a ha).2⟩
  · obtain ⟨e, n, z⟩ := R.ext q hq
    obtain ⟨o', e', _, k⟩ := p.fr _ _ e
    exact ⟨by rw [e', k n.1], n, z⟩
/-- a new object stands beside -/
theorem Rep.fresh (R : Rep B G H σ ρ xs) {p : Addr} (h : H p = none) : B.H p = none := by
  cases e : B.H p with
  | none => rfl
  | some o =>
    obtain ⟨o', e', _⟩ := R.fr p o e
    rw [e'] at h
    cases h
theorem Rep.newX (R : Rep B G H σ ρ xs) {p : Addr} {o : HO} (h : H p = none) (n : NoT p o) : Rep B G (upd H p o) σ ρ ((p, o) :: xs) := by
  have R1 := R.grow (Post.newX R.sub h o)
  obtain ⟨ass, hl, hs, nd, fr⟩ := R.own
  have ow := R.owned hl hs
  have np : p ∉ ass.flatten ++ xs.map (·.1) := fun z => by
    obtain ⟨u, e, _⟩ := ow p z
    rw [h] at e
    cases e
  refine ⟨R1.sub, R1.fr, R1.tb, ⟨ass, hl, fun i s as h1 h2 => ?_, ?_, fun a ha => ?_⟩, fun q hq => ?_, R.len⟩
  · exact (hs i s as h1 h2).grow (Same.refl G) (fun a u ha e _ => same_new h o a u e) fun P q t => ⟨t.ext (same_new h o), rfl⟩
  · rw [List.map_cons]
    have e : (ass.flatten ++ p :: xs.map (·.1)).Perm (p :: (ass.flatten ++ xs.map (·.1))) := List.perm_middle
    exact e.nodup_iff.mpr (List.nodup_cons.mpr ⟨np, nd⟩)
  · rw [List.map_cons] at ha
    rcases List.mem_append.mp ha with z | z
    · exact fr a (List.mem_append_left _ z)
    · rcases List.mem_cons.mp z with e | z
      · subst e
        exact ⟨free_of R.sub h, .inr (R.fresh h)⟩
      · exact fr a (List.mem_append_right _ z)
  · rcases List.mem_cons.mp hq with rfl | hq
    · exact ⟨upd_same, n, R.fresh h⟩
    · exact R1.ext q hq
/-- it is frozen now -/
theorem Rep.pub {p : Addr} {o : HO} (R : Rep B G H σ ρ ((p, o) :: xs)) : Rep B (upd G p o) H σ ρ xs ∧ Same G (upd G p o) := by
  obtain ⟨ass, hl, hs, nd, fr⟩ := R.own
  have hp := R.ext _ List.mem_cons_self
  have gp : G p = none := (fr p (List.mem_append_right _ (by simp))).1
  have sg : Same G (upd G p o) := same_new gp o
  rw [List.map_cons] at nd
  have e : (ass.flatten ++ p :: xs.map (·.1)).Perm (p :: (ass.flatten ++ xs.map (·.1))) := List.perm_middle
  obtain ⟨np, nd2⟩ := List.nodup_cons.mp (e.nodup_iff.mp nd)
  refine ⟨⟨fun b u q => ?_, fun a u q => ?_, R.tb, ⟨ass, hl, fun i s as h1 h2 => (hs i s as h1 h2).grow sg (fun a u _ e _ => e) fun P q t => ⟨t, upd_ne (t.ne hp.1 hp.2.1)⟩, nd2, fun a ha => ?_⟩, fun q hq => R.ext q (List.mem_cons_of_mem _ hq), R.len⟩, sg⟩
  · by_cases z : b = p
    · subst z
      rw [upd_same] at q
      rw [← q]
      exact hp.1
    · rw [upd_ne z] at q
      exact R.sub b u q
  · obtain ⟨o', h1, h2, h3⟩ := R.fr a u q
    refine ⟨o', h1, ?_, h3⟩
    rw [upd_ne]
    · exact h2
    · rintro rfl
      rw [hp.2.2] at q
      cases q
  · have z : a ≠ p := fun z => np (z ▸ ha)
    rw [upd_ne z]
    refine fr a ?_
    rw [List.map_cons]
    rcases List.mem_append.mp ha with q | q
    · exact List.mem_append_left _ q
    · exact List.mem_append_right _ (List.mem_cons_of_mem _ q)
/-- forgotten -/
theorem Rep.drop {q : Addr × HO} (R : Rep B G H σ ρ (q :: xs)) : Rep B G H σ ρ xs := by
  obtain ⟨ass, hl, hs, nd, fr⟩ := R.own
  rw [List.map_cons] at nd fr
  have e : (ass.flatten ++ q.1 :: xs.map (·.1)).Perm (q.1 :: (ass.flatten ++ xs.map (·.1))) := List.perm_middle
  obtain ⟨np, nd2⟩ := List.nodup_cons.mp (e.nodup_iff.mp nd)
  refine ⟨R.sub, R.fr, R.tb, ⟨ass, hl, hs, nd2, fun a ha => fr a ?_⟩, fun q hq => R.ext q (List.mem_cons_of_mem _ hq), R.len⟩
  rcases List.mem_append.mp ha with q | q
  · exact List.mem_append_left _ q
  · exact List.mem_append_right _ (List.mem_cons_of_mem _ q)
/-- a slot that holds data -/
theorem Rep.slot (R : Rep B G H σ ρ xs) {i : Nat} {d : Dt} (h : ρ[i]? = some (.da d)) : ∃ v, σ[i]? = some (some v) ∧ Dn G v d := by
  obtain ⟨ass, hl, hs, _, _⟩ := R.own
  have hi : i < ass.length := by
    rw [hl]
    exact (List.getElem?_eq_some_iff.mp h).1
  obtain ⟨_, v, e, r⟩ := hs i _ ass[i] h (List.getElem?_eq_getElem hi)
  exact ⟨v, e, r⟩
/-! ### a slot is stored -/
theorem flat_set {l : List Addr} : ∀ {ass : List (List Addr)} {i : Nat} {a : Addr}, a ∈ (ass.set i l).flatten → a ∈ l ∨ a ∈ ass.flatten
  | [], _, _, h => .inr h
  | x :: r, 0, a, h => by
    rw [List.set_cons_zero, List.flatten_cons] at h
    rcases List.mem_append.mp h with h | h
    · exact .inl h
    · exact .inr (List.mem_append_right _ h)
  | x :: r, i + 1, a, h => by
    rw [List.set_cons_succ, List.flatten_cons] at h
    rcases List.mem_append.mp h with h | h
    · exact .inr (List.mem_append_left _ h)
    · rcases flat_set h with h | h
      · exact .inl h
      · exact .inr (List.mem_append_right _ h)
theorem nodup_set {l : List Addr} : ∀ {ass : List (List Addr)} {i : Nat} {ys : List Addr}, (l ++ (ass.flatten ++ ys)).Nodup → ((ass.set i l).flatten ++ ys).Nodup
  | [], _, ys, h => (List.nodup_append.mp h).2.1
  | x :: r, 0, ys, h => by
    rw [List.set_cons_zero, List.flatten_cons, List.append_assoc]
    rw [List.flatten_cons, List.append_assoc] at h
    exact List.Nodup.sublist (List.Sublist.append (List.Sublist.refl l) (List.sublist_append_right x (r.flatten ++ ys))) h
  | x :: r, i + 1, ys, h => by
    rw [List.set_cons_succ, List.flatten_cons, List.append_assoc]
    rw [List.flatten_cons, List.append_assoc] at h
    have h1 : (l ++ (r.flatten ++ ys)).Nodup := List.Nodup.sublist (List.Sublist.append (List.Sublist.refl l) (List.sublist_append_right x (r.flatten ++ ys))) h
    refine List.nodup_append.mpr ⟨?_, nodup_set h1, fun a ha b hb => ?_⟩
    · exact (List.nodup_append.mp (List.nodup_append.mp h).2.1).1
    · rcases List.mem_append.mp hb with hb | hb
      · rcases flat_set hb with hb | hb
        · exact ((List.nodup_append.mp h).2.2 b hb a (List.mem_append_left _ ha)).symm
        · exact (List.nodup_append.mp (List.nodup_append.mp h).2.1).2.2 a ha b (List.mem_append_left _ hb)
      · exact (List.nodup_append.mp (List.nodup_append.mp h).2.1).2.2 a ha b (List.mem_append_right _ hb)
/-- the general store: slot i gets what owns l -/
theorem Rep.put (R : Rep B G H σ ρ xs) {i : Nat} {v : Option V} {s : Sl} {l : List Addr} {ys : List (Addr × HO)} (hs : SlOk B.H G H (some v) l s)
    (hx : ∀ q ∈ ys, q ∈ xs) (nd : ∀ zs : List Addr, (zs ++ xs.map (·.1)).Nodup → (l ++ (zs ++ ys.map (·.1))).Nodup) (fr : ∀ a ∈ l, G a = none ∧ (a ∈ B.ex ∨ B.H a = none)) : Rep B G H (σ.set i v) (ρ.set i s) ys := by
  obtain ⟨ass, hl, hss, nd0, fr0⟩ := R.own
  refine ⟨R.sub, R.fr, R.tb, ⟨ass.set i l, by simp [hl], fun j s' as h1 h2 => ?_, nodup_set (nd _ nd0), fun a ha => ?_⟩, fun q hq => R.ext q (hx q hq), by simp [R.len]⟩
  · by_cases e : i = j
    · subst e
      have hi : i < ρ.length := by
        have := (List.getElem?_eq_some_iff.mp h1).1
        simpa using this
      rw [List.getElem?_set_self hi] at h1
      rw [List.getElem?_set_self (by rw [hl]; exact hi)] at h2
      rw [List.getElem?_set_self (by rw [R.len]; exact hi)]
      cases h1
      cases h2
      exact hs
    · rw [List.getElem?_set_ne e] at h1 h2 ⊢
      exact hss j s' as h1 h2
  · rcases List.mem_append.mp ha with h | h
    · rcases flat_set h with h | h
      · exact fr a h
      · exact fr0 a (List.mem_append_left _ h)
    · obtain ⟨q, h1, rfl⟩ := List.mem_map.mp h
      exact fr0 _ (List.mem_append_right _ (List.mem_map.mpr ⟨q, hx q h1, rfl⟩))
theorem Rep.set (R : Rep B G H σ ρ xs) (i : Nat) {v : V} {d : Dt} (h : Dn G v d) : Rep B G H (σ.set i (some v)) (ρ.set i (.da d)) xs :=
  R.put (l := []) ⟨rfl, v, rfl, h⟩ (fun _ q => q) (fun _ n => n) fun a ha => by cases ha
theorem Rep.setOb {l : Addr} {u : HO} (R : Rep B G H σ ρ ((l, u) :: xs)) (i : Nat) {s : Sl} (h : ObOk B.H G H (some (some (.ref l))) [l] (fun _ _ _ => True) → SlOk B.H G H (some (some (.ref l))) [l] s) : Rep B G H (σ.set i (some (.ref l))) (ρ.set i s) xs := by
  obtain ⟨e, n, z⟩ := R.ext _ List.mem_cons_self
  obtain ⟨ass, hl, hss, nd0, fr0⟩ := R.own
  have g0 := fr0 l (List.mem_append_right _ (by simp))
  refine R.put (l := [l]) (h ⟨l, u, rfl, rfl, e, n, z, fun _ _ => trivial⟩) (fun q hq => List.mem_cons_of_mem _ hq) (fun zs n => ?_) fun a ha => ?_
  · rw [List.map_cons] at n
    have p : (zs ++ l :: xs.map (·.1)).Perm (l :: (zs ++ xs.map (·.1))) := List.perm_middle
    exact p.nodup_iff.mp n
  · rw [List.mem_singleton.mp ha]
    exact g0
theorem Rep.setL {l : Addr} {vs : List V} {ds : List Dt} (R : Rep B G H σ ρ ((l, .lst vs) :: xs)) (i : Nat) (h : Dns G vs ds) : Rep B G H (σ.set i (some (.ref l))) (ρ.set i (.ow ds)) xs :=
  R.setOb i fun _ => by
    obtain ⟨e, n, z⟩ := R.ext _ List.mem_cons_self
    exact ⟨l, _, rfl, rfl, e, n, z, fun G' s => ⟨vs, rfl, h.gr s⟩⟩
theorem Rep.setR {l : Addr} {u : HO} {Ro : Hp → Addr → HO → Prop} (R : Rep B G H σ ρ ((l, u) :: xs)) (i : Nat) (h : ∀ G', Same G G' → Ro G' l u) : Rep B G H (σ.set i (some (.ref l))) (ρ.set i (.ob Ro)) xs :=
  R.setOb i fun _ => by
    obtain ⟨e, n, z⟩ := R.ext _ List.mem_cons_self
    exact ⟨l, _, rfl, rfl, e, n, z, h⟩
theorem Rep.setD {l : Addr} {ps : List (Key × V)} {kvs : List (Str × Dt)} (R : Rep B G H σ ρ ((l, .dK ps) :: xs)) (i : Nat) (h : ∀ G', Same G G' → KvD G' ps kvs) : Rep B G H (σ.set i (some (.ref l))) (ρ.set i (.od kvs)) xs :=
  R.setOb i fun _ => by
    obtain ⟨e, n, z⟩ := R.ext _ List.mem_cons_self
    exact ⟨l, _, rfl, rfl, e, n, z, fun G' s => ⟨ps, rfl, h G' s⟩⟩
/-! ### an owned object is read, written -/
theorem set_self {α : Type} : ∀ {l : List α} {i : Nat} {x : α}, l[i]? = some x → l.set i x = l
  | [], _, _, h => by simp at h
  | y :: r, 0, x, h => by
    simp only [List.getElem?_cons_zero, Option.some.injEq] at h
    rw [h, List.set_cons_zero]
  | y :: r, i + 1, x, h => by
    simp only [List.getElem?_cons_succ] at h
    rw [List.set_cons_succ, set_self h]
theorem Rep.obAt (R : Rep B G H σ ρ xs) {i : Nat} {s : Sl} {Ro : Hp → Addr → HO → Prop} (h : ρ[i]? = some s) (hs : ∀ as, SlOk B.H G H σ[i]? as s → ObOk B.H G H σ[i]? as Ro) :
    ∃ l u, σ[i]? = some (some (.ref l)) ∧ H l = some u ∧ Ro G l u ∧ NoT l u := by
  obtain ⟨ass, hl, hss, _, _⟩ := R.own
  have hi : i < ass.length := by
    rw [hl]
    exact (List.getElem?_eq_some_iff.mp h).1
  obtain ⟨l, u, _, e, hu, n, _, r⟩ := hs _ (hss i s ass[i] h (List.getElem?_eq_getElem hi))
  exact ⟨l, u, e, hu, r G (Same.refl G), n⟩
theorem Rep.owAt (R : Rep B G H σ ρ xs) {i : Nat} {ds : List Dt} (h : ρ[i]? = some (.ow ds)) : ∃ l vs, σ[i]? = some (some (.ref l)) ∧ H l = some (.lst vs) ∧ Dns G vs ds := by
  obtain ⟨l, u, e, hu, ⟨vs, e2, r⟩, _⟩ := R.obAt (Ro := OwL ds) h fun _ q => q
  subst e2
  exact ⟨l, vs, e, hu, r⟩
theorem Rep.odAt (R : Rep B G H σ ρ xs) {i : Nat} {kvs : List (Str × Dt)} (h : ρ[i]? = some (.od kvs)) : ∃ l ps, σ[i]? = some (some (.ref l)) ∧ H l = some (.dK ps) ∧ KvD G ps kvs := by
  obtain ⟨l, u, e, hu, ⟨vs, e2, r⟩, _⟩ := R.obAt (Ro := OwD kvs) h fun _ q => q
  subst e2
  exact ⟨l, vs, e, hu, r⟩
theorem tabL_upd {P : Addr} {q : Str} {l : Addr} {u u' : HO} (t : TabL H P q) (hl : H l = some u) (n : NoT l u) : TabL (upd H l u') P q := by
  obtain ⟨eq, ps, h1, h2, h3⟩ := t
  refine ⟨eq, ps, ?_, h2, fun pos cv e => ?_⟩
  · rw [upd_ne]
    · exact h1
    · rintro rfl
      rw [h1] at hl
      exact n.1 ps (Option.some.inj hl).symm
  · obtain ⟨c, e1, e2⟩ := h3 pos cv e
    refine ⟨c, e1, ?_⟩
    rw [upd_ne]
    · exact e2
    · rintro rfl
      rw [e2] at hl
      exact n.2 q (Option.some.inj hl).symm
/-- the owned object of slot i is written -/
theorem Rep.write (R : Rep B G H σ ρ xs) {i : Nat} {s s' : Sl} {Ro : Hp → Addr → HO → Prop} {l : Addr} {u' : HO} (h : ρ[i]? = some s) (hs : ∀ as, SlOk B.H G H σ[i]? as s → ObOk B.H G H σ[i]? as Ro)
    (hl : σ[i]? = some (some (.ref l))) (n' : NoT l u') (h' : B.H l = none → SlOk B.H G (upd H l u') (some (some (.ref l))) [l] s') : Rep B G (upd H l u') σ (ρ.set i s') xs := by
  obtain ⟨ass, hal, hss, nd, fr⟩ := R.own
  have hi : i < ass.length := by
    rw [hal]
    exact (List.getElem?_eq_some_iff.mp h).1
  have hai : ass[i]? = some ass[i] := List.getElem?_eq_getElem hi
  obtain ⟨l2, u, ea, e, hu, n, h0, r⟩ := hs _ (hss i s ass[i] h hai)
  rw [hl] at e
  cases e
  have lmem : l ∈ ass.flatten := flat_mem hai (by rw [ea]; simp)
  have apart : ∀ (j : Nat) (as : List Addr), ass[j]? = some as → j ≠ i → l ∉ as := fun j as hj ne z => by
    have e1 : ass = ass.take i ++ ass[i] :: ass.drop (i + 1) := by
      have := List.take_append_drop i ass
      rw [List.drop_eq_getElem_cons hi] at this
      exact this.symm
    have nd1 := (List.nodup_append.mp nd).1
    rw [e1, List.flatten_append, List.flatten_cons] at nd1
    obtain ⟨_, nd2, nd3⟩ := List.nodup_append.mp nd1
    obtain ⟨_, _, nd4⟩ := List.nodup_append.mp nd2
    have la : l ∈ ass[i] := by rw [ea]; simp
    rcases Nat.lt_or_ge j i with c | c
    · have : l ∈ (ass.take i).flatten := List.mem_flatten.mpr ⟨as, List.mem_of_getElem? (i := j) (by rw [List.getElem?_take_of_lt c]; exact hj), z⟩
      exact nd3 l this l (List.mem_append_left _ la) rfl
    · have c2 : i + 1 ≤ j := by omega
      have : l ∈ (ass.drop (i + 1)).flatten := List.mem_flatten.mpr ⟨as, List.mem_of_getElem? (i := j - (i + 1)) (by rw [List.getElem?_drop, Nat.add_sub_cancel' c2]; exact hj), z⟩
      exact nd4 l la l this rfl
  refine ⟨fun a o q => ?_, fun a o q => ?_, fun P q t => tabL_upd (R.tb P q t) hu n, ⟨ass, by simp [hal], fun j s2 as h1 h2 => ?_, nd, fr⟩, fun q hq => ?_, by simp [R.len]⟩
  · rw [upd_ne]
    · exact R.sub a o q
    · rintro rfl
      rw [(fr a (List.mem_append_left _ lmem)).1] at q
      cases q
  · obtain ⟨o', h1, h2, h3⟩ := R.fr a o q
    refine ⟨o', ?_, h2, h3⟩
    rw [upd_ne]
    · exact h1
    · rintro rfl
      rw [h0] at q
      cases q
  · by_cases ej : i = j
    · subst ej
      have hi2 : i < ρ.length := by rw [← hal]; exact hi
      rw [List.getElem?_set_self hi2] at h1
      rw [hai] at h2
      cases h1
      cases h2
      rw [hl, ea]
      exact h' h0
    · rw [List.getElem?_set_ne ej] at h1
      refine (hss j s2 as h1 h2).grow (Same.refl G) (fun a w ha e _ => ?_) fun P q t => ⟨tabL_upd t hu n, rfl⟩
      rw [upd_ne]
      · exact e
      · rintro rfl
        exact apart j as h2 (Ne.symm ej) ha
  · obtain ⟨e1, e2, e3⟩ := R.ext q hq
    refine ⟨?_, e2, e3⟩
    rw [upd_ne]
    · exact e1
    · intro z
      exact (List.nodup_append.mp nd).2.2 l lmem q.1 (List.mem_map.mpr ⟨q, hq, rfl⟩) z.symm
theorem Rep.writeL (R : Rep B G H σ ρ xs) {i : Nat} {ds ds' : List Dt} {l : Addr} {vs' : List V} (h : ρ[i]? = some (.ow ds)) (hl : σ[i]? = some (some (.ref l))) (h' : Dns G vs' ds') : Rep B G (upd H l (.lst vs')) σ (ρ.set i (.ow ds')) xs :=
  R.write (Ro := OwL ds) h (fun _ q => q) hl noT_lst fun z => ⟨l, _, rfl, rfl, upd_same, noT_lst, z, fun G' s => ⟨vs', rfl, h'.gr s⟩⟩
theorem KvD.gr {ps : List (Key × V)} {kvs : List (Str × Dt)} (h : KvD G ps kvs) (s : Same G G') : KvD G' ps kvs := Paired.mapP h fun _ _ z => ⟨z.1, z.2.gr s⟩
theorem Rep.writeD (R : Rep B G H σ ρ xs) {i : Nat} {kvs kvs' : List (Str × Dt)} {l : Addr} {ps' : List (Key × V)} (h : ρ[i]? = some (.od kvs)) (hl : σ[i]? = some (some (.ref l))) (h' : KvD G ps' kvs') : Rep B G (upd H l (.dK ps')) σ (ρ.set i (.od kvs')) xs :=
  R.write (Ro := OwD kvs) h (fun _ q => q) hl noT_dK fun z => ⟨l, _, rfl, rfl, upd_same, noT_dK, z, fun G' s => ⟨ps', rfl, h'.gr s⟩⟩
/-- an owned list is frozen: data from now on -/
theorem Rep.pubO (R : Rep B G H σ ρ xs) {i : Nat} {ds : List Dt} (h : ρ[i]? = some (.ow ds)) : ∃ G', Same G G' ∧ Rep B G' H σ (ρ.set i (.da (.list ds))) xs := by
  obtain ⟨l, vs, hl, hu, r⟩ := R.owAt h
  obtain ⟨ass, hal, hss, nd, fr⟩ := R.own
  have hi : i < ass.length := by
    rw [hal]
    exact (List.getElem?_eq_some_iff.mp h).1
  have hai : ass[i]? = some ass[i] := List.getElem?_eq_getElem hi
  obtain ⟨l2, u, ea, e, hu2, n, h0, r2⟩ := hss i _ ass[i] h hai
  rw [hl] at e
  cases e
  rw [hu] at hu2
  cases hu2
  have e1 : ass = ass.take i ++ ass[i] :: ass.drop (i + 1) := by
    have := List.take_append_drop i ass
    rw [List.drop_eq_getElem_cons hi] at this
    exact this.symm
  have e2 : (ass.flatten ++ xs.map (·.1)).Perm (l :: ((ass.set i []).flatten ++ xs.map (·.1))) := by
    have e3 : ass.set i [] = ass.take i ++ [] :: ass.drop (i + 1) := by
      rw [List.set_eq_take_append_cons_drop, if_pos hi]
    rw [e3]
    conv => lhs; rw [e1]
    rw [List.flatten_append, List.flatten_append, List.flatten_cons, List.flatten_cons, ea, List.nil_append, List.singleton_append, List.append_assoc, List.append_assoc, List.cons_append]
    exact List.perm_middle
  obtain ⟨nl, nd2⟩ := List.nodup_cons.mp (e2.nodup_iff.mp nd)
  have gl : G l = none := (fr l (e2.mem_iff.mpr List.mem_cons_self)).1
  have sg : Same G (upd G l (.lst vs)) := same_new gl _
  refine ⟨upd G l (.lst vs), sg, fun b w q => ?_, fun a w q => ?_, R.tb, ⟨ass.set i [], by simp [hal], fun j s as h1 h2 => ?_, nd2, fun a ha => ?_⟩, R.ext, by simp [R.len]⟩
  · by_cases z : b = l
    · subst z
      rw [upd_same] at q
      rw [← q]
      exact hu
    · rw [upd_ne z] at q
      exact R.sub b w q
  · obtain ⟨o', k1, k2, k3⟩ := R.fr a w q
    refine ⟨o', k1, ?_, k3⟩
    rw [upd_ne]
    · exact k2
    · rintro rfl
      rw [h0] at q
      cases q
  · by_cases ej : i = j
    · subst ej
      have hi2 : i < ρ.length := by rw [← hal]; exact hi
      rw [List.getElem?_set_self hi2] at h1
      rw [List.getElem?_set_self hi] at h2
      cases h1
      cases h2
      exact ⟨rfl, _, hl, .lst upd_same (r.gr sg)⟩
    · rw [List.getElem?_set_ne ej] at h1 h2
      exact (hss j s as h1 h2).grow sg (fun a w _ e _ => e) fun P q t => ⟨t, upd_ne (t.ne hu noT_lst)⟩
  · have z : a ≠ l := fun z => nl (z ▸ ha)
    rw [upd_ne z]
    exact fr a (e2.mem_iff.mpr (List.mem_cons_of_mem _ ha))
/-! ### names forgotten, names told anew -/
def wipeE (ρ : Ev) : List Nat → Ev
  | [] => ρ
  | v :: vs => (wipeE ρ vs).set v .no
theorem Rep.wipe (R : Rep B G H σ ρ xs) : ∀ vs : List Nat, Rep B G H (L2.wipe σ vs) (wipeE ρ vs) xs
  | [] => R
  | v :: vs => (R.wipe vs).put (l := []) rfl (fun _ q => q) (fun _ n => n) fun a ha => by cases ha
theorem wipeE_get (ρ : Ev) : ∀ (vs : List Nat) (j : Nat), (wipeE ρ vs)[j]? = if j ∈ vs then ρ[j]?.map (fun _ => .no) else ρ[j]?
  | [], j => by simp [wipeE]
  | v :: vs, j => by
    have hl : ∀ vs : List Nat, (wipeE ρ vs).length = ρ.length := fun vs => by
      induction vs with
      | nil => rfl
      | cons v vs ih => show ((wipeE ρ vs).set v .no).length = _; rw [List.length_set, ih]
    show ((wipeE ρ vs).set v .no)[j]? = _
    rw [List.getElem?_set]
    by_cases e : v = j
    · subst e
      rw [hl]
      by_cases c : v < ρ.length
      · simp [c]
      · simp [c]
    · rw [if_neg e, wipeE_get ρ vs j]
      have e' : j ≠ v := fun z => e z.symm
      simp [e']
theorem Rep.sig {σ' : L2.St} (R : Rep B G H σ ρ xs) (h : ∀ i : Nat, ρ[i]? = some Sl.no ∨ σ'[i]? = σ[i]?) (hl : σ'.length = σ.length) : Rep B G H σ' ρ xs := by
  obtain ⟨ass, hal, hss, nd, fr⟩ := R.own
  refine ⟨R.sub, R.fr, R.tb, ⟨ass, hal, fun i s as h1 h2 => ?_, nd, fr⟩, R.ext, hl.trans R.len⟩
  have z := hss i s as h1 h2
  rcases h i with e | e
  · rw [e] at h1
    cases h1
    exact z
  · rw [e]
    exact z
/-- an object that stands beside is written -/
theorem Rep.extW {p : Addr} {u u' : HO} (R : Rep B G H σ ρ ((p, u) :: xs)) (n' : NoT p u') : Rep B G (upd H p u') σ ρ ((p, u') :: xs) := by
  obtain ⟨ass, hl, hs, nd, fr⟩ := R.own
  obtain ⟨e, n, z⟩ := R.ext _ List.mem_cons_self
  rw [List.map_cons] at nd fr
  have pm : (ass.flatten ++ p :: xs.map (·.1)).Perm (p :: (ass.flatten ++ xs.map (·.1))) := List.perm_middle
  obtain ⟨np, _⟩ := List.nodup_cons.mp (pm.nodup_iff.mp nd)
  have gp : G p = none := (fr p (List.mem_append_right _ (by simp))).1
  refine ⟨fun a o q => ?_, fun a o q => ?_, fun P q t => tabL_upd (R.tb P q t) e n, ⟨ass, hl, fun i s as h1 h2 => ?_, by rw [List.map_cons]; exact nd, by rw [List.map_cons]; exact fr⟩, fun q hq => ?_, R.len⟩
  · rw [upd_ne]
    · exact R.sub a o q
    · rintro rfl
      rw [gp] at q
      cases q
  · obtain ⟨o', h1, h2, h3⟩ := R.fr a o q
    refine ⟨o', ?_, h2, h3⟩
    rw [upd_ne]
    · exact h1
    · rintro rfl
      rw [z] at q
      cases q
  · refine (hs i s as h1 h2).grow (Same.refl G) (fun a w ha q _ => ?_) fun P q t => ⟨tabL_upd t e n, rfl⟩
    rw [upd_ne]
    · exact q
    · rintro rfl
      exact np (List.mem_append_left _ (flat_mem h2 ha))
  · rcases List.mem_cons.mp hq with rfl | hq2
    · exact ⟨upd_same, n', z⟩
    · obtain ⟨e1, e2, e3⟩ := R.ext q (List.mem_cons_of_mem _ hq2)
      refine ⟨?_, e2, e3⟩
      rw [upd_ne]
      · exact e1
      · rintro rfl
        exact np (List.mem_append_right _ (List.mem_map.mpr ⟨q, hq2, rfl⟩))
/-! ### a look at the frame's own lists, as data -/
def peekS : Sl → Sl
  | .da d => .da d
  | .ow ds => .da (.list ds)
  | _ => .no
def peekE (ρ : Ev) : Ev := ρ.map peekS
theorem Rep.peek (R : Rep B G H σ ρ xs) : ∃ G', Same G G' ∧ Rep ⟨[], G', H⟩ G' H σ (peekE ρ) [] := by
  -- all own lists are frozen for the look: G' holds what H holds at their addresses
  obtain ⟨ass, hal, hss, nd, fr⟩ := R.own
  refine ⟨fun a => if a ∈ ass.flatten then H a else G a, fun a o q => ?_, fun a o q => ?_, fun a o q => ⟨o, q, rfl, fun _ _ => rfl⟩, fun _ _ t => t, ⟨List.replicate ρ.length [], by simp [peekE], fun i s as h1 h2 => ?_, by simp, fun a ha => ?_⟩, fun q hq => (by cases hq), by simp [peekE, R.len]⟩
  · have : a ∉ ass.flatten := fun z => by
      rw [(fr a (List.mem_append_left _ z)).1] at q
      cases q
    show (if a ∈ ass.flatten then H a else G a) = some o
    rw [if_neg this]
    exact q
  · have q : (if a ∈ ass.flatten then H a else G a) = some o := q
    by_cases c : a ∈ ass.flatten
    · rw [if_pos c] at q
      exact q
    · rw [if_neg c] at q
      exact R.sub a o q
  · have e2 : as = [] := by
      have := List.mem_of_getElem? h2
      exact (List.mem_replicate.mp this).2
    subst e2
    unfold peekE at h1
    rw [List.getElem?_map] at h1
    cases q : ρ[i]? with
    | none =>
      rw [q] at h1
      cases h1
    | some s0 =>
      rw [q] at h1
      have hi : i < ass.length := by
        rw [hal]
        exact (List.getElem?_eq_some_iff.mp q).1
      have hai := List.getElem?_eq_getElem hi
      have z := hss i s0 _ q hai
      have e3 : peekS s0 = s := Option.some.inj h1
      subst e3
      have sg : Same G (fun a => if a ∈ ass.flatten then H a else G a) := fun a o q => by
        have : a ∉ ass.flatten := fun z => by
          rw [(fr a (List.mem_append_left _ z)).1] at q
          cases q
        show (if a ∈ ass.flatten then H a else G a) = some o
        rw [if_neg this]
        exact q
      cases s0 with
      | da d =>
        obtain ⟨_, v, e4, dn⟩ := z
        exact ⟨rfl, v, e4, dn.gr sg⟩
      | ow ds =>
        obtain ⟨l, u, ea, e4, hu, _, _, r⟩ := z
        obtain ⟨vs, e5, dn⟩ := r _ sg
        subst e5
        refine ⟨rfl, _, e4, .lst ?_ dn⟩
        show (if l ∈ ass.flatten then H l else G l) = _
        rw [if_pos (flat_mem hai (by rw [ea]; simp))]
        exact hu
      | no => rfl
      | od kvs => rfl
      | ob Ro => rfl
      | vl v => rfl
      | tb P q => rfl
      | dk a n => rfl
  · simp at ha
end
end MP
-- DL2
/-! DATA LAYER 2: expressions. -/
namespace MP
open PySem PySem.Spec PyProof.Rows L2 LamX
/-! ### what code makes of data -/
abbrev WE := Ev → (Dt → Ev → Prop) → Prop
abbrev WT := Ev → (Bool → Ev → Prop) → Prop
abbrev WA := Ev → (List Dt → Ev → Prop) → Prop
def RdE (te : TE) (w : WE) : Prop := ∀ (B : Bs) (G H : Hp) (σ : L2.St) (ρ : Ev) (xs : List (Addr × HO)) (Φ : Dt → Ev → Prop) (Q : VK), Rep B G H σ ρ xs → w ρ Φ →
  (∀ v d G' H' ρ', Same G G' → Rep B G' H' σ ρ' xs → Dn G' v d → Φ d ρ' → Q v H') → te σ H Q
def RdT (tt : TT) (w : WT) : Prop := ∀ (B : Bs) (G H : Hp) (σ : L2.St) (ρ : Ev) (xs : List (Addr × HO)) (Φ : Bool → Ev → Prop) (Q : Bool → Hp → Prop), Rep B G H σ ρ xs → w ρ Φ →
  (∀ b G' H' ρ', Same G G' → Rep B G' H' σ ρ' xs → Φ b ρ' → Q b H') → tt σ H Q
def RdA (n : Nat) (ta : TA) (w : WA) : Prop := ∀ (B : Bs) (G H : Hp) (σ : L2.St) (ρ : Ev) (xs : List (Addr × HO)) (Φ : List Dt → Ev → Prop) (Q : List V → Hp → Prop), Rep B G H σ ρ xs → w ρ Φ →
  (∀ vs ds G' H' ρ', Same G G' → Rep B G' H' σ ρ' xs → Dns G' vs ds → ds.length = n → Φ ds ρ' → Q vs H') → ta σ H Q
/-- a new list that nobody else has -/
def RdF (te : TE) (w : WA) : Prop := ∀ (B : Bs) (G H : Hp) (σ : L2.St) (ρ : Ev) (xs : List (Addr × HO)) (Φ : List Dt → Ev → Prop) (Q : VK), Rep B G H σ ρ xs → w ρ Φ →
  (∀ l vs ds G' H' ρ', Same G G' → Rep B G' H' σ ρ' ((l, .lst vs) :: xs) → Dns G' vs ds → Φ ds ρ' → Q (.ref l) H') → te σ H Q
structure DE (X : Cx) (e : Expr) (te : TE) (w : WE) : Prop where
  pe : PE X e te
  rd : RdE te w
structure DT (X : Cx) (e : Expr) (tt : TT) (w : WT) : Prop where
  pt : PT X e tt
  rd : RdT tt w
structure DW (X : Cx) (e : Expr) (tt : TT) (w : WT) : Prop where
  pw : PW X e tt
  rd : RdT tt w
structure DA (X : Cx) (es : List Expr) (ta : TA) (w : WA) : Prop where
  pa : PA X es ta
  rd : RdA es.length ta w
structure FE (X : Cx) (e : Expr) (te : TE) (w : WA) : Prop where
  pe : PE X e te
  rd : RdF te w
section
variable {X : Cx} {a b c e : Expr} {es rest : List Expr} {ta tb tc te : TE} {wa wb wc we : WE} {pos : Pos}
/-! ### names, constants -/
def wVar (i : Nat) : WE := fun ρ Φ => ∃ d, ρ[i]? = some (.da d) ∧ Φ d ρ
theorem rd_var (i : Nat) : RdE (tVar i) (wVar i) := fun B G H σ ρ xs Φ Q R ⟨d, e, h⟩ k => by
  obtain ⟨v, e1, r⟩ := R.slot e
  exact ⟨v, e1, k v d G H ρ (Same.refl G) R r h⟩
theorem dv (i : Nat) {x : Str} {pos : Pos} (hN : X.N[i]? = some x := by rfl) (hv : Vis X.env.scope x := by first | exact Or.inl rfl | exact Or.inr (Or.inl rfl) | exact Or.inr (Or.inr rfl))
    (hd : (x == ("__debug__" : Str)) = false := by decide) (hcd : (x == ("__classdict__" : Str)) = false := by decide) : DE X (.Name x pos) (tVar i) (wVar i) := ⟨pe_var hN hv hd hcd, rd_var i⟩
def wC (d : Dt) : WE := fun ρ Φ => Φ d ρ
theorem rd_c {v : V} {d : Dt} (h : ∀ G, Dn G v d) : RdE (tC v) (wC d) := fun B G H σ ρ xs Φ Q R q k => k v d G H ρ (Same.refl G) R (h G) q
theorem de_int {i j pos} : DE X (.Constant (.int i) j pos) (tC (.int i)) (wC (.int i)) := ⟨pe_int, rd_c fun _ => .int i⟩
theorem de_bl {b j pos} : DE X (.Constant (.bool b) j pos) (tC (.bl b)) (wC (.bool b)) := ⟨pe_bl, rd_c fun _ => .bl b⟩
theorem de_non {j pos} : DE X (.Constant .none j pos) (tC .non) (wC .none) := ⟨pe_non, rd_c fun _ => .non⟩
theorem de_str {x j pos} : DE X (.Constant (.str x) j pos) (tC (.str x)) (wC (.str x)) := ⟨pe_str, rd_c fun _ => .str x⟩
/-- a module's int -/
theorem de_gint {x : Str} {i : Int} {u : Value} (hg : Gl X x) (hm : X.mg x = some u) (r : RelV (.int i) u) (hd : (x == ("__debug__" : Str)) = false := by decide) : DE X (.Name x pos) (tC (.int i)) (wC (.int i)) :=
  ⟨pe_glob hg hm r hd, rd_c fun _ => .int i⟩
/-! ### two values to one -/
abbrev F2 := Dt → Dt → (Dt → Prop) → Prop
abbrev F1 := Dt → (Dt → Prop) → Prop
def R2D (r : R2) (f : F2) : Prop := ∀ (G H : Hp) (x y : V) (a b : Dt) (Φ : Dt → Prop) (Q : VK), Same G H → Dn G x a → Dn G y b → f a b Φ → (∀ v d G' H', Post G H G' H' → Dn G' v d → Φ d → Q v H') → r x y H Q
def R1D (r : V → Hp → VK → Prop) (f : F1) : Prop := ∀ (G H : Hp) (x : V) (a : Dt) (Φ : Dt → Prop) (Q : VK), Same G H → Dn G x a → f a Φ → (∀ v d G' H', Post G H G' H' → Dn G' v d → Φ d → Q v H') → r x H Q
/-- arguments to a value -/
def RAD (r : List V → Hp → VK → Prop) (f : List Dt → (Dt → Prop) → Prop) : Prop := ∀ (G H : Hp) (vs : List V) (ds : List Dt) (Φ : Dt → Prop) (Q : VK), Same G H → Dns G vs ds → f ds Φ → (∀ v d G' H', Post G H G' H' → Dn G' v d → Φ d → Q v H') → r vs H Q
/-- .. to a new list -/
def RAF (r : List V → Hp → VK → Prop) (f : List Dt → (List Dt → Prop) → Prop) : Prop := ∀ (G H : Hp) (vs : List V) (ds : List Dt) (Φ : List Dt → Prop) (Q : VK), Same G H → Dns G vs ds → f ds Φ →
  (∀ l ws es G' H', Post G H G' H' → H' l = none → Dns G' ws es → Φ es → Q (.ref l) (upd H' l (.lst ws))) → r vs H Q
def R2F (r : R2) (f : Dt → Dt → (List Dt → Prop) → Prop) : Prop := ∀ (G H : Hp) (x y : V) (a b : Dt) (Φ : List Dt → Prop) (Q : VK), Same G H → Dn G x a → Dn G y b → f a b Φ →
  (∀ l ws es G' H', Post G H G' H' → H' l = none → Dns G' ws es → Φ es → Q (.ref l) (upd H' l (.lst ws))) → r x y H Q
def w2 (f : F2) (wa wb : WE) : WE := fun ρ Φ => wa ρ fun x ρ1 => wb ρ1 fun y ρ2 => f x y fun d => Φ d ρ2
def w1 (f : F1) (wa : WE) : WE := fun ρ Φ => wa ρ fun x ρ1 => f x fun d => Φ d ρ1
def wAr (f : List Dt → (Dt → Prop) → Prop) (wa : WA) : WE := fun ρ Φ => wa ρ fun xs ρ1 => f xs fun d => Φ d ρ1
def wArF (f : List Dt → (List Dt → Prop) → Prop) (wa : WA) : WA := fun ρ Φ => wa ρ fun xs ρ1 => f xs fun ds => Φ ds ρ1
def w2F (f : Dt → Dt → (List Dt → Prop) → Prop) (wa wb : WE) : WA := fun ρ Φ => wa ρ fun x ρ1 => wb ρ1 fun y ρ2 => f x y fun d => Φ d ρ2
theorem rd_2 {r : R2} {f : F2} (hr : R2D r f) (ha : RdE ta wa) (hb : RdE tb wb) : RdE (tOp r ta tb) (w2 f wa wb) := fun B G H σ ρ xs Φ Q R h k => by
  refine ha B G H σ ρ xs _ _ R h fun x dx G1 H1 ρ1 s1 R1 d1 h1 => ?_
  refine hb B G1 H1 σ ρ1 xs _ _ R1 h1 fun y dy G2 H2 ρ2 s2 R2 d2 h2 => ?_
  refine hr G2 H2 x y dx dy _ _ R2.sub (d1.gr s2) d2 h2 fun v d G3 H3 p dn q => ?_
  exact k v d G3 H3 ρ2 (s1.trans (s2.trans (p.same R2.sub))) (R2.grow p) dn q
theorem rd_2F {r : R2} {f : Dt → Dt → (List Dt → Prop) → Prop} (hr : R2F r f) (ha : RdE ta wa) (hb : RdE tb wb) : RdF (tOp r ta tb) (w2F f wa wb) := fun B G H σ ρ xs Φ Q R h k => by
  refine ha B G H σ ρ xs _ _ R h fun x dx G1 H1 ρ1 s1 R1 d1 h1 => ?_
  refine hb B G1 H1 σ ρ1 xs _ _ R1 h1 fun y dy G2 H2 ρ2 s2 R2 d2 h2 => ?_
  refine hr G2 H2 x y dx dy _ _ R2.sub (d1.gr s2) d2 h2 fun l ws es G3 H3 p hn dn q => ?_
  exact k l ws es G3 _ ρ2 (s1.trans (s2.trans (p.same R2.sub))) ((R2.grow p).newX hn noT_lst) dn q
theorem rd_1 {r : V → Hp → VK → Prop} {f : F1} (hr : R1D r f) (ha : RdE ta wa) : RdE (tUn r ta) (w1 f wa) := fun B G H σ ρ xs Φ Q R h k => by
  refine ha B G H σ ρ xs _ _ R h fun x dx G1 H1 ρ1 s1 R1 d1 h1 => ?_
  refine hr G1 H1 x dx _ _ R1.sub d1 h1 fun v d G3 H3 p dn q => ?_
  exact k v d G3 H3 ρ1 (s1.trans (p.same R1.sub)) (R1.grow p) dn q
theorem rd_ar {r : List V → Hp → VK → Prop} {f : List Dt → (Dt → Prop) → Prop} {t : TA} {w : WA} (hr : RAD r f) {n : Nat} (ha : RdA n t w) : RdE (tCB r t) (wAr f w) := fun B G H σ ρ xs Φ Q R h k => by
  refine ha B G H σ ρ xs _ _ R h fun vs ds G1 H1 ρ1 s1 R1 d1 _ h1 => ?_
  refine hr G1 H1 vs ds _ _ R1.sub d1 h1 fun v d G3 H3 p dn q => ?_
  exact k v d G3 H3 ρ1 (s1.trans (p.same R1.sub)) (R1.grow p) dn q
theorem rd_arF {r : List V → Hp → VK → Prop} {f : List Dt → (List Dt → Prop) → Prop} {t : TA} {w : WA} (hr : RAF r f) {n : Nat} (ha : RdA n t w) : RdF (tCB r t) (wArF f w) := fun B G H σ ρ xs Φ Q R h k => by
  refine ha B G H σ ρ xs _ _ R h fun vs ds G1 H1 ρ1 s1 R1 d1 _ h1 => ?_
  refine hr G1 H1 vs ds _ _ R1.sub d1 h1 fun l ws es G3 H3 p hn dn q => ?_
  exact k l ws es G3 _ ρ1 (s1.trans (p.same R1.sub)) ((R1.grow p).newX hn noT_lst) dn q
theorem de_op {op : Operator} {r : R2} {f : F2} (ho : OpR X (binaryOp op) r) (hr : R2D r f) (ha : DE X a ta wa) (hb : DE X b tb wb) : DE X (.BinOp a op b pos) (tOp r ta tb) (w2 f wa wb) := ⟨pe_op ho ha.pe hb.pe, rd_2 hr ha.rd hb.rd⟩
theorem fe_op {op : Operator} {r : R2} {f : Dt → Dt → (List Dt → Prop) → Prop} (ho : OpR X (binaryOp op) r) (hr : R2F r f) (ha : DE X a ta wa) (hb : DE X b tb wb) : FE X (.BinOp a op b pos) (tOp r ta tb) (w2F f wa wb) := ⟨pe_op ho ha.pe hb.pe, rd_2F hr ha.rd hb.rd⟩
theorem de_cmp {op : CmpOp} {r : R2} {f : F2} (ho : OpR X (compareOp op) r) (hr : R2D r f) (ha : DE X a ta wa) (hb : DE X b tb wb) (hm : behindInMarks op b = false := by first | exact nomark _ | rfl) :
    DE X (.Compare a [op] [b] pos) (tOp r ta tb) (w2 f wa wb) := ⟨pe_cmpR ho ha.pe hb.pe hm, rd_2 hr ha.rd hb.rd⟩
def wTest (w : WE) : WT := fun ρ Φ => w ρ fun d ρ1 => ∃ k, d = .bool k ∧ Φ k ρ1
theorem rd_test (h : RdE te we) : RdT (tTest te) (wTest we) := fun B G H σ ρ xs Φ Q R q k => by
  refine h B G H σ ρ xs _ _ R q fun v d G1 H1 ρ1 s1 R1 d1 ⟨c, e, h1⟩ => ?_
  subst e
  cases d1
  exact ⟨c, rfl, k c G1 H1 ρ1 s1 R1 h1⟩
theorem dt_cmp {op : CmpOp} {r : R2} {f : F2} (ho : OpR X (compareOp op) r) (hr : R2D r f) (ha : DE X a ta wa) (hb : DE X b tb wb) (hm : behindInMarks op b = false := by first | exact nomark _ | rfl) :
    DT X (.Compare a [op] [b] pos) (tTest (tOp r ta tb)) (wTest (w2 f wa wb)) := ⟨pt_cmpR ho ha.pe hb.pe hm, rd_test (rd_2 hr ha.rd hb.rd)⟩
/-- a op1 b op2 c -/
def wChain (f g : F2) (wa wb wc : WE) : WE := fun ρ Φ => wa ρ fun x ρ1 => wb ρ1 fun y ρ2 => f x y fun d => ∃ k, d = .bool k ∧ (if k = true then wc ρ2 fun z ρ3 => g y z fun d => Φ d ρ3 else Φ (.bool false) ρ2)
theorem de_chain {op op' : CmpOp} {r r' : R2} {f g : F2} (ho : OpR X (compareOp op) r) (ho' : OpR X (compareOp op') r') (hr : R2D r f) (hr' : R2D r' g) (ha : DE X a ta wa) (hb : DE X b tb wb) (hc : DE X c tc wc)
    (hm : lastMarks [op, op'] [b, c] = false := by with_unfolding_all rfl) : DE X (.Compare a [op, op'] [b, c] pos) (tChain r r' ta tb tc) (wChain f g wa wb wc) := by
  refine ⟨pe_chain ho ho' ha.pe hb.pe hc.pe hm, fun B G H σ ρ xs Φ Q R h k => ?_⟩
  refine ha.rd B G H σ ρ xs _ _ R h fun x dx G1 H1 ρ1 s1 R1 d1 h1 => ?_
  refine hb.rd B G1 H1 σ ρ1 xs _ _ R1 h1 fun y dy G2 H2 ρ2 s2 R2 d2 h2 => ?_
  refine hr G2 H2 x y dx dy _ _ R2.sub (d1.gr s2) d2 h2 fun v d G3 H3 p dn ⟨j, e, q⟩ => ?_
  subst e
  cases dn
  refine ⟨j, rfl, ?_⟩
  have s3 := p.same R2.sub
  cases j with
  | false =>
    exact k (.bl false) (.bool false) G3 H3 ρ2 (s1.trans (s2.trans s3)) (R2.grow p) (.bl false) q
  | true =>
    refine hc.rd B G3 H3 σ ρ2 xs _ _ (R2.grow p) q fun z dz G4 H4 ρ4 s4 R4 d4 h4 => ?_
    refine hr' G4 H4 y z dy dz _ _ R4.sub (d2.gr (s3.trans s4)) d4 h4 fun v d G5 H5 p5 dn q5 => ?_
    exact k v d G5 H5 ρ4 (s1.trans (s2.trans (s3.trans (s4.trans (p5.same R4.sub))))) (R4.grow p5) dn q5
/-! ### and, or, not, if -/
variable {tA tB : TT} {wA wB : WT}
def wAnd (u v : WT) : WT := fun ρ Φ => u ρ fun k ρ1 => if k = true then v ρ1 Φ else Φ false ρ1
def wOr (u v : WT) : WT := fun ρ Φ => u ρ fun k ρ1 => if k = true then Φ true ρ1 else v ρ1 Φ
def wNot (u : WT) : WT := fun ρ Φ => u ρ fun k ρ1 => Φ (!k) ρ1
theorem dw_and1 (h : DT X a tA wA) : DW X (.BoolOp .And [a] pos) tA wA := ⟨pw_and1 h.pt, h.rd⟩
theorem dw_or1 (h : DT X a tA wA) : DW X (.BoolOp .Or [a] pos) tA wA := ⟨pw_or1 h.pt, h.rd⟩
theorem dw_and (h : DT X a tA wA) (g : DW X (.BoolOp .And (b :: rest) pos) tB wB) : DW X (.BoolOp .And (a :: b :: rest) pos) (L2.tAnd tA tB) (wAnd wA wB) := by
  refine ⟨pw_and h.pt g.pw, fun B G H σ ρ xs Φ Q R q k => ?_⟩
  refine h.rd B G H σ ρ xs _ _ R q fun c G1 H1 ρ1 s1 R1 h1 => ?_
  cases c with
  | true => exact iteT (g.rd B G1 H1 σ ρ1 xs Φ Q R1 h1 fun b G2 H2 ρ2 s2 R2 h2 => k b G2 H2 ρ2 (s1.trans s2) R2 h2)
  | false => exact iteF (k false G1 H1 ρ1 s1 R1 h1)
theorem dw_or (h : DT X a tA wA) (g : DW X (.BoolOp .Or (b :: rest) pos) tB wB) : DW X (.BoolOp .Or (a :: b :: rest) pos) (L2.tOr tA tB) (wOr wA wB) := by
  refine ⟨pw_or h.pt g.pw, fun B G H σ ρ xs Φ Q R q k => ?_⟩
  refine h.rd B G H σ ρ xs _ _ R q fun c G1 H1 ρ1 s1 R1 h1 => ?_
  cases c with
  | true => exact iteT (k true G1 H1 ρ1 s1 R1 h1)
  | false => exact iteF (g.rd B G1 H1 σ ρ1 xs Φ Q R1 h1 fun b G2 H2 ρ2 s2 R2 h2 => k b G2 H2 ρ2 (s1.trans s2) R2 h2)
theorem DW.dt (h : DW X a tA wA) : DT X a tA wA := ⟨h.pw.pt, h.rd⟩
theorem dt_not (h : DT X a tA wA) : DT X (.UnaryOp .Not a pos) (L2.tNot tA) (wNot wA) := ⟨pt_not h.pt, fun B G H σ ρ xs Φ Q R q k => h.rd B G H σ ρ xs _ _ R q fun b G' H' ρ' s R' h' => k (!b) G' H' ρ' s R' h'⟩
/-- .. as values -/
def wAndV (u v : WE) : WE := fun ρ Φ => u ρ fun d ρ1 => ∃ k, d = .bool k ∧ if k = true then v ρ1 Φ else Φ (.bool false) ρ1
def wOrV (u v : WE) : WE := fun ρ Φ => u ρ fun d ρ1 => ∃ k, d = .bool k ∧ if k = true then Φ (.bool true) ρ1 else v ρ1 Φ
def wNotV (u : WE) : WE := fun ρ Φ => u ρ fun d ρ1 => ∃ k, d = .bool k ∧ Φ (.bool (!k)) ρ1
theorem de_one {op} (h : DE X a ta wa) : DE X (.BoolOp op [a] pos) ta wa := ⟨pe_one h.pe, h.rd⟩
theorem de_and (h : DE X a ta wa) (g : DE X (.BoolOp .And (b :: rest) pos) tb wb) : DE X (.BoolOp .And (a :: b :: rest) pos) (tAndV ta tb) (wAndV wa wb) := by
  refine ⟨pe_and h.pe g.pe, fun B G H σ ρ xs Φ Q R q k => ?_⟩
  refine h.rd B G H σ ρ xs _ _ R q fun v d G1 H1 ρ1 s1 R1 d1 ⟨c, e, h1⟩ => ?_
  subst e
  cases d1
  refine ⟨c, rfl, ?_⟩
  cases c with
  | true => exact iteT (g.rd B G1 H1 σ ρ1 xs Φ Q R1 h1 fun v d G2 H2 ρ2 s2 R2 d2 h2 => k v d G2 H2 ρ2 (s1.trans s2) R2 d2 h2)
  | false => exact iteF (k (.bl false) _ G1 H1 ρ1 s1 R1 (.bl false) h1)
theorem de_or (h : DE X a ta wa) (g : DE X (.BoolOp .Or (b :: rest) pos) tb wb) : DE X (.BoolOp .Or (a :: b :: rest) pos) (tOrV ta tb) (wOrV wa wb) := by
  refine ⟨pe_or h.pe g.pe, fun B G H σ ρ xs Φ Q R q k => ?_⟩
  refine h.rd B G H σ ρ xs _ _ R q fun v d G1 H1 ρ1 s1 R1 d1 ⟨c, e, h1⟩ => ?_
  subst e
  cases d1
  refine ⟨c, rfl, ?_⟩
  cases c with
  | true => exact iteT (k (.bl true) _ G1 H1 ρ1 s1 R1 (.bl true) h1)
  | false => exact iteF (g.rd B G1 H1 σ ρ1 xs Φ Q R1 h1 fun v d G2 H2 ρ2 s2 R2 d2 h2 => k v d G2 H2 ρ2 (s1.trans s2) R2 d2 h2)
theorem de_not (h : DE X a ta wa) : DE X (.UnaryOp .Not a pos) (tNotV ta) (wNotV wa) := by
  refine ⟨pe_not h.pe, fun B G H σ ρ xs Φ Q R q k => ?_⟩
  refine h.rd B G H σ ρ xs _ _ R q fun v d G1 H1 ρ1 s1 R1 d1 ⟨c, e, h1⟩ => ?_
  subst e
  cases d1
  exact ⟨c, rfl, k (.bl (!c)) _ G1 H1 ρ1 s1 R1 (.bl _) h1⟩
def wIf (u : WT) (wa wb : WE) : WE := fun ρ Φ => u ρ fun k ρ1 => if k = true then wa ρ1 Φ else wb ρ1 Φ
theorem de_if (hc : DT X c tA wA) (ha : DE X a ta wa) (hb : DE X b tb wb) : DE X (.IfExp c a b pos) (tIf tA ta tb) (wIf wA wa wb) := by
  refine ⟨pe_ifExp hc.pt ha.pe hb.pe, fun B G H σ ρ xs Φ Q R q k => ?_⟩
  refine hc.rd B G H σ ρ xs _ _ R q fun b G1 H1 ρ1 s1 R1 h1 => ?_
  cases b with
  | true => exact iteT (ha.rd B G1 H1 σ ρ1 xs Φ Q R1 h1 fun v d G2 H2 ρ2 s2 R2 d2 h2 => k v d G2 H2 ρ2 (s1.trans s2) R2 d2 h2)
  | false => exact iteF (hb.rd B G1 H1 σ ρ1 xs Φ Q R1 h1 fun v d G2 H2 ρ2 s2 R2 d2 h2 => k v d G2 H2 ρ2 (s1.trans s2) R2 d2 h2)
/-! ### arguments, displays -/
def wNil : WA := fun ρ Φ => Φ [] ρ
def wCons (w : WE) (u : WA) : WA := fun ρ Φ => w ρ fun d ρ1 => u ρ1 fun ds ρ2 => Φ (d :: ds) ρ2
theorem da_nil : DA X [] tNil wNil := ⟨pa_nil, fun B G H σ ρ xs Φ Q R q k => k [] [] G H ρ (Same.refl G) R .nil rfl q⟩
theorem da_cons {t : TA} {w : WA} (ha : DE X e te we) (hr : DA X es t w) (hs : starEach (e :: es) X.env = (false, eval e X.env) :: starEach es X.env := by rfl) : DA X (e :: es) (tCons te t) (wCons we w) := by
  refine ⟨pa_cons ha.pe hr.pa hs, fun B G H σ ρ xs Φ Q R q k => ?_⟩
  refine ha.rd B G H σ ρ xs _ _ R q fun v d G1 H1 ρ1 s1 R1 d1 h1 => ?_
  refine hr.rd B G1 H1 σ ρ1 xs _ _ R1 h1 fun vs ds G2 H2 ρ2 s2 R2 d2 hl h2 => ?_
  exact k (v :: vs) (d :: ds) G2 H2 ρ2 (s1.trans s2) R2 (.cons (d1.gr s2) d2) (congrArg Nat.succ hl) h2
theorem de_tup {x1} {t : TA} {w : WA} (h : DA X es t w) (hz : es.length ≤ 60 := by decide) : DE X (.Tuple es x1 pos) (tTup t) (fun ρ Φ => w ρ fun ds ρ1 => Φ (.tuple ds) ρ1) := by
  refine ⟨pe_tup h.pa, fun B G H σ ρ xs Φ Q R q k => ?_⟩
  refine h.rd B G H σ ρ xs _ _ R q fun vs ds G1 H1 ρ1 s1 R1 d1 hl h1 => ?_
  refine ⟨by rw [d1.len, hl]; exact Nat.le_trans hz (by decide), fun p hp => ?_⟩
  have ps := Post.new R1.sub hp (.tup vs)
  have g := ps.same R1.sub
  exact k (.ref p) (.tuple ds) _ _ ρ1 (s1.trans g) (R1.grow ps) (.tup upd_same (d1.gr g)) h1
theorem fe_lst {t : TA} {w : WA} (h : DA X es t w) (hz : es.length ≤ 60 := by decide) : FE X (.List es pos) (tLst t) w := by
  refine ⟨pe_lst h.pa, fun B G H σ ρ xs Φ Q R q k => ?_⟩
  refine h.rd B G H σ ρ xs _ _ R q fun vs ds G1 H1 ρ1 s1 R1 d1 hl h1 => ?_
  exact ⟨by rw [d1.len, hl]; exact Nat.le_trans hz (by decide), fun p hp => k p vs ds G1 _ ρ1 s1 (R1.newX hp noT_lst) d1 h1⟩
/-- a new list, used as data from now on -/
def wPub (w : WA) : WE := fun ρ Φ => w ρ fun ds ρ1 => Φ (.list ds) ρ1
theorem rd_pub {w : WA} (h : RdF te w) : RdE te (wPub w) := fun B G H σ ρ xs Φ Q R q k => by
  refine h B G H σ ρ xs _ _ R q fun l vs ds G1 H1 ρ1 s1 R1 d1 h1 => ?_
  obtain ⟨R2, s2⟩ := R1.pub
  exact k (.ref l) (.list ds) _ H1 ρ1 (s1.trans s2) R2 (.lst upd_same (d1.gr s2)) h1
theorem FE.de {w : WA} (h : FE X e te w) : DE X e te (wPub w) := ⟨h.pe, rd_pub h.rd⟩
/-- a value's truth, by data -/
def truD : Dt → Option Bool
  | .none => some false
  | .bool b => some b
  | .int i => some (i != 0)
  | .list ds => some (!ds.isEmpty)
  | .tuple ds => some (!ds.isEmpty)
  | _ => none
theorem dns_isEmpty {G : Hp} {vs : List V} {ds : List Dt} (h : Dns G vs ds) : vs.isEmpty = ds.isEmpty := by cases h <;> rfl
theorem dt_truth (h : DE X e te we) (he : ∀ whole, isTrue e X.env whole = (do let v ← whole; standAt e.pos; holding [v] (truthy v)) := by intro _; rfl) :
    DT X e (fun σ H Q => te σ H fun x H' => ∃ k, TruV X.K x H' k ∧ Q k H') (fun ρ Φ => we ρ fun d ρ1 => ∃ k, truD d = some k ∧ Φ k ρ1) := by
  refine ⟨pt_truth h.pe he, fun B G H σ ρ xs Φ Q R q k => ?_⟩
  refine h.rd B G H σ ρ xs _ _ R q fun v d G1 H1 ρ1 s1 R1 d1 ⟨c, e, h1⟩ => ?_
  refine ⟨c, ?_, k c G1 H1 ρ1 s1 R1 h1⟩
  cases d1 with
  | non => exact (Option.some.inj e).symm
  | bl b => exact (Option.some.inj e).symm
  | int i => exact (Option.some.inj e).symm
  | str x => cases e
  | lst z r =>
    refine .inl ⟨_, SqL.of (R1.sub _ _ z), ?_⟩
    rw [dns_isEmpty r]
    exact (Option.some.inj e).symm
  | tup z r =>
    refine .inr (.inl ⟨_, SqT.of (R1.sub _ _ z), ?_⟩)
    rw [dns_isEmpty r]
    exact (Option.some.inj e).symm
end
end MP
-- DL3
/-! DATA LAYER 3: operations by values. -/
namespace MP
open PySem PySem.Spec PyProof.Rows L2 LamX
/-! ### data: scalars -/
def flatD : Dt → Bool
  | .none => true
  | .bool _ => true
  | .int _ => true
  | .str _ => true
  | _ => false
/-- two scalars that == tells apart -/
def scalD : Dt → Dt → Bool
  | .none, .none => true
  | .none, .int _ => true
  | .int _, .none => true
  | .none, .str _ => true
  | .str _, .none => true
  | .int _, .int _ => true
  | .bool _, .bool _ => true
  | .str _, .str _ => true
  | .int _, .str _ => true
  | .str _, .int _ => true
  | _, _ => false
def EqOk (a b : Dt) : Prop := scalD a b = true ∨ (SeqAt.shaped a = true ∧ SeqAt.shaped b = true)
theorem dns_flat {G : Hp} : ∀ {vs : List V} {ds : List Dt}, Dns G vs ds → ds.all flatD = true → vs.all flatV = true
  | _, _, .nil, _ => rfl
  | _, _, .cons h t, e => by
    rw [List.all_cons, Bool.and_eq_true] at e ⊢
    refine ⟨?_, dns_flat t e.2⟩
    have e1 := e.1
    cases h <;> first | rfl | (simp [flatD] at e1)
theorem dn_flat {G : Hp} {v : V} {d : Dt} (h : Dn G v d) (e : flatD d = true) : flatV v = true := by
  cases h <;> first | rfl | (simp [flatD] at e)
theorem eqV_eqv {G : Hp} {v u : V} {d e : Dt} (h : Dn G v d) (g : Dn G u e) (f1 : flatD d = true) (f2 : flatD e = true) : eqV v u = PyData.eqv d e := by
  cases h <;> cases g <;> first | (simp [flatD] at f1; done) | (simp [flatD] at f2; done) | (simp [eqV, PyData.eqv])
theorem inV_any {G : Hp} {u : V} {e : Dt} (g : Dn G u e) (f2 : flatD e = true) : ∀ {vs : List V} {ds : List Dt}, Dns G vs ds → ds.all flatD = true → inV u vs = ds.any fun z => PyData.eqv z e
  | _, _, .nil, _ => rfl
  | _, _, .cons h t, f => by
    rw [List.all_cons, Bool.and_eq_true] at f
    have ih := inV_any g f2 t f.2
    unfold inV at ih ⊢
    rw [List.any_cons, List.any_cons, eqV_eqv h g f.1 f2, ih]
/-! ### whole numbers -/
def fI (C : Int → Int → Prop) (g : Int → Int → Dt) : F2 := fun a b Φ => ∃ i j, a = .int i ∧ b = .int j ∧ C i j ∧ Φ (g i j)
def fI0 (g : Int → Int → Dt) : F2 := fun a b Φ => ∃ i j, a = .int i ∧ b = .int j ∧ Φ (g i j)
theorem rd_rI {C : Int → Int → Prop} {g : Int → Int → Int} : R2D (rI C fun i j => .int (g i j)) (fI C fun i j => .int (g i j)) := fun G H x y a b Φ Q s ha hb ⟨i, j, e1, e2, c, q⟩ k => by
  subst e1 e2
  cases ha
  cases hb
  exact ⟨i, j, rfl, rfl, c, k _ _ G H (Post.refl s) (.int _) q⟩
theorem rd_rI0 {g : Int → Int → Int} : R2D (rI0 fun i j => .int (g i j)) (fI0 fun i j => .int (g i j)) := fun G H x y a b Φ Q s ha hb ⟨i, j, e1, e2, q⟩ k => by
  subst e1 e2
  cases ha
  cases hb
  exact ⟨i, j, rfl, rfl, k _ _ G H (Post.refl s) (.int _) q⟩
theorem rd_rB0 {g : Int → Int → Bool} : R2D (rI0 fun i j => .bl (g i j)) (fI0 fun i j => .bool (g i j)) := fun G H x y a b Φ Q s ha hb ⟨i, j, e1, e2, q⟩ k => by
  subst e1 e2
  cases ha
  cases hb
  exact ⟨i, j, rfl, rfl, k _ _ G H (Post.refl s) (.bl _) q⟩
/-! ### + of texts, tuples, lists; list * int -/
def fAddS : F2 := fun a b Φ => ∃ x y, a = .str x ∧ b = .str y ∧ x.length + y.length ≤ sizeLine ∧ Φ (.str (x ++ y))
theorem rd_addS : R2D (fun x y H Q => ∃ i j, x = .str i ∧ y = .str j ∧ i.length + j.length ≤ sizeLine ∧ Q (.str (i ++ j)) H) fAddS := fun G H x y a b Φ Q s ha hb ⟨i, j, e1, e2, c, q⟩ k => by
  subst e1 e2
  cases ha
  cases hb
  exact ⟨i, j, rfl, rfl, c, k _ _ G H (Post.refl s) (.str _) q⟩
def fAddT : F2 := fun a b Φ => ∃ xs ys, a = .tuple xs ∧ b = .tuple ys ∧ xs.length + ys.length ≤ sizeLine ∧ Φ (.tuple (xs ++ ys))
theorem rd_addT {K : PySem.W.Frag} : R2D (rCatA K) fAddT := fun G H x y a b Φ Q s ha hb ⟨xs, ys, e1, e2, c, q⟩ k => by
  subst e1 e2
  cases ha with
  | @tup p vs _ hp rp =>
  cases hb with
  | @tup u ws _ hu ru =>
  refine ⟨p, u, vs, ws, rfl, rfl, SqT.of (s _ _ hp), SqT.of (s _ _ hu), by rw [rp.len, ru.len]; exact c, fun z => ?_, fun _ z => ?_, fun _ _ t ht => ?_⟩
  · subst z
    cases rp
    exact k (.ref u) _ G H (Post.refl s) (.tup hu ru) q
  · subst z
    cases ru
    rw [List.append_nil] at q
    exact k (.ref p) _ G H (Post.refl s) (.tup hp rp) q
  · have ps := Post.new s ht (.tup (vs ++ ws))
    exact k (.ref t) _ _ _ ps (.tup upd_same ((rp.app ru).gr (ps.same s))) q
def fAddL : Dt → Dt → (List Dt → Prop) → Prop := fun a b Φ => ∃ xs ys, a = .list xs ∧ b = .list ys ∧ xs.length + ys.length ≤ sizeLine ∧ Φ (xs ++ ys)
theorem rd_addL : R2F rCat fAddL := fun G H x y a b Φ Q s ha hb ⟨xs, ys, e1, e2, c, q⟩ k => by
  subst e1 e2
  cases ha with
  | @lst p vs _ hp rp =>
  cases hb with
  | @lst u ws _ hu ru =>
  exact ⟨p, u, vs, ws, rfl, rfl, s _ _ hp, s _ _ hu, by rw [rp.len, ru.len]; exact c, fun t ht => k t _ _ G H (Post.refl s) ht (rp.app ru) q⟩
theorem dns_rep {G : Hp} {vs : List V} {ds : List Dt} (h : Dns G vs ds) : ∀ n : Nat, Dns G (List.replicate n vs).flatten (List.replicate n ds).flatten
  | 0 => .nil
  | n + 1 => by
    rw [List.replicate_succ, List.replicate_succ, List.flatten_cons, List.flatten_cons]
    exact h.app (dns_rep h n)
def fRepL : Dt → Dt → (List Dt → Prop) → Prop := fun a b Φ => ∃ xs j, a = .list xs ∧ b = .int j ∧ 0 ≤ j ∧ j ≤ 1000 ∧ xs.length ≤ 1000 ∧ Φ (List.replicate j.toNat xs).flatten
theorem rd_repL : R2F rRep fRepL := fun G H x y a b Φ Q s ha hb ⟨xs, j, e1, e2, j0, j1, c, q⟩ k => by
  subst e1 e2
  cases ha with
  | @lst p vs _ hp rp =>
  cases hb
  refine ⟨p, j, vs, rfl, rfl, s _ _ hp, by omega, by omega, ?_, fun t ht => k t _ _ G H (Post.refl s) ht (dns_rep rp _) q⟩
  rw [rp.len]
  have h1 : xs.length * j.toNat ≤ 1000 * 1000 := Nat.mul_le_mul c (by omega)
  exact Nat.le_trans h1 (by decide)
/-! ### ==, != -/
def rEqA (K : PySem.W.Frag) : R2 := fun x y H Q => rEq x y H Q ∨ rEqD K x y H Q
def rNeA (K : PySem.W.Frag) : R2 := fun x y H Q => rNe x y H Q ∨ rNeD K x y H Q
theorem op_eqA {X : Cx} (hu : X.A.units + 64 < cLine) : OpR X (compareOp .Eq) (rEqA X.K) := op_eq.or (op_eqD hu)
theorem op_neA {X : Cx} (hu : X.A.units + 64 < cLine) : OpR X (compareOp .NotEq) (rNeA X.K) := op_ne.or (op_neD hu)
def fEq : F2 := fun a b Φ => EqOk a b ∧ Φ (.bool (PyData.eqv a b))
def fNe : F2 := fun a b Φ => EqOk a b ∧ Φ (.bool (!PyData.eqv a b))
theorem scal_eqv {G : Hp} {v u : V} {d e : Dt} (h : Dn G v d) (g : Dn G u e) (f : scalD d e = true) : scal v u = true ∧ decide (v = u) = PyData.eqv d e := by
  cases h <;> cases g <;> first | (simp [scalD] at f; done) | (refine ⟨rfl, ?_⟩; simp [PyData.eqv]; done) | (refine ⟨rfl, ?_⟩; rw [Bool.eq_iff_iff]; simp [PyData.eqv])
theorem rd_eq {K : PySem.W.Frag} : R2D (rEqA K) fEq := fun G H x y a b Φ Q s ha hb ⟨ok, q⟩ k => by
  rcases ok with f | ⟨s1, s2⟩
  · obtain ⟨h1, h2⟩ := scal_eqv ha hb f
    refine .inl ⟨h1, ?_⟩
    rw [h2]
    exact k _ _ G H (Post.refl s) (.bl _) q
  · exact .inr ⟨a, b, ha.dp K s, hb.dp K s, s1, s2, k _ _ G H (Post.refl s) (.bl _) q⟩
theorem rd_ne {K : PySem.W.Frag} : R2D (rNeA K) fNe := fun G H x y a b Φ Q s ha hb ⟨ok, q⟩ k => by
  rcases ok with f | ⟨s1, s2⟩
  · obtain ⟨h1, h2⟩ := scal_eqv ha hb f
    refine .inl ⟨h1, ?_⟩
    rw [h2]
    exact k _ _ G H (Post.refl s) (.bl _) q
  · exact .inr ⟨a, b, ha.dp K s, hb.dp K s, s1, s2, k _ _ G H (Post.refl s) (.bl _) q⟩
/-! ### in, not in: lists of data, tuples of scalars -/
def InOk (x : Dt) : Dt → Prop
  | .list ds => (flatD x = true ∧ ds.all flatD = true) ∨ (SeqAt.shaped x = true ∧ SeqAt.shaped (.list ds) = true)
  | .tuple ds => flatD x = true ∧ ds.all flatD = true
  | _ => False
def inD (x : Dt) : Dt → Bool
  | .list ds => ds.any fun z => PyData.eqv z x
  | .tuple ds => ds.any fun z => PyData.eqv z x
  | _ => false
def rInA (K : PySem.W.Frag) : R2 := fun x y H Q => rIn K false x y H Q ∨ rInD K x y H Q
def rNotInA (K : PySem.W.Frag) : R2 := fun x y H Q => rIn K true x y H Q ∨ rNotInD K x y H Q
theorem op_inA {X : Cx} (hu : X.A.units + 65 < cLine) : OpR X (compareOp .In) (rInA X.K) := op_in_seq.or (op_inD hu)
theorem op_notInA {X : Cx} (hu : X.A.units + 65 < cLine) : OpR X (compareOp .NotIn) (rNotInA X.K) := op_notIn_seq.or (op_notInD hu)
def fIn : F2 := fun a b Φ => InOk a b ∧ Φ (.bool (inD a b))
def fNotIn : F2 := fun a b Φ => InOk a b ∧ Φ (.bool (!inD a b))
theorem rd_in {K : PySem.W.Frag} : R2D (rInA K) fIn := fun G H x y a b Φ Q s ha hb ⟨ok, q⟩ k => by
  have e := k _ _ G H (Post.refl s) (.bl _) q
  cases hb with
  | @lst p vs ds hp rp =>
    rcases ok with ⟨f1, f2⟩ | ⟨s1, s2⟩
    · refine .inl ⟨p, vs, rfl, .inl (SqL.of (s _ _ hp)), dn_flat ha f1, dns_flat rp f2, ?_⟩
      rw [inV_any ha f1 rp f2]
      exact e
    · exact .inr ⟨a, ds, ha.dp K s, (Dn.lst hp rp).dp K s, s1, s2, e⟩
  | @tup p vs ds hp rp =>
    refine .inl ⟨p, vs, rfl, .inr (SqT.of (s _ _ hp)), dn_flat ha ok.1, dns_flat rp ok.2, ?_⟩
    rw [inV_any ha ok.1 rp ok.2]
    exact e
  | non => exact ok.elim
  | bl => exact ok.elim
  | int => exact ok.elim
  | str => exact ok.elim
theorem rd_notIn {K : PySem.W.Frag} : R2D (rNotInA K) fNotIn := fun G H x y a b Φ Q s ha hb ⟨ok, q⟩ k => by
  have e := k _ _ G H (Post.refl s) (.bl _) q
  cases hb with
  | @lst p vs ds hp rp =>
    rcases ok with ⟨f1, f2⟩ | ⟨s1, s2⟩
    · refine .inl ⟨p, vs, rfl, .inl (SqL.of (s _ _ hp)), dn_flat ha f1, dns_flat rp f2, ?_⟩
      rw [inV_any ha f1 rp f2]
      exact e
    · exact .inr ⟨a, ds, ha.dp K s, (Dn.lst hp rp).dp K s, s1, s2, e⟩
  | @tup p vs ds hp rp =>
    refine .inl ⟨p, vs, rfl, .inr (SqT.of (s _ _ hp)), dn_flat ha ok.1, dns_flat rp ok.2, ?_⟩
    rw [inV_any ha ok.1 rp ok.2]
    exact e
  | non => exact ok.elim
  | bl => exact ok.elim
  | int => exact ok.elim
  | str => exact ok.elim
/-! ### is None -/
def isNoneD : Dt → Bool
  | .none => true
  | _ => false
def fIs : F2 := fun a b Φ => b = .none ∧ Φ (.bool (isNoneD a))
def fIsNot : F2 := fun a b Φ => b = .none ∧ Φ (.bool (!isNoneD a))
theorem dn_none {G : Hp} {v : V} {d : Dt} (h : Dn G v d) : decide (v = .non) = isNoneD d := by
  cases h <;> simp [isNoneD]
theorem rd_is : R2D (fun x y H Q => y = .non ∧ Q (.bl (decide (x = .non))) H) fIs := fun G H x y a b Φ Q s ha hb ⟨e, q⟩ k => by
  subst e
  cases hb
  refine ⟨rfl, ?_⟩
  rw [dn_none ha]
  exact k _ _ G H (Post.refl s) (.bl _) q
theorem rd_isNot : R2D (fun x y H Q => y = .non ∧ Q (.bl (!decide (x = .non))) H) fIsNot := fun G H x y a b Φ Q s ha hb ⟨e, q⟩ k => by
  subst e
  cases hb
  refine ⟨rfl, ?_⟩
  rw [dn_none ha]
  exact k _ _ G H (Post.refl s) (.bl _) q
/-! ### subscripts -/
def ixD : Dt → Dt → Option Dt
  | .list ds, .int i => atI ds i
  | .tuple ds, .int i => atI ds i
  | .str z, .int i => if z.length ≤ sizeLine then (atI z.cps.toList i).map fun c => .str ⟨#[c]⟩ else none
  | _, _ => none
def fIx : F2 := fun a b Φ => ∃ d, ixD a b = some d ∧ Φ d
theorem dns_atI {G : Hp} {vs : List V} {ds : List Dt} (h : Dns G vs ds) {i : Int} {d : Dt} (e : atI ds i = some d) : ∃ v, atI vs i = some v ∧ Dn G v d := by
  unfold atI at e ⊢
  rw [h.len]
  cases q : ixN ds.length i with
  | none =>
    rw [q] at e
    cases e
  | some j =>
    rw [q] at e
    exact h.get e
theorem rd_ix {K : PySem.W.Frag} : R2D (rIx K) fIx := fun G H x y a b Φ Q s ha hb ⟨d, e, q⟩ k => by
  cases hb with
  | int i =>
    cases ha with
    | @lst p vs ds hp rp =>
      obtain ⟨v, e1, r1⟩ := dns_atI rp e
      exact .inl ⟨p, vs, i, v, rfl, rfl, SqL.of (s _ _ hp), e1, k v d G H (Post.refl s) r1 q⟩
    | @tup p vs ds hp rp =>
      obtain ⟨v, e1, r1⟩ := dns_atI rp e
      exact .inr (.inl ⟨p, vs, i, v, rfl, rfl, SqT.of (s _ _ hp), e1, k v d G H (Post.refl s) r1 q⟩)
    | str z =>
      have e' : (if z.length ≤ sizeLine then (atI z.cps.toList i).map (fun c => PyData.str ⟨#[c]⟩) else none) = some d := e
      by_cases c : z.length ≤ sizeLine
      · rw [if_pos c] at e'
        obtain ⟨u, e1, e2⟩ := Option.map_eq_some_iff.mp e'
        subst e2
        exact .inr (.inr ⟨z, i, u, rfl, rfl, c, e1, k _ _ G H (Post.refl s) (.str _) q⟩)
      · rw [if_neg c] at e'
        cases e'
    | non => cases e
    | bl => cases e
    | int => cases e
  | non => cases ha <;> cases e
  | bl => cases ha <;> cases e
  | str => cases ha <;> cases e
  | lst => cases ha <;> cases e
  | tup => cases ha <;> cases e
section
variable {X : Cx} {a b e : Expr} {ta tb te : TE} {wa wb we : WE} {pos p2 : Pos}
theorem de_ix (ha : DE X a ta wa) (hb : DE X b tb wb) (hs : PlainIx b := by exact fun _ _ => rfl) : DE X (.Subscript a b pos) (tOp (rIx X.K) ta tb) (w2 fIx wa wb) := ⟨pe_ix ix_seq ha.pe hb.pe hs, rd_2 rd_ix ha.rd hb.rd⟩
/-! ### slices -/
abbrev WO := Ev → (Option Int → Ev → Prop) → Prop
structure DO (X : Cx) (e : Option Expr) (t : TO) (w : WO) : Prop where
  po : PO X e t
  rd : ∀ (B : Bs) (G H : Hp) (σ : L2.St) (ρ : Ev) (xs : List (Addr × HO)) (Φ : Option Int → Ev → Prop) (Q : Option Int → Hp → Prop), Rep B G H σ ρ xs → w ρ Φ →
    (∀ o G' H' ρ', Same G G' → Rep B G' H' σ ρ' xs → Φ o ρ' → Q o H') → t σ H Q
theorem do_none : DO X none tNoPart (fun ρ Φ => Φ none ρ) := ⟨po_none, fun B G H σ ρ xs Φ Q R q k => k none G H ρ (Same.refl G) R q⟩
theorem do_some (h : DE X e te we) : DO X (some e) (tPart te) (fun ρ Φ => we ρ fun d ρ1 => ∃ i, d = .int i ∧ Φ (some i) ρ1) := by
  refine ⟨po_some h.pe, fun B G H σ ρ xs Φ Q R q k => ?_⟩
  refine h.rd B G H σ ρ xs _ _ R q fun v d G1 H1 ρ1 s1 R1 d1 ⟨i, e, h1⟩ => ?_
  subst e
  cases d1
  exact ⟨i, rfl, k (some i) G1 H1 ρ1 s1 R1 h1⟩
def cutD (ds : List Dt) (lo hi : Option Int) : List Dt := (ds.drop (HT.sIx ds.length 0 lo)).take (HT.sIx ds.length ds.length hi - HT.sIx ds.length 0 lo)
theorem dns_cut {G : Hp} {vs : List V} {ds : List Dt} (h : Dns G vs ds) (lo hi : Option Int) : Dns G (cutV vs lo hi) (cutD ds lo hi) := by
  unfold cutV cutD
  rw [h.len]
  exact Dns.tk _ (Dns.dr _ h)
/-- t[lo:hi] of a tuple -/
def wSlT (we : WE) (wl wh : WO) : WE := fun ρ Φ => we ρ fun d ρ1 => wl ρ1 fun lo ρ2 => wh ρ2 fun hi ρ3 => ∃ ds, d = .tuple ds ∧ Φ (.tuple (cutD ds lo hi)) ρ3
/-- xs[lo:hi] of a list -/
def wSlL (we : WE) (wl wh : WO) : WA := fun ρ Φ => we ρ fun d ρ1 => wl ρ1 fun lo ρ2 => wh ρ2 fun hi ρ3 => ∃ ds, d = .list ds ∧ Φ (cutD ds lo hi) ρ3
/-- s[lo:hi] of a text -/
def wSlS (we : WE) (wl wh : WO) : WE := fun ρ Φ => we ρ fun d ρ1 => wl ρ1 fun lo ρ2 => wh ρ2 fun hi ρ3 => ∃ z, d = .str z ∧ z.length ≤ sizeLine ∧ Φ (.str (cutS z lo hi)) ρ3
variable {lo hi : Option Expr} {tl th : TO} {wl wh : WO}
theorem cut_all (ds : List Dt) {lo hi : Option Int} (h : HT.sIx ds.length 0 lo = 0 ∧ HT.sIx ds.length ds.length hi = ds.length) : cutD ds lo hi = ds := by
  unfold cutD
  rw [h.1, h.2, List.drop_zero, Nat.sub_zero, List.take_length]
theorem de_slT (he : DE X e te we) (hl : DO X lo tl wl) (hh : DO X hi th wh) : DE X (.Subscript e (.Slice lo hi none p2) pos) (tSl (rSlA X.K) te tl th) (wSlT we wl wh) := by
  refine ⟨pe_slice sl_tupA he.pe hl.po hh.po, fun B G H σ ρ xs Φ Q R q k => ?_⟩
  refine he.rd B G H σ ρ xs _ _ R q fun v d G1 H1 ρ1 s1 R1 d1 h1 => ?_
  refine hl.rd B G1 H1 σ ρ1 xs _ _ R1 h1 fun o G2 H2 ρ2 s2 R2 h2 => ?_
  refine hh.rd B G2 H2 σ ρ2 xs _ _ R2 h2 fun o' G3 H3 ρ3 s3 R3 ⟨ds, e, h3⟩ => ?_
  subst e
  have d3 := d1.gr (s2.trans s3)
  cases d3 with
  | @tup p vs _ hp rp =>
  refine ⟨p, vs, rfl, SqT.of (R3.sub _ _ hp), fun z => ?_, fun _ t ht => ?_⟩
  · rw [rp.len] at z
    rw [cut_all ds z] at h3
    exact k (.ref p) (.tuple ds) G3 H3 ρ3 (s1.trans (s2.trans s3)) R3 (.tup hp rp) h3
  · have ps := Post.new R3.sub ht (.tup (cutV vs o o'))
    exact k (.ref t) _ _ _ ρ3 (s1.trans (s2.trans (s3.trans (ps.same R3.sub)))) (R3.grow ps) (.tup upd_same ((dns_cut rp o o').gr (ps.same R3.sub))) h3
theorem fe_slL (he : DE X e te we) (hl : DO X lo tl wl) (hh : DO X hi th wh) : FE X (.Subscript e (.Slice lo hi none p2) pos) (tSl (rSlL X.K) te tl th) (wSlL we wl wh) := by
  refine ⟨pe_slice sl_list he.pe hl.po hh.po, fun B G H σ ρ xs Φ Q R q k => ?_⟩
  refine he.rd B G H σ ρ xs _ _ R q fun v d G1 H1 ρ1 s1 R1 d1 h1 => ?_
  refine hl.rd B G1 H1 σ ρ1 xs _ _ R1 h1 fun o G2 H2 ρ2 s2 R2 h2 => ?_
  refine hh.rd B G2 H2 σ ρ2 xs _ _ R2 h2 fun o' G3 H3 ρ3 s3 R3 ⟨ds, e, h3⟩ => ?_
  subst e
  have d3 := d1.gr (s2.trans s3)
  cases d3 with
  | @lst p vs _ hp rp =>
  exact ⟨p, vs, rfl, SqL.of (R3.sub _ _ hp), fun t ht => k t _ _ G3 _ ρ3 (s1.trans (s2.trans s3)) (R3.newX ht noT_lst) (dns_cut rp o o') h3⟩
theorem de_slS (he : DE X e te we) (hl : DO X lo tl wl) (hh : DO X hi th wh) : DE X (.Subscript e (.Slice lo hi none p2) pos) (tSl rSlS te tl th) (wSlS we wl wh) := by
  refine ⟨pe_slice sl_str he.pe hl.po hh.po, fun B G H σ ρ xs Φ Q R q k => ?_⟩
  refine he.rd B G H σ ρ xs _ _ R q fun v d G1 H1 ρ1 s1 R1 d1 h1 => ?_
  refine hl.rd B G1 H1 σ ρ1 xs _ _ R1 h1 fun o G2 H2 ρ2 s2 R2 h2 => ?_
  refine hh.rd B G2 H2 σ ρ2 xs _ _ R2 h2 fun o' G3 H3 ρ3 s3 R3 ⟨z, e, hz, h3⟩ => ?_
  subst e
  cases d1
  exact ⟨z, rfl, hz, k _ _ G3 H3 ρ3 (s1.trans (s2.trans s3)) R3 (.str _) h3⟩
/-! ### built-in calls -/
def lenD : Dt → Option Nat
  | .list ds => some ds.length
  | .tuple ds => some ds.length
  | .str z => if z.length ≤ sizeLine then some z.length else none
  | _ => none
def fLen : List Dt → (Dt → Prop) → Prop := fun as Φ => ∃ d n, as = [d] ∧ lenD d = some n ∧ Φ (.int n)
theorem dns1 {G : Hp} {vs : List V} {d : Dt} (h : Dns G vs [d]) : ∃ v, vs = [v] ∧ Dn G v d := by
  cases h with
  | cons h t =>
    cases t
    exact ⟨_, rfl, h⟩
theorem dns2 {G : Hp} {vs : List V} {d e : Dt} (h : Dns G vs [d, e]) : ∃ v u, vs = [v, u] ∧ Dn G v d ∧ Dn G u e := by
  cases h with
  | cons h t =>
    obtain ⟨u, e1, r⟩ := dns1 t
    subst e1
    exact ⟨_, u, rfl, h, r⟩
theorem rd_len {K : PySem.W.Frag} : RAD (fun xs H Q => ∃ x n, xs = [x] ∧ LenV K x H n ∧ Q (.int n) H) fLen := fun G H vs as Φ Q s h ⟨d, n, e, l, q⟩ k => by
  subst e
  obtain ⟨v, e1, r⟩ := dns1 h
  subst e1
  refine ⟨v, n, rfl, ?_, k _ _ G H (Post.refl s) (.int _) q⟩
  cases r with
  | @lst p vs ds hp rp => exact .inl ⟨vs, SqL.of (s _ _ hp), by rw [rp.len]; exact (Option.some.inj l).symm⟩
  | @tup p vs ds hp rp => exact .inr ⟨vs, SqT.of (s _ _ hp), by rw [rp.len]; exact (Option.some.inj l).symm⟩
  | str z =>
    have l' : (if z.length ≤ sizeLine then some z.length else none) = some n := l
    by_cases c : z.length ≤ sizeLine
    · rw [if_pos c] at l'
      exact ⟨c, (Option.some.inj l').symm⟩
    · rw [if_neg c] at l'
      cases l'
  | non => cases l
  | bl => cases l
  | int => cases l
def itemsD : Dt → Option (List Dt)
  | .list ds => some ds
  | .tuple ds => some ds
  | _ => none
def fTuple : List Dt → (Dt → Prop) → Prop := fun as Φ => ∃ d ds, as = [d] ∧ itemsD d = some ds ∧ Φ (.tuple ds)
theorem rd_tuple {K : PySem.W.Frag} : RAD (fun xs H Q => ∃ p ys, xs = [.ref p] ∧ ((SqL K H p ys ∧ ∀ l, H l = none → Q (.ref l) (upd H l (.tup ys))) ∨ (SqT K H p ys ∧ Q (.ref p) H))) fTuple := fun G H vs as Φ Q s h ⟨d, ds, e, l, q⟩ k => by
  subst e
  obtain ⟨v, e1, r⟩ := dns1 h
  subst e1
  cases r with
  | @lst p vs es hp rp =>
    cases (Option.some.inj l)
    refine ⟨p, vs, rfl, .inl ⟨SqL.of (s _ _ hp), fun t ht => ?_⟩⟩
    have ps := Post.new s ht (.tup vs)
    exact k (.ref t) _ _ _ ps (.tup upd_same (rp.gr (ps.same s))) q
  | @tup p vs es hp rp =>
    cases (Option.some.inj l)
    exact ⟨p, vs, rfl, .inr ⟨SqT.of (s _ _ hp), k (.ref p) _ G H (Post.refl s) (.tup hp rp) q⟩⟩
  | str z => cases l
  | non => cases l
  | bl => cases l
  | int => cases l
def fList : List Dt → (List Dt → Prop) → Prop := fun as Φ => ∃ d ds, as = [d] ∧ itemsD d = some ds ∧ Φ ds
theorem rd_list {K : PySem.W.Frag} : RAF (fun xs H Q => ∃ p ys, xs = [.ref p] ∧ (SqL K H p ys ∨ SqT K H p ys) ∧ ∀ l, H l = none → Q (.ref l) (upd H l (.lst ys))) fList := fun G H vs as Φ Q s h ⟨d, ds, e, l, q⟩ k => by
  subst e
  obtain ⟨v, e1, r⟩ := dns1 h
  subst e1
  cases r with
  | @lst p vs es hp rp =>
    cases (Option.some.inj l)
    exact ⟨p, vs, rfl, .inl (SqL.of (s _ _ hp)), fun t ht => k t vs ds G H (Post.refl s) ht rp q⟩
  | @tup p vs es hp rp =>
    cases (Option.some.inj l)
    exact ⟨p, vs, rfl, .inr (SqT.of (s _ _ hp)), fun t ht => k t vs ds G H (Post.refl s) ht rp q⟩
  | str z => cases l
  | non => cases l
  | bl => cases l
  | int => cases l
def toInt : Dt → Option Int
  | .int i => some i
  | .bool b => some (if b then 1 else 0)
  | _ => none
def fInt : List Dt → (Dt → Prop) → Prop := fun as Φ => ∃ d i, as = [d] ∧ toInt d = some i ∧ Φ (.int i)
theorem rd_int : RAD (fun xs H Q => (∃ i, xs = [V.int i] ∧ Q (.int i) H) ∨ ∃ k, xs = [V.bl k] ∧ Q (.int (if k then 1 else 0)) H) fInt := fun G H vs as Φ Q s h ⟨d, i, e, l, q⟩ k => by
  subst e
  obtain ⟨v, e1, r⟩ := dns1 h
  subst e1
  cases r with
  | int j =>
    cases (Option.some.inj l)
    exact .inl ⟨_, rfl, k _ _ G H (Post.refl s) (.int _) q⟩
  | bl b =>
    have l' : (if b = true then (1 : Int) else 0) = i := Option.some.inj l
    refine .inr ⟨b, rfl, ?_⟩
    rw [l']
    exact k _ _ G H (Post.refl s) (.int _) q
  | str z => cases l
  | non => cases l
  | lst => cases l
  | tup => cases l
def fMin2 : List Dt → (Dt → Prop) → Prop := fun as Φ => ∃ i j, as = [.int i, .int j] ∧ Φ (.int (if j < i then j else i))
theorem rd_min2 : RAD (fun xs H Q => ∃ i j, xs = [V.int i, V.int j] ∧ Q (.int (if j < i then j else i)) H) fMin2 := fun G H vs as Φ Q s h ⟨i, j, e, q⟩ k => by
  subst e
  obtain ⟨v, u, e1, r1, r2⟩ := dns2 h
  subst e1
  cases r1
  cases r2
  exact ⟨i, j, rfl, k _ _ G H (Post.refl s) (.int _) q⟩
def fAbs : List Dt → (Dt → Prop) → Prop := fun as Φ => ∃ i, as = [.int i] ∧ Φ (.int (if i < 0 then -i else i))
theorem rd_abs : RAD (fun xs H Q => ∃ i, xs = [V.int i] ∧ Q (.int (if i < 0 then -i else i)) H) fAbs := fun G H vs as Φ Q s h ⟨i, e, q⟩ k => by
  subst e
  obtain ⟨v, e1, r1⟩ := dns1 h
  subst e1
  cases r1
  exact ⟨i, rfl, k _ _ G H (Post.refl s) (.int _) q⟩
theorem dns_ints {G : Hp} : ∀ {vs : List V} {ns : List Int}, Dns G vs (ns.map PyData.int) → vs = ns.map V.int
  | _, [], h => by cases h; rfl
  | _, n :: ns, h => by
    cases h with
    | cons h t =>
      cases h
      rw [dns_ints t] <;> rfl
def fMaxL : List Dt → (Dt → Prop) → Prop := fun as Φ => ∃ ns : List Int, as = [.list (ns.map PyData.int)] ∧ 0 < ns.length ∧ ∀ m, m ∈ ns → (∀ y ∈ ns, y ≤ m) → Φ (.int m)
theorem rd_maxL {K : PySem.W.Frag} : RAD (rMax K) fMaxL := fun G H vs as Φ Q s h ⟨ns, e, hn, q⟩ k => by
  subst e
  obtain ⟨v, e1, r1⟩ := dns1 h
  subst e1
  cases r1 with
  | @lst p vs es hp rp =>
    have z := dns_ints rp
    subst z
    exact ⟨p, ns, rfl, SqL.of (s _ _ hp), hn, fun m h1 h2 => k _ _ G H (Post.refl s) (.int _) (q m h1 h2)⟩
/-! ### isinstance with one built-in type -/
def tyN : Dt → Option String
  | .none => some "NoneType"
  | .bool _ => some "bool"
  | .int _ => some "int"
  | .str _ => some "str"
  | .list _ => some "list"
  | .tuple _ => some "tuple"
  | .dict _ => none
theorem de_isinst {x T : Str} {n : String} {p p3 : Pos} (he : DE X e te we) (hg : Gl X "isinstance") (hm : X.mg "isinstance" = none) (hgT : Gl X T) (hmT : X.mg T = none) (hvT : bootBuiltins T = some (.type n)) (hnT : T ≠ "__name__" := by decide)
    (hdT : (T == ("__debug__" : Str)) = false := by decide) (hs : starEach [e, .Name T p3] X.env = (false, eval e X.env) :: starEach [.Name T p3] X.env := by rfl)
    (hs2 : starEach [.Name T p3] X.env = (false, eval (.Name T p3) X.env) :: starEach [] X.env := by rfl) (hpl : (backTo pos (starEach [.Name T p3] X.env)).any (·.1) = false := by rfl) :
    DE X (.Call (.Name "isinstance" p) [e, .Name T p3] [] pos) (tCB (rIsi X.K) (tCons te (tCons (tC (.ty n)) tNil))) (fun ρ Φ => we ρ fun d ρ1 => ∃ t b, tyN d = some t ∧ kitB t n = some b ∧ Φ (.bool b) ρ1) := by
  refine ⟨pe_callB call_isi hg hm boot_isinstance (pa_cons he.pe (pa_cons (pe_bltn hgT hmT hvT rfl hnT hdT) pa_nil hs2) hs) (by decide) (by decide) hs hpl, fun B G H σ ρ xs Φ Q R q k => ?_⟩
  refine he.rd B G H σ ρ xs _ _ R q fun v d G1 H1 ρ1 s1 R1 d1 ⟨t, b, h1, h2, h3⟩ => ?_
  refine ⟨v, .ty n, .type t, .type n, b, rfl, .ty n, .base ?_, kit_ty h2, k _ _ G1 H1 ρ1 s1 R1 (.bl b) h3⟩
  cases d1 with
  | non => cases (Option.some.inj h1); exact .non
  | bl => cases (Option.some.inj h1); exact .bl _
  | int => cases (Option.some.inj h1); exact .int _
  | str => cases (Option.some.inj h1); exact .str _
  | lst hp rp => cases (Option.some.inj h1); exact .lst (R1.sub _ _ hp)
  | tup hp rp => cases (Option.some.inj h1); exact .tup (R1.sub _ _ hp)
/-- b(args), b a built-in function; a built-in type -/
theorem de_callB {id : String} {x : Str} {p : Pos} {es : List Expr} {t : TA} {w : WA} {r : List V → Hp → VK → Prop} {f : List Dt → (Dt → Prop) → Prop} (hc : CallR X (.builtin id) r) (hr : RAD r f) (hg : Gl X x) (hm : X.mg x = none) (hv : bootBuiltins x = some (.builtin id)) (ha : DA X (e :: es) t w)
    (hn : x ≠ "__name__" := by decide) (hdb : (x == ("__debug__" : Str)) = false := by decide) (he : starEach (e :: es) X.env = (false, eval e X.env) :: starEach es X.env := by rfl) (hpl : (backTo pos (starEach es X.env)).any (·.1) = false := by rfl) :
    DE X (.Call (.Name x p) (e :: es) [] pos) (tCB r t) (wAr f w) := ⟨pe_callB hc hg hm hv ha.pa hn hdb he hpl, rd_ar hr ha.rd⟩
theorem de_callTy {T : String} {x : Str} {p : Pos} {es : List Expr} {t : TA} {w : WA} {r : List V → Hp → VK → Prop} {f : List Dt → (Dt → Prop) → Prop} (hc : CallR X (.type T) r) (hr : RAD r f) (hg : Gl X x) (hm : X.mg x = none) (hv : bootBuiltins x = some (.type T)) (ha : DA X (e :: es) t w)
    (hn : x ≠ "__name__" := by decide) (hdb : (x == ("__debug__" : Str)) = false := by decide) (he : starEach (e :: es) X.env = (false, eval e X.env) :: starEach es X.env := by rfl) (hpl : (backTo pos (starEach es X.env)).any (·.1) = false := by rfl) :
    DE X (.Call (.Name x p) (e :: es) [] pos) (tCB r t) (wAr f w) := ⟨pe_callTy hc hg hm hv ha.pa hn hdb he hpl, rd_ar hr ha.rd⟩
theorem fe_callTy {T : String} {x : Str} {p : Pos} {es : List Expr} {t : TA} {w : WA} {r : List V → Hp → VK → Prop} {f : List Dt → (List Dt → Prop) → Prop} (hc : CallR X (.type T) r) (hr : RAF r f) (hg : Gl X x) (hm : X.mg x = none) (hv : bootBuiltins x = some (.type T)) (ha : DA X (e :: es) t w)
    (hn : x ≠ "__name__" := by decide) (hdb : (x == ("__debug__" : Str)) = false := by decide) (he : starEach (e :: es) X.env = (false, eval e X.env) :: starEach es X.env := by rfl) (hpl : (backTo pos (starEach es X.env)).any (·.1) = false := by rfl) :
    FE X (.Call (.Name x p) (e :: es) [] pos) (tCB r t) (wArF f w) := ⟨pe_callTy hc hg hm hv ha.pa hn hdb he hpl, rd_arF hr ha.rd⟩
theorem fe_callB {id : String} {x : Str} {p : Pos} {es : List Expr} {t : TA} {w : WA} {r : List V → Hp → VK → Prop} {f : List Dt → (List Dt → Prop) → Prop} (hc : CallR X (.builtin id) r) (hr : RAF r f) (hg : Gl X x) (hm : X.mg x = none) (hv : bootBuiltins x = some (.builtin id)) (ha : DA X (e :: es) t w)
    (hn : x ≠ "__name__" := by decide) (hdb : (x == ("__debug__" : Str)) = false := by decide) (he : starEach (e :: es) X.env = (false, eval e X.env) :: starEach es X.env := by rfl) (hpl : (backTo pos (starEach es X.env)).any (·.1) = false := by rfl) :
    FE X (.Call (.Name x p) (e :: es) [] pos) (tCB r t) (wArF f w) := ⟨pe_callB hc hg hm hv ha.pa hn hdb he hpl, rd_arF hr ha.rd⟩
end
end MP
-- DL4
/-! DATA LAYER 4: statements, targets, loops, comprehensions, contracts. -/
namespace MP
open PySem PySem.Spec PyProof.Rows L2 LamX
structure DEnds where
  nx : Ev → Prop
  rt : Dt → Ev → Prop
abbrev WS := DEnds → Ev → Prop
def RdS (ts : TS) (w : WS) : Prop := ∀ (B : Bs) (G H : Hp) (σ : L2.St) (ρ : Ev) (D : DEnds) (E : Ends), Rep B G H σ ρ [] → w D ρ →
  (∀ G' H' σ' ρ', Same G G' → Rep B G' H' σ' ρ' [] → D.nx ρ' → E.nx σ' H') → (∀ v d G' H' σ' ρ', Same G G' → Rep B G' H' σ' ρ' [] → Dn G' v d → D.rt d ρ' → E.rt v H') → ts E σ H
structure DS (X : Cx) (st : Stmt) (ts : TS) (w : WS) : Prop where
  ps : PS X st ts
  rd : RdS ts w
structure DSs (X : Cx) (st : List Stmt) (ts : TS) (w : WS) : Prop where
  ps : PSs X st ts
  rd : RdS ts w
section
variable {X : Cx} {st : Stmt} {rest sa sb : List Stmt} {t u : TS} {w z : WS} {e a b c : Expr} {es : List Expr} {te : TE} {we : WE} {tc : TT} {wc : WT} {pos : Pos}
theorem dss_nil : DSs X [] tNext (fun D ρ => D.nx ρ) := ⟨pss_nil, fun B G H σ ρ D E R h k _ => k G H σ ρ (Same.refl G) R h⟩
theorem rd_seq (h : RdS t w) (g : RdS u z) : RdS (tSeq t u) (fun D ρ => w { D with nx := z D } ρ) := fun B G H σ ρ D E R q k1 k2 =>
  h B G H σ ρ { D with nx := z D } { E with nx := u E } R q
    (fun G1 H1 σ1 ρ1 s1 R1 h1 => g B G1 H1 σ1 ρ1 D E R1 h1 (fun G2 H2 σ2 ρ2 s2 => k1 G2 H2 σ2 ρ2 (s1.trans s2)) fun v d G2 H2 σ2 ρ2 s2 => k2 v d G2 H2 σ2 ρ2 (s1.trans s2)) k2
theorem dss_cons (h : DS X st t w) (g : DSs X rest u z) : DSs X (st :: rest) (tSeq t u) (fun D ρ => w { D with nx := z D } ρ) := ⟨pss_cons h.ps g.ps, rd_seq h.rd g.rd⟩
theorem dss_one (h : DS X st t w) : DSs X [st] t w := ⟨pss_one h.ps, h.rd⟩
theorem ds_never : DS X st tNever (fun _ _ => False) := ⟨ps_never, fun _ _ _ _ _ _ _ _ h _ _ => h.elim⟩
theorem dss_never : DSs X sa tNever (fun _ _ => False) := ⟨pss_never, fun _ _ _ _ _ _ _ _ h _ _ => h.elim⟩
theorem ds_ret (h : DE X e te we) : DS X (.Return (some e) pos) (tRet te) (fun D ρ => we ρ D.rt) :=
  ⟨ps_ret h.pe, fun B G H σ ρ D E R q _ k2 => h.rd B G H σ ρ [] D.rt E.rt R q fun v d G' H' ρ' s R' dn r => k2 v d G' H' σ ρ' s R' dn r⟩
theorem ds_if (hc : DT X c tc wc) (ha : DSs X sa t w) (hb : DSs X sb u z) : DS X (.If c sa sb pos) (tIfS tc t u) (fun D ρ => wc ρ fun k ρ1 => if k = true then w D ρ1 else z D ρ1) := by
  refine ⟨ps_if hc.pt ha.ps hb.ps, fun B G H σ ρ D E R q k1 k2 => ?_⟩
  refine hc.rd B G H σ ρ [] _ _ R q fun k G1 H1 ρ1 s1 R1 h1 => ?_
  cases k with
  | true => exact iteT (ha.rd B G1 H1 σ ρ1 D E R1 h1 (fun G2 H2 σ2 ρ2 s2 => k1 G2 H2 σ2 ρ2 (s1.trans s2)) fun v d G2 H2 σ2 ρ2 s2 => k2 v d G2 H2 σ2 ρ2 (s1.trans s2))
  | false => exact iteF (hb.rd B G1 H1 σ ρ1 D E R1 h1 (fun G2 H2 σ2 ρ2 s2 => k1 G2 H2 σ2 ρ2 (s1.trans s2)) fun v d G2 H2 σ2 ρ2 s2 => k2 v d G2 H2 σ2 ρ2 (s1.trans s2))
/-! ### stores -/
def wSet (i : Nat) (we : WE) : WS := fun D ρ => we ρ fun d ρ1 => D.nx (ρ1.set i (.da d))
theorem rd_set (i : Nat) (h : RdE te we) : RdS (tAsg te (gName i)) (wSet i we) := fun B G H σ ρ D E R q k1 _ =>
  h B G H σ ρ [] _ _ R q fun v d G' H' ρ' s R' dn r => k1 G' H' _ _ s (R'.set i dn) r
theorem ds_set {i : Nat} {x : Str} {pos' : Pos} (h : DE X e te we) (hN : X.N.Nodup) (hi : X.N[i]? = some x := by rfl) (hx : Loc X.env.scope x := by first | exact Or.inl rfl | exact Or.inr rfl)
    (hs : swapsWith e (some (.Name x pos')) pos.line X.env = pure false := by rfl) (hf : X.fn x = true ∨ X.env.scope.names.lookup x = some .local := by first | exact .inl rfl | exact .inr rfl | assumption) :
    DS X (.Assign [.Name x pos'] e pos) (tAsg te (gName i)) (wSet i we) := ⟨ps_set hN hi hx h.pe hs hf, rd_set i h.rd⟩
/-- x = a new list, that the frame goes on to change -/
def wSetO (i : Nat) (w : WA) : WS := fun D ρ => w ρ fun ds ρ1 => D.nx (ρ1.set i (.ow ds))
theorem rd_setO (i : Nat) {w : WA} (h : RdF te w) : RdS (tAsg te (gName i)) (wSetO i w) := fun B G H σ ρ D E R q k1 _ =>
  h B G H σ ρ [] _ _ R q fun l vs ds G' H' ρ' s R' dn r => k1 G' H' _ _ s (R'.setL i dn) r
theorem ds_setO {i : Nat} {x : Str} {pos' : Pos} {w : WA} (h : FE X e te w) (hN : X.N.Nodup) (hi : X.N[i]? = some x := by rfl) (hx : Loc X.env.scope x := by first | exact Or.inl rfl | exact Or.inr rfl)
    (hs : swapsWith e (some (.Name x pos')) pos.line X.env = pure false := by rfl) (hf : X.fn x = true ∨ X.env.scope.names.lookup x = some .local := by first | exact .inl rfl | exact .inr rfl | assumption) :
    DS X (.Assign [.Name x pos'] e pos) (tAsg te (gName i)) (wSetO i w) := ⟨ps_set hN hi hx h.pe hs hf, rd_setO i h.rd⟩
/-- a, b = e1, e2 -/
def wPar (i j : Nat) (wa wb : WE) : WS := fun D ρ => wa ρ fun x ρ1 => wb ρ1 fun y ρ2 => D.nx ((ρ2.set i (.da x)).set j (.da y))
theorem ds_par {i j : Nat} {x y : Str} {ta tb : TE} {wa wb : WE} {px py pt : Pos} {kt k2 pt2} (ha : DE X a ta wa) (hb : DE X b tb wb) (hc : X.calm = true) (hN : X.N.Nodup) (hi : X.N[i]? = some x := by rfl) (hj : X.N[j]? = some y := by rfl) (hij : i ≠ j := by decide)
    (hx : X.env.scope.names.lookup x = some .local := by rfl) (hy : X.env.scope.names.lookup y = some .local := by rfl) (hsa : starEach [a, b] X.env = (false, eval a X.env) :: starEach [b] X.env := by rfl) (hsb : starEach [b] X.env = (false, eval b X.env) :: starEach [] X.env := by rfl)
    (hw : swappedStores [.Tuple [.Name x px, .Name y py] kt pt] (.Tuple [a, b] k2 pt2) X.env = pure (some [x, y]) := by rfl)
    (hs : swapsWithSole [.Tuple [.Name x px, .Name y py] kt pt] (.Tuple [a, b] k2 pt2) pos.line X.env = pure false := by rfl) :
    DS X (.Assign [.Tuple [.Name x px, .Name y py] kt pt] (.Tuple [a, b] k2 pt2) pos) (tPar i j (tCons ta (tCons tb tNil))) (wPar i j wa wb) := by
  refine ⟨ps_par hc hN hi hj hij hx hy (pa_cons ha.pe (pa_cons hb.pe pa_nil hsb) hsa) hw hs, fun B G H σ ρ D E R q k1 _ => ?_⟩
  refine ha.rd B G H σ ρ [] _ _ R q fun v d G1 H1 ρ1 s1 R1 d1 h1 => ?_
  refine hb.rd B G1 H1 σ ρ1 [] _ _ R1 h1 fun v2 d2 G2 H2 ρ2 s2 R2 e2 h2 => ?_
  exact ⟨v, v2, rfl, k1 G2 H2 _ _ (s1.trans s2) ((R2.set i (d1.gr s2)).set j e2) h2⟩
/-! ### targets -/
abbrev WG := Dt → Ev → (Ev → Prop) → Prop
theorem wipe_get (σ : L2.St) : ∀ (vs : List Nat) (j : Nat), (wipe σ vs)[j]? = if j ∈ vs then σ[j]?.map (fun _ => none) else σ[j]?
  | [], j => by simp [wipe]
  | v :: vs, j => by
    show ((wipe σ vs).set v none)[j]? = _
    rw [List.getElem?_set]
    by_cases e : v = j
    · subst e
      rw [wipe_length]
      by_cases c : v < σ.length
      · simp [c]
      · simp [c]
    · rw [if_neg e, wipe_get σ vs j]
      have e' : j ≠ v := fun z => e z.symm
      simp [e']
theorem wipe_ext {σ τ : L2.St} (vs : List Nat) (h : ∀ j, j ∉ vs → σ[j]? = τ[j]?) (hl : σ.length = τ.length) : wipe σ vs = wipe τ vs := by
  apply List.ext_getElem?
  intro j
  rw [wipe_get, wipe_get]
  by_cases c : j ∈ vs
  · rw [if_pos c, if_pos c]
    by_cases c2 : j < σ.length
    · rw [List.getElem?_eq_getElem c2, List.getElem?_eq_getElem (by rw [← hl]; exact c2)] <;> rfl
    · rw [List.getElem?_eq_none (by omega), List.getElem?_eq_none (by omega)]
  · rw [if_neg c, if_neg c, h j c]
theorem wipe_set (σ : L2.St) {i : Nat} (x : Option V) {vs : List Nat} (h : i ∈ vs) : wipe (σ.set i x) vs = wipe σ vs :=
  wipe_ext vs (fun j hj => by rw [List.getElem?_set_ne]; rintro rfl; exact hj h) (by simp)
theorem wipe_wipe (σ : L2.St) (vs : List Nat) : wipe (wipe σ vs) vs = wipe σ vs := wipe_ext vs (fun j hj => by rw [wipe_get, if_neg hj]) (wipe_length σ vs)
/-- the target stores to the slots ix alone -/
def RdG (ix : List Nat) (g : TG) (w : WG) : Prop := ∀ (B : Bs) (G H : Hp) (σ : L2.St) (ρ : Ev) (xs : List (Addr × HO)) (v : V) (d : Dt) (Φ : Ev → Prop) (Q : L2.St → Hp → Prop), Rep B G H σ ρ xs → Dn G v d → w d ρ Φ →
  (∀ σ' ρ', Rep B G H σ' ρ' xs → (∀ vs : List Nat, (∀ i ∈ ix, i ∈ vs) → wipe σ' vs = wipe σ vs) → Φ ρ' → Q σ' H) → g v σ H Q
def RdGs (ix : List Nat) (g : TGs) (w : List Dt → Ev → (Ev → Prop) → Prop) : Prop := ∀ (B : Bs) (G H : Hp) (σ : L2.St) (ρ : Ev) (xs : List (Addr × HO)) (us : List V) (ds : List Dt) (Φ : Ev → Prop) (Q : L2.St → Hp → Prop), Rep B G H σ ρ xs → Dns G us ds → w ds ρ Φ →
  (∀ σ' ρ', Rep B G H σ' ρ' xs → (∀ vs : List Nat, (∀ i ∈ ix, i ∈ vs) → wipe σ' vs = wipe σ vs) → Φ ρ' → Q σ' H) → g us σ H Q
structure DG (X : Cx) (ix : List Nat) (tg : Expr) (g : TG) (w : WG) : Prop where
  pg : PG X tg g
  rd : RdG ix g w
structure DGs (X : Cx) (ix : List Nat) (tg : List Expr) (g : TGs) (w : List Dt → Ev → (Ev → Prop) → Prop) : Prop where
  pg : PGs X tg g
  rd : RdGs ix g w
theorem dg_name {i : Nat} {x : Str} (hN : X.N.Nodup) (hi : X.N[i]? = some x := by rfl) (hx : Loc X.env.scope x := by first | exact Or.inl rfl | exact Or.inr rfl) (hf : X.fn x = true ∨ X.env.scope.names.lookup x = some .local := by first | exact .inl rfl | exact .inr rfl | assumption) :
    DG X [i] (.Name x pos) (gName i) (fun d ρ Φ => Φ (ρ.set i (.da d))) :=
  ⟨pg_name hN hi hx hf, fun B G H σ ρ xs v d Φ Q R dn q k => k _ _ (R.set i dn) (fun vs h => wipe_set σ _ (h i List.mem_cons_self)) q⟩
theorem dgs_nil : DGs X [] [] gNil (fun ds ρ Φ => ds = [] ∧ Φ ρ) := ⟨pgs_nil, fun B G H σ ρ xs us ds Φ Q R dn ⟨e, q⟩ k => by
  subst e
  cases dn
  exact ⟨rfl, k σ ρ R (fun _ _ => rfl) q⟩⟩
theorem dgs_cons {ix iy : List Nat} {g : TG} {gs : TGs} {w : WG} {ws : List Dt → Ev → (Ev → Prop) → Prop} (h1 : DG X ix e g w) (h2 : DGs X iy es gs ws)
    (hs : (assignEach (e :: es) X.env).map (·.2) = assign e X.env :: (assignEach es X.env).map (·.2) := by rfl) : DGs X (ix ++ iy) (e :: es) (gCons g gs) (fun ds ρ Φ => ∃ d r, ds = d :: r ∧ w d ρ fun ρ1 => ws r ρ1 Φ) := by
  refine ⟨pgs_cons h1.pg h2.pg hs, fun B G H σ ρ xs us ds Φ Q R dn ⟨d, r, e, q⟩ k => ?_⟩
  subst e
  cases dn with
  | cons d1 d2 =>
    refine ⟨_, _, rfl, ?_⟩
    refine h1.rd B G H σ ρ xs _ _ _ _ R d1 q fun σ1 ρ1 R1 w1 q1 => ?_
    refine h2.rd B G H σ1 ρ1 xs _ _ _ _ R1 d2 q1 fun σ2 ρ2 R2 w2 q2 => ?_
    exact k σ2 ρ2 R2 (fun vs hv => (w2 vs fun i hi => hv i (List.mem_append_right _ hi)).trans (w1 vs fun i hi => hv i (List.mem_append_left _ hi))) q2
theorem dg_tup {ix : List Nat} {k n : Nat} {gs : TGs} {ws : List Dt → Ev → (Ev → Prop) → Prop} (hc : X.calm = true) (h : DGs X ix es gs ws) (hn : (assignEach es X.env).length = n := by rfl) (hst : (assignEach es X.env).findIdx? (·.1) = none := by rfl) :
    DG X ix (.Tuple es k pos) (gTup X.K n gs) (fun d ρ Φ => ∃ ds, d = .tuple ds ∧ ds.length = n ∧ ws ds ρ Φ) := by
  refine ⟨pg_tup hc h.pg hn hst, fun B G H σ ρ xs v d Φ Q R dn ⟨ds, e, hl, q⟩ k => ?_⟩
  subst e
  cases dn with
  | @tup p vs _ hp rp =>
  exact ⟨p, vs, rfl, SqT.of (R.sub _ _ hp), by rw [rp.len]; exact hl, h.rd B G H σ ρ xs vs ds Φ Q R rp q k⟩
theorem dg_unl {ix : List Nat} {k n : Nat} {gs : TGs} {ws : List Dt → Ev → (Ev → Prop) → Prop} (hc : X.calm = true) (h : DGs X ix es gs ws) (hn : (assignEach es X.env).length = n := by rfl) (hst : (assignEach es X.env).findIdx? (·.1) = none := by rfl) :
    DG X ix (.Tuple es k pos) (gUnl X.K n gs) (fun d ρ Φ => ∃ ds, d = .list ds ∧ ds.length = n ∧ ws ds ρ Φ) := by
  refine ⟨pg_unl hc h.pg hn hst, fun B G H σ ρ xs v d Φ Q R dn ⟨ds, e, hl, q⟩ k => ?_⟩
  subst e
  cases dn with
  | @lst p vs _ hp rp =>
  exact ⟨p, vs, rfl, SqL.of (R.sub _ _ hp), by rw [rp.len]; exact hl, h.rd B G H σ ρ xs vs ds Φ Q R rp q k⟩
/-- target = value -/
theorem ds_asg {ix : List Nat} {tg : Expr} {g : TG} {wg : WG} (h : DE X e te we) (hg : DG X ix tg g wg) (hs : swapsWithSole [tg] e pos.line X.env = pure false := by rfl) (hw : swappedStores [tg] e X.env = pure none := by rfl)
    (h1 : (assignEach [tg] X.env).map (·.2) = [assign tg X.env] := by rfl) : DS X (.Assign [tg] e pos) (tAsg te g) (fun D ρ => we ρ fun d ρ1 => wg d ρ1 D.nx) :=
  ⟨ps_asg h.pe hg.pg hs hw h1, fun B G H σ ρ D E R q k1 _ => h.rd B G H σ ρ [] _ _ R q fun v d G' H' ρ' s R' dn r => hg.rd B G' H' σ ρ' [] v d _ _ R' dn r fun σ2 ρ2 R2 _ r2 => k1 G' H' σ2 ρ2 s R2 r2⟩
/-! ### what a loop walks -/
/-- J yields the data ds, one by one, while what is frozen in G stands -/
structure Its (J : It) (ds : List Dt) (G : Hp) : Prop where
  goes : ∀ (i : Nat) (H : Hp), i < ds.length → Same G H → J.go i H
  stops : ∀ H : Hp, Same G H → J.stop ds.length H
  yields : ∀ (i : Nat) (H : Hp) (x : V) (H' : Hp), i < ds.length → Same G H → J.yld i H x H' → ∃ d, ds[i]? = some d ∧ ∀ G1, Same G G1 → Same G1 H → ∃ G2, Post G1 H G2 H' ∧ Dn G2 x d
abbrev WI := WA
def RdI (wi : TI) (w : WI) : Prop := ∀ (B : Bs) (G H : Hp) (σ : L2.St) (ρ : Ev) (xs : List (Addr × HO)) (Φ : List Dt → Ev → Prop) (R : It → Hp → Prop), Rep B G H σ ρ xs → w ρ Φ →
  (∀ J ds G' H' ρ', Same G G' → Rep B G' H' σ ρ' xs → Φ ds ρ' → Its J ds G' → R J H') → wi σ H R
structure DI (X : Cx) (tg iter : Expr) (wi : TI) (w : WI) : Prop where
  pi : PI X tg iter wi
  rd : RdI wi w
variable {tg iter l : Expr}
theorem its_list {K : PySem.W.Frag} {a : Addr} {vs : List V} {ds : List Dt} {G : Hp} (h : G a = some (.lst vs)) (r : Dns G vs ds) : Its (Itl K a) ds G where
  goes := fun i H hi s => by
    obtain ⟨v, e, _⟩ := r.get (List.getElem?_eq_getElem hi)
    exact ⟨vs, v, SqL.of (s _ _ h), e⟩
  stops := fun H s => ⟨vs, SqL.of (s _ _ h), by rw [r.len]; exact Nat.le_refl _⟩
  yields := fun i H x H' hi s ⟨e, y⟩ => by
    obtain ⟨d, e2, dn⟩ := r.get' (y vs (SqL.of (s _ _ h)))
    exact ⟨d, e2, fun G1 s1 s2 => ⟨G1, by rw [e]; exact Post.refl s2, dn.gr s1⟩⟩
theorem its_tup {K : PySem.W.Frag} {a : Addr} {vs : List V} {ds : List Dt} {G : Hp} (h : G a = some (.tup vs)) (r : Dns G vs ds) : Its (Itt K a) ds G where
  goes := fun i H hi s => by
    obtain ⟨v, e, _⟩ := r.get (List.getElem?_eq_getElem hi)
    exact ⟨vs, v, SqT.of (s _ _ h), e⟩
  stops := fun H s => ⟨vs, SqT.of (s _ _ h), by rw [r.len]; exact Nat.le_refl _⟩
  yields := fun i H x H' hi s ⟨e, y⟩ => by
    obtain ⟨d, e2, dn⟩ := r.get' (y vs (SqT.of (s _ _ h)))
    exact ⟨d, e2, fun G1 s1 s2 => ⟨G1, by rw [e]; exact Post.refl s2, dn.gr s1⟩⟩
def wiL (we : WE) : WI := fun ρ Φ => we ρ fun d ρ1 => ∃ ds, d = .list ds ∧ Φ ds ρ1
def wiT (we : WE) : WI := fun ρ Φ => we ρ fun d ρ1 => ∃ ds, d = .tuple ds ∧ Φ ds ρ1
theorem di_list (h : DE X l te we) : DI X tg l (iList X.K te) (wiL we) := by
  refine ⟨pi_list h.pe, fun B G H σ ρ xs Φ Rc R q k => ?_⟩
  refine h.rd B G H σ ρ xs _ _ R q fun v d G1 H1 ρ1 s1 R1 d1 ⟨ds, e, h1⟩ => ?_
  subst e
  cases d1 with
  | @lst p vs _ hp rp => exact ⟨p, rfl, ⟨vs, SqL.of (R1.sub _ _ hp)⟩, k _ ds G1 H1 ρ1 s1 R1 h1 (its_list hp rp)⟩
theorem di_tup (h : DE X l te we) : DI X tg l (iTup X.K te) (wiT we) := by
  refine ⟨pi_tup h.pe, fun B G H σ ρ xs Φ Rc R q k => ?_⟩
  refine h.rd B G H σ ρ xs _ _ R q fun v d G1 H1 ρ1 s1 R1 d1 ⟨ds, e, h1⟩ => ?_
  subst e
  cases d1 with
  | @tup p vs _ hp rp => exact ⟨p, rfl, ⟨vs, SqT.of (R1.sub _ _ hp)⟩, k _ ds G1 H1 ρ1 s1 R1 h1 (its_tup hp rp)⟩
/-- 0, 1, .. below n -/
def rgD (n : Nat) : List Dt := (List.range n).map fun i => .int (i : Nat)
theorem its_range {n : Nat} {G : Hp} : Its (Itr 0 n) (rgD n) G where
  goes := fun i H hi _ => by simpa [rgD, Itr] using hi
  stops := fun H _ => by simp [rgD, Itr]
  yields := fun i H x H' hi s ⟨e, y⟩ => by
    have hi' : i < n := by simpa [rgD] using hi
    refine ⟨.int (i : Nat), by simp [rgD, hi'], fun G1 s1 s2 => ⟨G1, by rw [e]; exact Post.refl s2, ?_⟩⟩
    rw [y, Int.zero_add]
    exact .int _
def wiR (we : WE) : WI := fun ρ Φ => we ρ fun d ρ1 => ∃ j : Int, d = .int j ∧ 0 ≤ j ∧ j < 2 ^ 62 ∧ Φ (rgD j.toNat) ρ1
theorem di_range {p : Pos} (hm : X.mg "range" = none) (h : DE X a te we) (hg : Gl X "range" := by rfl) (hs : starEach [a] X.env = [(false, eval a X.env)] := by rfl) : DI X tg (.Call (.Name "range" p) [a] [] pos) (iRng1 (tCons te tNil)) (wiR we) := by
  refine ⟨pi_range1 hg hm (pa_cons h.pe pa_nil (by rw [hs] <;> rfl)) hs, fun B G H σ ρ xs Φ Rc R q k => ?_⟩
  refine h.rd B G H σ ρ xs _ _ R q fun v d G1 H1 ρ1 s1 R1 d1 ⟨j, e, j0, j1, h1⟩ => ?_
  subst e
  cases d1
  exact ⟨j, rfl, by omega, j1, k _ _ G1 H1 ρ1 s1 R1 h1 its_range⟩
/-! ### for -/
def wLoop (wg : WG) (wb : WS) (D : DEnds) : List Dt → Ev → Prop
  | [], ρ => D.nx ρ
  | d :: ds, ρ => wg d ρ fun ρ1 => wb { nx := wLoop wg wb D ds, rt := D.rt } ρ1
theorem ds_for {ix : List Nat} {body : List Stmt} {wi : TI} {wI : WI} {g : TG} {wg : WG} {tb : TS} {wb : WS} (hp : PassesOwn (model X.prog X.w) X.A X.env X.xe) (hc : X.calm = true) (hi : DI X tg iter wi wI) (hg : DG X ix tg g wg) (hb : DSs X body tb wb)
    (hs : ∀ x, foldedSetIterable iter X.env x = pure x := by intro _; rfl) : DS X (.For tg iter body [] pos) (tFor wi g tb) (fun D ρ => wI ρ fun ds ρ1 => wLoop wg wb D ds ρ1) := by
  refine ⟨ps_for hp hc hi.pi hg.pg hb.ps hs, fun B G H σ ρ D E R q k1 k2 => ?_⟩
  refine hi.rd B G H σ ρ [] _ _ R q fun J ds G1 H1 ρ1 s1 R1 h1 hj => ?_
  have W : Walk J ds.length (fun H => Same G1 H) (fun i H x H' => ∃ d, ds[i]? = some d ∧ ∀ G2, Same G1 G2 → Same G2 H → ∃ G3, Post G2 H G3 H' ∧ Dn G3 x d) := ⟨hj.goes, hj.stops, hj.yields⟩
  refine for_it W (fun i σ' H' => ∃ G' ρ', Same G1 G' ∧ Rep B G' H' σ' ρ' [] ∧ wLoop wg wb D (ds.drop i) ρ') ⟨G1, ρ1, Same.refl G1, R1, h1⟩ (fun i σ' H' _ ⟨G', ρ', s', R', _⟩ => s'.trans R'.sub) (fun i x σ' H' H2 hi2 ⟨G', ρ', s', R', h'⟩ ⟨d, e, y⟩ => ?_) fun σ' H' ⟨G', ρ', s', R', h'⟩ => ?_
  · obtain ⟨G3, p3, dn⟩ := y G' s' R'.sub
    have e2 : ds.drop i = d :: ds.drop (i + 1) := by
      rw [List.drop_eq_getElem_cons hi2]
      rw [List.getElem?_eq_getElem hi2] at e
      rw [Option.some.inj e]
    rw [e2] at h'
    have s3 := p3.same R'.sub
    refine hg.rd B G3 H2 σ' ρ' [] x d _ _ (R'.grow p3) dn h' fun σ4 ρ4 R4 _ h4 => ?_
    refine hb.rd B G3 H2 σ4 ρ4 _ _ R4 h4 (fun G5 H5 σ5 ρ5 s5 R5 h5 => ⟨G5, ρ5, s'.trans (s3.trans s5), R5, h5⟩) fun v d G5 H5 σ5 ρ5 s5 R5 dn5 h5 => ?_
    exact k2 v d G5 H5 σ5 ρ5 (s1.trans (s'.trans (s3.trans s5))) R5 dn5 h5
  · rw [List.drop_length] at h'
    exact k1 G' H' σ' ρ' (s1.trans s') R' h'
/-! ### while, by an invariant over the slots -/
def wWhile (wc : WT) (wb : WS) : WS := fun D ρ => ∃ I : Nat → Ev → Prop, (∃ m, I m ρ) ∧ ∀ m ρ, I m ρ → wc ρ fun k ρ1 => if k = true then wb { nx := fun ρ2 => ∃ m', m' < m ∧ I m' ρ2, rt := D.rt } ρ1 else D.nx ρ1
theorem ds_while {body : List Stmt} {tb : TS} {wb : WS} (hp : PassesOwn (model X.prog X.w) X.A X.env X.xe) (hc : DT X c tc wc) (hb : DSs X body tb wb) : DS X (.While c body [] pos) (tWhile tc tb) (wWhile wc wb) := by
  refine ⟨ps_while hp hc.pt hb.ps, fun B G H σ ρ D E R q k1 k2 => ?_⟩
  obtain ⟨I, ⟨m0, h0⟩, turn⟩ := q
  refine ⟨fun m σ' H' => ∃ G' ρ', Same G G' ∧ Rep B G' H' σ' ρ' [] ∧ I m ρ', ⟨m0, G, ρ, Same.refl G, R, h0⟩, fun m σ' H' ⟨G', ρ', s', R', h'⟩ => ?_⟩
  refine hc.rd B G' H' σ' ρ' [] _ _ R' (turn m ρ' h') fun k G1 H1 ρ1 s1 R1 h1 => ?_
  cases k with
  | true =>
    refine iteT ⟨fun σ2 H2 => ∃ G2 ρ2, Same G G2 ∧ Rep B G2 H2 σ2 ρ2 [] ∧ ∃ m', m' < m ∧ I m' ρ2, fun σ2 H2 ⟨G2, ρ2, s2, R2, m', lt, h2⟩ => ⟨m', lt, G2, ρ2, s2, R2, h2⟩, ?_⟩
    refine hb.rd B G1 H1 σ' ρ1 _ _ R1 h1 (fun G2 H2 σ2 ρ2 s2 R2 h2 => ⟨G2, ρ2, s'.trans (s1.trans s2), R2, h2⟩) fun v d G5 H5 σ5 ρ5 s5 R5 dn5 h5 => ?_
    exact k2 v d G5 H5 σ5 ρ5 (s'.trans (s1.trans s5)) R5 dn5 h5
  | false => exact iteF (k1 G1 H1 σ' ρ1 (s'.trans s1) R1 h1)
/-! ### the frame's own lists -/
/-- slot i's own list is frozen -/
theorem dss_pub (i : Nat) (h : DSs X sa t w) : DSs X sa t (fun D ρ => ∃ ds, ρ[i]? = some (.ow ds) ∧ w D (ρ.set i (.da (.list ds)))) := ⟨h.ps, fun B G H σ ρ D E R ⟨ds, e, q⟩ k1 k2 => by
  obtain ⟨G', s', R'⟩ := R.pubO e
  exact h.rd B G' H σ _ D E R' q (fun G2 H2 σ2 ρ2 s2 => k1 G2 H2 σ2 ρ2 (s'.trans s2)) fun v d G2 H2 σ2 ρ2 s2 => k2 v d G2 H2 σ2 ρ2 (s'.trans s2)⟩
theorem ds_pub (i : Nat) (h : DS X st t w) : DS X st t (fun D ρ => ∃ ds, ρ[i]? = some (.ow ds) ∧ w D (ρ.set i (.da (.list ds)))) := ⟨h.ps, fun B G H σ ρ D E R ⟨ds, e, q⟩ k1 k2 => by
  obtain ⟨G', s', R'⟩ := R.pubO e
  exact h.rd B G' H σ _ D E R' q (fun G2 H2 σ2 ρ2 s2 => k1 G2 H2 σ2 ρ2 (s'.trans s2)) fun v d G2 H2 σ2 ρ2 s2 => k2 v d G2 H2 σ2 ρ2 (s'.trans s2)⟩
/-- xs.append(e) -/
def wAppend (i : Nat) (we : WE) : WS := fun D ρ => (∃ ds, ρ[i]? = some (.ow ds)) ∧ we ρ fun d ρ1 => ∃ ds, ρ1[i]? = some (.ow ds) ∧ ds.length < sizeLine ∧ D.nx (ρ1.set i (.ow (ds ++ [d])))
theorem ds_append {i : Nat} {x : Str} {p apos cpos : Pos} (h : DE X e te we) (hN : X.N[i]? = some x := by rfl) (hv : Vis X.env.scope x := by first | exact Or.inl rfl | exact Or.inr (Or.inl rfl) | exact Or.inr (Or.inr rfl))
    (hd : (x == ("__debug__" : Str)) = false := by decide) (hcd : (x == ("__classdict__" : Str)) = false := by decide) (hs1 : starEach [e] X.env = (false, eval e X.env) :: starEach [] X.env := by rfl)
    (hbase : attributeBase (.Name x p) "append" X.env (eval (.Name x p) X.env) = eval (.Name x p) X.env := by rfl)
    (hfew : ((backTo cpos (starEach [e] X.env)).all (fun x => !x.1) && (backToKw cpos (keywordEach [] X.env)).all (fun x => x.1.isSome)
      && decide (([e] : List Expr).length + ([] : List Keyword).length + (if ([] : List Keyword).isEmpty then 0 else 1) < 30)) = true := by rfl)
    (hline : (apos.endLine == cpos.line) = true := by rfl)
    (hs : swapsWith (.Call (.Attribute (.Name x p) "append" apos) [e] [] cpos) none pos.line X.env = pure false := by rfl) :
    DS X (.Expr (.Call (.Attribute (.Name x p) "append" apos) [e] [] cpos) pos) (tDrop (tBM X.K "list" rAppend (tVar i) (tCons te tNil))) (wAppend i we) := by
  refine ⟨ps_expr (pe_bm PySem.F.plainAttrs_list PySem.F.slot_list_append PySem.F.type_list_append mt_append (pe_var hN hv hd hcd) (pa_cons h.pe pa_nil hs1) hbase hfew hline hs1) hs, fun B G H σ ρ D E R ⟨⟨ds0, e0⟩, q⟩ k1 _ => ?_⟩
  obtain ⟨l, vs, hl, hu, _⟩ := R.owAt e0
  refine ⟨.ref l, hl, .inl ⟨rfl, vs, SqL.of hu⟩, ?_⟩
  refine h.rd B G H σ ρ [] _ _ R q fun v d G1 H1 ρ1 s1 R1 d1 ⟨ds, e1, hz, h1⟩ => ?_
  obtain ⟨l1, vs1, hl1, hu1, r1⟩ := R1.owAt e1
  rw [hl] at hl1
  cases hl1
  exact ⟨l, vs1, v, rfl, rfl, hu1, by rw [r1.len]; exact hz, k1 G1 _ σ _ s1 (R1.writeL e1 hl (r1.app (.one d1))) h1⟩
/-- xs.extend(e), e a new list -/
def wExtend (i : Nat) (w : WA) : WS := fun D ρ => (∃ ds, ρ[i]? = some (.ow ds)) ∧ w ρ fun es ρ1 => ∃ ds, ρ1[i]? = some (.ow ds) ∧ ds.length + es.length ≤ sizeLine ∧ D.nx (ρ1.set i (.ow (ds ++ es)))
theorem ds_extend {i : Nat} {x : Str} {p apos cpos : Pos} {w : WA} (h : FE X e te w) (hN : X.N[i]? = some x := by rfl) (hv : Vis X.env.scope x := by first | exact Or.inl rfl | exact Or.inr (Or.inl rfl) | exact Or.inr (Or.inr rfl))
    (hd : (x == ("__debug__" : Str)) = false := by decide) (hcd : (x == ("__classdict__" : Str)) = false := by decide) (hs1 : starEach [e] X.env = (false, eval e X.env) :: starEach [] X.env := by rfl)
    (hbase : attributeBase (.Name x p) "extend" X.env (eval (.Name x p) X.env) = eval (.Name x p) X.env := by rfl)
    (hfew : ((backTo cpos (starEach [e] X.env)).all (fun x => !x.1) && (backToKw cpos (keywordEach [] X.env)).all (fun x => x.1.isSome)
      && decide (([e] : List Expr).length + ([] : List Keyword).length + (if ([] : List Keyword).isEmpty then 0 else 1) < 30)) = true := by rfl)
    (hline : (apos.endLine == cpos.line) = true := by rfl)
    (hs : swapsWith (.Call (.Attribute (.Name x p) "extend" apos) [e] [] cpos) none pos.line X.env = pure false := by rfl) :
    DS X (.Expr (.Call (.Attribute (.Name x p) "extend" apos) [e] [] cpos) pos) (tDrop (tBM X.K "list" rExtend (tVar i) (tCons te tNil))) (wExtend i w) := by
  refine ⟨ps_expr (pe_bm PySem.F.plainAttrs_list PySem.F.slot_list_extend PySem.F.type_list_extend mt_extend (pe_var hN hv hd hcd) (pa_cons h.pe pa_nil hs1) hbase hfew hline hs1) hs, fun B G H σ ρ D E R ⟨⟨ds0, e0⟩, q⟩ k1 _ => ?_⟩
  obtain ⟨l, vs, hl, hu, _⟩ := R.owAt e0
  refine ⟨.ref l, hl, .inl ⟨rfl, vs, SqL.of hu⟩, ?_⟩
  refine h.rd B G H σ ρ [] _ _ R q fun b ws es G1 H1 ρ1 s1 R1 d1 ⟨ds, e1, hz, h1⟩ => ?_
  obtain ⟨l1, vs1, hl1, hu1, r1⟩ := R1.owAt e1
  rw [hl] at hl1
  cases hl1
  have hb := (R1.ext _ List.mem_cons_self).1
  exact ⟨l, b, vs1, ws, rfl, rfl, hu1, hb, by rw [r1.len, d1.len]; exact hz, k1 G1 _ σ _ s1 (R1.writeL e1 hl (r1.app d1)).drop h1⟩
end
end MP
-- DL5
/-! DATA LAYER 5: comprehensions, looks, contracts of defs and their calls. -/
namespace MP
open PySem PySem.Spec PyProof.Rows L2 LamX
section
variable {X : Cx} {e elt tg iter c : Expr} {es ifs : List Expr} {te : TE} {we : WE} {tt : TT} {wt : WT} {pos : Pos}
/-! ### comprehensions -/
structure DTs (X : Cx) (ifs : List Expr) (tt : TT) (w : WT) : Prop where
  pt : PTs X ifs tt
  rd : RdT tt w
theorem dts_nil : DTs X [] tYes (fun ρ Φ => Φ true ρ) := ⟨pts_nil, fun B G H σ ρ xs Φ Q R q k => k true G H ρ (Same.refl G) R q⟩
theorem dts_one (h : DT X c tt wt) : DTs X [c] tt wt := ⟨pts_one h.pt, h.rd⟩
def wLc (wg : WG) (wt : WT) (we : WE) (vs : List Nat) : List Dt → Ev → (List Dt → Ev → Prop) → Prop
  | [], ρ, k => k [] ρ
  | d :: ds, ρ, k => wg d ρ fun ρ1 => wt ρ1 fun b ρ2 =>
      if b = true then we ρ2 fun x ρ3 => wLc wg wt we vs ds (wipeE ρ3 vs) fun xs ρ4 => k (x :: xs) ρ4 else wLc wg wt we vs ds (wipeE ρ2 vs) k
theorem wipeE_wipe (ρ : Ev) (vs : List Nat) : wipeE (wipeE ρ vs) vs = wipeE ρ vs := by
  apply List.ext_getElem?
  intro j
  rw [wipeE_get, wipeE_get]
  by_cases c : j ∈ vs
  · rw [if_pos c, if_pos c]
    cases ρ[j]? <;> rfl
  · rw [if_neg c, if_neg c]
theorem rd_lc {ix vs : List Nat} {wi : TI} {wI : WI} {g : TG} {wg : WG} (hi : RdI wi wI) (hg : RdG ix g wg) (ht : RdT tt wt) (he : RdE te we) (hix : ∀ i ∈ ix, i ∈ vs) :
    RdF (tLc wi g tt te vs) (fun ρ Φ => wI ρ fun ds ρ1 => ds.length ≤ 1000000 ∧ wLc wg wt we vs ds (wipeE ρ1 vs) Φ) := fun B G H σ ρ xs Φ Q R q k => by
  refine hi B G H σ ρ xs _ _ R q fun J ds G1 H1 ρ1 s1 R1 ⟨hz, h1⟩ hj => ?_
  intro D hD
  have W : Walk J ds.length (fun H => Same G1 H) (fun i H x H' => ∃ d, ds[i]? = some d ∧ ∀ G2, Same G1 G2 → Same G2 H → ∃ G3, Post G2 H G3 H' ∧ Dn G3 x d) := ⟨hj.goes, hj.stops, hj.yields⟩
  have R2 : Rep B G1 (upd H1 D (.lst [])) (wipe σ vs) (wipeE ρ1 vs) ((D, .lst []) :: xs) := (R1.newX hD noT_lst).wipe vs
  refine lc_it W (fun i H' => ∃ G' ρ' acc es, Same G1 G' ∧ Rep B G' H' (wipe σ vs) ρ' ((D, .lst acc) :: xs) ∧ wipeE ρ' vs = ρ' ∧ Dns G' acc es ∧ es.length ≤ i ∧ wLc wg wt we vs (ds.drop i) ρ' (fun more ρ4 => Φ (es ++ more) ρ4))
    ⟨G1, wipeE ρ1 vs, [], [], Same.refl G1, R2, wipeE_wipe ρ1 vs, .nil, Nat.le_refl 0, h1⟩ (fun i H' _ ⟨G', _, _, _, s', R', _⟩ => s'.trans R'.sub) (fun i x H' H2 hi2 ⟨G', ρ', acc, es, s', R', wp, dn, hl, h'⟩ ⟨d, e, y⟩ => ?_) fun H' ⟨G', ρ', acc, es, s', R', wp, dn, hl, h'⟩ => ?_
  · obtain ⟨G3, p3, dx⟩ := y G' s' R'.sub
    have e2 : ds.drop i = d :: ds.drop (i + 1) := by
      rw [List.drop_eq_getElem_cons hi2]
      rw [List.getElem?_eq_getElem hi2] at e
      rw [Option.some.inj e]
    rw [e2] at h'
    have s3 := p3.same R'.sub
    have step : ∀ {G5 H5 : Hp} {σ4 : L2.St} {ρ5 : Ev} {acc2 : List V} {es2 : List Dt}, Same G' G5 → Rep B G5 H5 σ4 ρ5 ((D, .lst acc2) :: xs) → wipe σ4 vs = wipe σ vs → Dns G5 acc2 es2 → es2.length ≤ i + 1 → wLc wg wt we vs (ds.drop (i + 1)) (wipeE ρ5 vs) (fun more ρ4 => Φ (es2 ++ more) ρ4) →
        ∃ G' ρ' acc es, Same G1 G' ∧ Rep B G' H5 (wipe σ vs) ρ' ((D, .lst acc) :: xs) ∧ wipeE ρ' vs = ρ' ∧ Dns G' acc es ∧ es.length ≤ i + 1 ∧ wLc wg wt we vs (ds.drop (i + 1)) ρ' (fun more ρ4 => Φ (es ++ more) ρ4) := fun {G5 H5 σ4 ρ5 acc2 es2} s5 R5 ws dn5 hl5 h5 =>
      ⟨G5, wipeE ρ5 vs, acc2, es2, s'.trans s5, by rw [← ws]; exact R5.wipe vs, wipeE_wipe ρ5 vs, dn5, hl5, h5⟩
    refine hg B G3 H2 (wipe σ vs) ρ' _ x d _ _ (R'.grow p3) dx h' fun σ4 ρ4 R4 ws h4 => ?_
    have ws' : wipe σ4 vs = wipe σ vs := (ws vs hix).trans (wipe_wipe σ vs)
    refine ⟨ws', ?_⟩
    refine ht B G3 H2 σ4 ρ4 _ _ _ R4 h4 fun b G5 H5 ρ5 s5 R5 h5 => ?_
    cases b with
    | false => exact iteF (step (s3.trans s5) R5 ws' (dn.gr (s3.trans s5)) (Nat.le_succ_of_le hl) h5)
    | true =>
      refine iteT ?_
      refine he B G5 H5 σ4 ρ5 _ _ _ R5 h5 fun y dy G6 H6 ρ6 s6 R6 d6 h6 => ?_
      have dn6 := dn.gr (s3.trans (s5.trans s6))
      refine ⟨acc, (R6.ext _ List.mem_cons_self).1, ?_, ?_⟩
      · rw [dn.len]
        have : es.length ≤ 1000000 := by omega
        exact Nat.lt_of_le_of_lt this (by decide)
      · refine step (es2 := es ++ [dy]) (s3.trans (s5.trans s6)) (R6.extW noT_lst) ws' (dn6.app (.one d6)) ?_ ?_
        · rw [List.length_append, List.length_singleton]
          omega
        · have e7 : (fun (more : List Dt) (ρ4 : Ev) => Φ (es ++ [dy] ++ more) ρ4) = fun more ρ4 => Φ (es ++ dy :: more) ρ4 := by
            funext more ρ4
            rw [List.append_assoc, List.singleton_append]
          rw [e7]
          exact h6
  · rw [List.drop_length] at h'
    have h'' : Φ es ρ' := by
      have : Φ (es ++ []) ρ' := h'
      rw [List.append_nil] at this
      exact this
    refine k D acc es G' H' ρ' (s1.trans s') (R'.sig (fun i => ?_) (by rw [wipe_length])) dn h''
    rw [← wp, wipeE_get]
    by_cases c : i ∈ vs
    · rw [if_pos c]
      cases q : ρ'[i]? with
      | none =>
        right
        have hi3 : ¬ i < (wipe σ vs).length := by
          rw [R'.len]
          intro z
          rw [List.getElem?_eq_getElem z] at q
          cases q
        have wl := wipe_length σ vs
        rw [List.getElem?_eq_none (by omega), List.getElem?_eq_none (by omega)]
      | some s => exact .inl rfl
    · right
      rw [wipe_get, if_neg c]
/-- [elt for target in iter if test], a new list -/
theorem fe_lc {scope : Scope} {own : List (Str × Nat)} {ix : List Nat} {wi : TI} {wI : WI} {g : TG} {wg : WG} (hc : X.calm = true) (hN : X.N.Nodup) (hi : DI X tg iter wi wI) (ok : BlkOk X.N X.env.scope scope own)
    (hg : ∀ (s : Shared) (H : Hp) (C : Addr) (cl : List (Str × Addr)) (fp : List Addr), DG (X.blk s H scope (compEnvC scope cl C X.env) fp) ix tg g wg) (ht : ∀ (s : Shared) (H : Hp) (C : Addr) (cl : List (Str × Addr)) (fp : List Addr), DTs (X.blk s H scope (compEnvC scope cl C X.env) fp) ifs tt wt)
    (he : ∀ (s : Shared) (H : Hp) (C : Addr) (cl : List (Str × Addr)) (fp : List Addr), DE (X.blk s H scope (compEnvC scope cl C X.env) fp) elt te we) (hix : ∀ i ∈ ix, i ∈ own.map (·.2) := by decide) (hs : ∀ x, foldedSetIterable iter X.env x = pure x := by intro _; rfl) :
    FE X (.ListComp elt [⟨tg, iter, ifs, 0⟩] scope pos) (tLc wi g tt te (own.map (·.2))) (fun ρ Φ => wI ρ fun ds ρ1 => ds.length ≤ 1000000 ∧ wLc wg wt we (own.map (·.2)) ds (wipeE ρ1 (own.map (·.2))) Φ) :=
  ⟨pe_lc hc hN hi.pi ok (fun s H C cl fp => (hg s H C cl fp).pg) (fun s H C cl fp => (ht s H C cl fp).pt) (fun s H C cl fp => (he s H C cl fp).pe) hs,
    rd_lc hi.rd (hg {} (fun _ => none) 0 [] []).rd (ht {} (fun _ => none) 0 [] []).rd (he {} (fun _ => none) 0 [] []).rd hix⟩
/-- y = [..], y a local: its list is data; its list is the frame's own -/
theorem ds_setLc {i : Nat} {y : Str} {py spos : Pos} {scope : Scope} {own : List (Str × Nat)} {ix : List Nat} {wi : TI} {wI : WI} {g : TG} {wg : WG} (hc : X.calm = true) (hN : X.N.Nodup) (hy : X.N[i]? = some y) (hyl : X.env.scope.names.lookup y = some .local)
    (hsw : swapsWith (.ListComp elt [⟨tg, iter, ifs, 0⟩] scope pos) (some (.Name y py)) spos.line X.env = pure true) (hi : DI X tg iter wi wI) (ok : BlkOk X.N X.env.scope scope own)
    (hg : ∀ (s : Shared) (H : Hp) (C : Addr) (cl : List (Str × Addr)) (fp : List Addr), DG (X.blk s H scope (compEnvC scope cl C X.env) fp) ix tg g wg) (ht : ∀ (s : Shared) (H : Hp) (C : Addr) (cl : List (Str × Addr)) (fp : List Addr), DTs (X.blk s H scope (compEnvC scope cl C X.env) fp) ifs tt wt)
    (he : ∀ (s : Shared) (H : Hp) (C : Addr) (cl : List (Str × Addr)) (fp : List Addr), DE (X.blk s H scope (compEnvC scope cl C X.env) fp) elt te we) (hix : ∀ i ∈ ix, i ∈ own.map (·.2) := by decide) (hs : ∀ x, foldedSetIterable iter X.env x = pure x := by intro _; rfl) :
    DS X (.Assign [.Name y py] (.ListComp elt [⟨tg, iter, ifs, 0⟩] scope pos) spos) (tAsg (tLc wi g tt te (own.map (·.2))) (gName i)) (wSetO i (fun ρ Φ => wI ρ fun ds ρ1 => ds.length ≤ 1000000 ∧ wLc wg wt we (own.map (·.2)) ds (wipeE ρ1 (own.map (·.2))) Φ)) :=
  ⟨ps_setLc hc hN hy hyl hsw hi.pi ok (fun s H C cl fp => (hg s H C cl fp).pg) (fun s H C cl fp => (ht s H C cl fp).pt) (fun s H C cl fp => (he s H C cl fp).pe) hs,
    rd_setO i (rd_lc hi.rd (hg {} (fun _ => none) 0 [] []).rd (ht {} (fun _ => none) 0 [] []).rd (he {} (fun _ => none) 0 [] []).rd hix)⟩
/-- what was stored as the frame's own is data -/
theorem rd_setPub {i : Nat} {w : WA} (h : RdS (tAsg te (gName i)) (wSetO i w)) (hF : RdF te w) : RdS (tAsg te (gName i)) (wSet i (wPub w)) := rd_set i (rd_pub hF)
/-! ### a test that looks at the frame's own lists -/
theorem dt_peek (h : DT X e tt wt) : DT X e tt (fun ρ Φ => wt (peekE ρ) fun b _ => Φ b ρ) := by
  refine ⟨h.pt, fun B G H σ ρ xs Φ Q R q k => ?_⟩
  obtain ⟨G', s', R'⟩ := R.peek
  refine h.rd _ G' H σ (peekE ρ) [] _ _ R' q fun b G1 H1 ρ1 s1 R1 h1 => ?_
  refine k b G H1 ρ (Same.refl G) (R.grow ⟨fun a o e => ?_, fun a o e => ?_, R1.tb⟩) h1
  · exact R1.sub _ _ (s1 _ _ (s' _ _ e))
  · obtain ⟨o', e1, _, e3⟩ := R1.fr a o e
    exact ⟨o', e1, rfl, fun n => e3 n (by simp)⟩
end
/-! ### contracts -/
/-- a def that makes data of data -/
def spP (n : Nat) (W : List Dt → (Dt → Prop) → Prop) : Sp := fun vs H Q _ => vs.length = n ∧ ∃ G ds Φ, Same G H ∧ Dns G vs ds ∧ W ds Φ ∧ ∀ v d G' H', Post G H G' H' → Dn G' v d → Φ d → Q v H'
/-- a step of a def that draws from the deck at a, b -/
structure PostK (a b : Addr) (G H G' H' : Hp) : Prop where
  sub : Same G' H'
  fr : ∀ c o, H c = some o → ∃ o', H' c = some o' ∧ G' c = G c ∧ (NoTbl o → c ≠ a → c ≠ b → o' = o)
  tb : ∀ P q, TabL H P q → TabL H' P q
/-- a def that draws: the deck is its first argument -/
def spK (n : Nat) (W : Nat → List Dt → (Nat → Dt → Prop) → Prop) : Sp := fun vs H Q _ => vs.length = n + 1 ∧ ∃ G a b m vs' ds Φ, vs = .ref a :: vs' ∧ Same G H ∧ DeckAt H a b m ∧ G a = none ∧ G b = none ∧ Dns G vs' ds ∧ W m ds Φ ∧
  ∀ v d G' H' b' m', PostK a b G H G' H' → DeckAt H' a b' m' → (b' = b ∨ H b' = none) → G' a = none → G' b' = none → Dn G' v d → Φ m' d → Q v H'
/-- the module's name x is a def with that promise -/
structure Con (P : Program) (w : World) (K : PySem.W.Frag) (mg : Str → Option Value) (base : Heap) (x : Str) (k : Nat) (sp : Sp) : Prop where
  ex : ∃ (f : Addr) (fd : FuncData) (ps : List Str), mg x = some (.ref f) ∧ PySem.W.keepIn K (.ref f) = true ∧ Binds K fd ps [] ∧ FnOk P w K mg base CX0 k f fd ps sp
section
variable {P : Program} {w : World} {K : PySem.W.Frag} {mg : Str → Option Value} {base : Heap} {x : Str} {k n : Nat}
theorem Con.mono {j : Nat} {sp : Sp} (C : Con P w K mg base x j sp) (h : j ≤ k) : Con P w K mg base x k sp := by
  obtain ⟨f, fd, ps, h1, h2, h3, h4⟩ := C.ex
  exact ⟨f, fd, ps, h1, h2, h3, h4.mono h⟩
theorem Con.imp {W W' : List Dt → (Dt → Prop) → Prop} (C : Con P w K mg base x k (spP n W)) (h : ∀ ds Φ, W' ds Φ → W ds Φ) : Con P w K mg base x k (spP n W') := by
  obtain ⟨f, fd, ps, h1, h2, h3, h4⟩ := C.ex
  exact ⟨f, fd, ps, h1, h2, h3, h4.imp fun vs H Q E ⟨hl, G, ds, Φ, a, b, c, d⟩ => ⟨hl, G, ds, Φ, a, b, h _ _ c, d⟩⟩
theorem Con.impK {W W' : Nat → List Dt → (Nat → Dt → Prop) → Prop} (C : Con P w K mg base x k (spK n W)) (h : ∀ m ds Φ, W' m ds Φ → W m ds Φ) : Con P w K mg base x k (spK n W') := by
  obtain ⟨f, fd, ps, h1, h2, h3, h4⟩ := C.ex
  exact ⟨f, fd, ps, h1, h2, h3, h4.imp fun vs H Q E ⟨hl, G, a, b, m, vs', ds, Φ, e0, e1, e2, e3, e4, e5, e6, e7⟩ => ⟨hl, G, a, b, m, vs', ds, Φ, e0, e1, e2, e3, e4, e5, h _ _ _ e6, e7⟩⟩
end
section
variable {X : Cx} {e : Expr} {es : List Expr} {t : TA} {w : WA} {x : Str} {k n : Nat} {p pos : Pos}
def wCall (W : List Dt → (Dt → Prop) → Prop) (w : WA) : WE := fun ρ Φ => w ρ fun ds ρ1 => W ds fun d => Φ d ρ1
theorem rd_call {W : List Dt → (Dt → Prop) → Prop} {m : Nat} (h : RdA m t w) (hm : m = n) : RdE (tCall (spP n W) [] E0 t) (wCall W w) := fun B G H σ ρ xs Φ Q R q kk => by
  refine h B G H σ ρ xs _ _ R q fun vs ds G1 H1 ρ1 s1 R1 d1 hl h1 => ?_
  rw [List.append_nil]
  exact ⟨by rw [d1.len, hl, hm], G1, ds, _, R1.sub, d1, h1, fun v d G2 H2 p dn q2 => kk v d G2 H2 ρ1 (s1.trans (p.same R1.sub)) (R1.grow p) dn q2⟩
theorem de_call {W : List Dt → (Dt → Prop) → Prop} (C : Con X.prog X.w X.K X.mg X.base x k (spP n W)) (hr : Room k X.A) (ha : DA X (e :: es) t w) (hg : Gl X x := by rfl) (hn : (e :: es).length = n := by rfl)
    (hdb : (x == ("__debug__" : Str)) = false := by decide) (he : starEach (e :: es) X.env = (false, eval e X.env) :: starEach es X.env := by rfl) (hpl : (backTo pos (starEach es X.env)).any (·.1) = false := by rfl) :
    DE X (.Call (.Name x p) (e :: es) [] pos) (tCall (spP n W) [] E0 t) (wCall W w) := by
  obtain ⟨f, fd, ps, h1, h2, h3, h4⟩ := C.ex
  exact ⟨pe_call h4 hr hg h1 h2 h3 .nil pass0 ha.pa hdb he hpl, rd_call ha.rd hn⟩
/-! ### the deck's calls -/
theorem Rep.deck {B : Bs} {G H : Hp} {σ : L2.St} {ρ : Ev} {xs : List (Addr × HO)} (R : Rep B G H σ ρ xs) {i m : Nat} {a : Addr} (h : ρ[i]? = some (.dk a m)) :
    ∃ b, σ[i]? = some (some (.ref a)) ∧ DeckAt H a b m ∧ G a = none ∧ G b = none ∧
      ∀ G' H' b' m', PostK a b G H G' H' → DeckAt H' a b' m' → (b' = b ∨ H b' = none) → G' a = none → G' b' = none → Same G G' ∧ Rep B G' H' σ (ρ.set i (.dk a m')) xs := by
  obtain ⟨ass, hal, hss, nd, fr⟩ := R.own
  have ow := R.owned hal hss
  have hi : i < ass.length := by
    rw [hal]
    exact (List.getElem?_eq_some_iff.mp h).1
  have hai : ass[i]? = some ass[i] := List.getElem?_eq_getElem hi
  obtain ⟨b, ea, e, da⟩ := hss i _ ass[i] h hai
  have am : a ∈ ass.flatten := flat_mem hai (by rw [ea]; simp)
  have bm : b ∈ ass.flatten := flat_mem hai (by rw [ea]; simp)
  refine ⟨b, e, da, (fr a (List.mem_append_left _ am)).1, (fr b (List.mem_append_left _ bm)).1, fun G' H' b' m' p d' hb ga gb => ?_⟩
  have sg : Same G G' := fun c o q => by
    obtain ⟨_, _, g, _⟩ := p.fr c o (R.sub c o q)
    exact g.trans q
  have e1 : ass = ass.take i ++ ass[i] :: ass.drop (i + 1) := by
    have := List.take_append_drop i ass
    rw [List.drop_eq_getElem_cons hi] at this
    exact this.symm
  have e3 : ass.set i [a, b'] = ass.take i ++ [a, b'] :: ass.drop (i + 1) := by
    rw [List.set_eq_take_append_cons_drop, if_pos hi]
  have pm : (ass.flatten ++ xs.map (·.1)).Perm (a :: b :: ((ass.take i).flatten ++ ((ass.drop (i + 1)).flatten ++ xs.map (·.1)))) := by
    conv => lhs; rw [e1]
    rw [List.flatten_append, List.flatten_cons, ea, List.append_assoc, List.append_assoc]
    refine List.Perm.trans (List.perm_append_comm_assoc _ _ _) ?_
    exact List.Perm.refl _
  have pm' : ((ass.set i [a, b']).flatten ++ xs.map (·.1)).Perm (a :: b' :: ((ass.take i).flatten ++ ((ass.drop (i + 1)).flatten ++ xs.map (·.1)))) := by
    rw [e3, List.flatten_append, List.flatten_cons, List.append_assoc, List.append_assoc]
    refine List.Perm.trans (List.perm_append_comm_assoc _ _ _) ?_
    exact List.Perm.refl _
  have nd1 := pm.nodup_iff.mp nd
  obtain ⟨na, nd2⟩ := List.nodup_cons.mp nd1
  obtain ⟨nb, nd3⟩ := List.nodup_cons.mp nd2
  have others : ∀ c ∈ (ass.take i).flatten ++ ((ass.drop (i + 1)).flatten ++ xs.map (·.1)), c ≠ a ∧ c ≠ b ∧ c ∈ ass.flatten ++ xs.map (·.1) := fun c hc =>
    ⟨fun z => na (by rw [← z]; exact List.mem_cons_of_mem _ hc), fun z => nb (by rw [← z]; exact hc), pm.mem_iff.mpr (List.mem_cons_of_mem _ (List.mem_cons_of_mem _ hc))⟩
  have keep : ∀ c ∈ (ass.take i).flatten ++ ((ass.drop (i + 1)).flatten ++ xs.map (·.1)), ∀ u, H c = some u → NoTbl u → H' c = some u := fun c hc u q n => by
    obtain ⟨o', q1, _, q3⟩ := p.fr c u q
    obtain ⟨n1, n2, _⟩ := others c hc
    rw [q1, q3 n n1 n2]
  have b'n : b' ∉ (ass.take i).flatten ++ ((ass.drop (i + 1)).flatten ++ xs.map (·.1)) := fun z => by
    rcases hb with hb | hb
    · exact nb (hb ▸ z)
    · obtain ⟨u, q, _⟩ := ow b' (others b' z).2.2
      rw [hb] at q
      cases q
  refine ⟨sg, p.sub, fun c o q => ?_, fun Pq q t => p.tb Pq q (R.tb Pq q t), ⟨ass.set i [a, b'], by simp [hal], fun j s as h1 h2 => ?_, ?_, fun c hc => ?_⟩, fun q hq => ?_, by simp [R.len]⟩
  · obtain ⟨o1, q1, g1, k1⟩ := R.fr c o q
    obtain ⟨o2, q2, g2, k2⟩ := p.fr c o1 q1
    refine ⟨o2, q2, g2.trans g1, fun n hx => ?_⟩
    have z := k1 n hx
    subst z
    refine k2 n ?_ ?_
    · rintro rfl
      rcases (fr _ (List.mem_append_left _ am)).2 with y | y
      · exact hx y
      · rw [y] at q
        cases q
    · rintro rfl
      rcases (fr _ (List.mem_append_left _ bm)).2 with y | y
      · exact hx y
      · rw [y] at q
        cases q
  · by_cases ej : i = j
    · subst ej
      have hi2 : i < ρ.length := by rw [← hal]; exact hi
      rw [List.getElem?_set_self hi2] at h1
      rw [List.getElem?_set_self hi] at h2
      cases h1
      cases h2
      exact ⟨b', rfl, e, d'⟩
    · rw [List.getElem?_set_ne ej] at h1 h2
      refine (hss j s as h1 h2).grow sg (fun c u hc q n => keep c ?_ u q n) (fun P q t => ⟨p.tb P q t, let ⟨_, ps, e, _⟩ := t; let ⟨_, _, g, _⟩ := p.fr P _ e; g⟩)
      rcases Nat.lt_or_ge j i with c2 | c2
      · exact List.mem_append_left _ (List.mem_flatten.mpr ⟨as, List.mem_of_getElem? (i := j) (by rw [List.getElem?_take_of_lt c2]; exact h2), hc⟩)
      · have c3 : i + 1 ≤ j := by omega
        exact List.mem_append_right _ (List.mem_append_left _ (List.mem_flatten.mpr ⟨as, List.mem_of_getElem? (i := j - (i + 1)) (by rw [List.getElem?_drop, Nat.add_sub_cancel' c3]; exact h2), hc⟩))
  · rw [pm'.nodup_iff]
    refine List.nodup_cons.mpr ⟨fun z => ?_, List.nodup_cons.mpr ⟨b'n, nd3⟩⟩
    rcases List.mem_cons.mp z with z | z
    · exact d'.1 z
    · exact na (List.mem_cons_of_mem _ z)
  · rcases List.mem_cons.mp (pm'.mem_iff.mp hc) with z | z
    · rw [z]
      exact ⟨ga, (fr a (List.mem_append_left _ am)).2⟩
    · rcases List.mem_cons.mp z with z | z
      · rw [z]
        refine ⟨gb, ?_⟩
        rcases hb with hb | hb
        · rw [hb]
          exact (fr b (List.mem_append_left _ bm)).2
        · exact .inr (R.fresh hb)
      · obtain ⟨u, q, _⟩ := ow c (others c z).2.2
        obtain ⟨_, _, g, _⟩ := p.fr c u q
        exact ⟨g.trans (fr c (others c z).2.2).1, (fr c (others c z).2.2).2⟩
  · obtain ⟨q1, q2, q3⟩ := R.ext q hq
    exact ⟨keep q.1 (List.mem_append_right _ (List.mem_append_right _ (List.mem_map.mpr ⟨q, hq, rfl⟩))) q.2 q1 q2.1, q2, q3⟩
def wCallK (i : Nat) (W : Nat → List Dt → (Nat → Dt → Prop) → Prop) (w : WA) : WE := fun ρ Φ => ∃ a, (∃ m, ρ[i]? = some (.dk a m)) ∧ w ρ fun ds ρ1 => ∃ m, ρ1[i]? = some (.dk a m) ∧ W m ds fun m' d => Φ d (ρ1.set i (.dk a m'))
theorem rd_callK {W : Nat → List Dt → (Nat → Dt → Prop) → Prop} {m i : Nat} (h : RdA m t w) (hm : m = n) : RdE (tCall (spK n W) [] E0 (tCons (tVar i) t)) (wCallK i W w) := fun B G H σ ρ xs Φ Q R ⟨a0, ⟨m0, e0⟩, q⟩ kk => by
  obtain ⟨b0, e1, _⟩ := R.deck e0
  refine ⟨.ref a0, e1, ?_⟩
  refine h B G H σ ρ xs _ _ R q fun vs ds G1 H1 ρ1 s1 R1 d1 hl ⟨m1, e2, h1⟩ => ?_
  obtain ⟨b, e3, da, ga, gb, back⟩ := R1.deck e2
  rw [List.append_nil]
  refine ⟨by rw [List.length_cons, d1.len, hl, hm], G1, a0, b, m1, vs, ds, _, rfl, R1.sub, da, ga, gb, d1, h1, fun v d G2 H2 b2 m2 p d2 hb g1 g2 dn q2 => ?_⟩
  obtain ⟨s2, R2⟩ := back G2 H2 b2 m2 p d2 hb g1 g2
  exact kk v d G2 H2 _ (s1.trans s2) R2 dn q2
theorem de_callK {i : Nat} {W : Nat → List Dt → (Nat → Dt → Prop) → Prop} {dn : Str} {pn : Pos} (C : Con X.prog X.w X.K X.mg X.base x k (spK n W)) (hr : Room k X.A) (ha : DA X es t w) (hg : Gl X x := by rfl) (hn : es.length = n := by rfl)
    (hN : X.N[i]? = some dn := by rfl) (hv : Vis X.env.scope dn := by first | exact Or.inl rfl | exact Or.inr (Or.inl rfl) | exact Or.inr (Or.inr rfl)) (hd : (dn == ("__debug__" : Str)) = false := by decide) (hcd : (dn == ("__classdict__" : Str)) = false := by decide)
    (hdb : (x == ("__debug__" : Str)) = false := by decide) (he : starEach (.Name dn pn :: es) X.env = (false, eval (.Name dn pn) X.env) :: starEach es X.env := by rfl) (hpl : (backTo pos (starEach es X.env)).any (·.1) = false := by rfl) :
    DE X (.Call (.Name x p) (.Name dn pn :: es) [] pos) (tCall (spK n W) [] E0 (tCons (tVar i) t)) (wCallK i W w) := by
  obtain ⟨f, fd, ps, h1, h2, h3, h4⟩ := C.ex
  exact ⟨pe_call h4 hr hg h1 h2 h3 .nil pass0 (pa_cons (pe_var hN hv hd hcd) ha.pa he) hdb he hpl, rd_callK ha.rd hn⟩
end
/-! ### a def keeps its contract -/
def startE (n : Nat) (ds : List Dt) : Ev := ds.map Sl.da ++ List.replicate (n - ds.length) .no
theorem start_len {N : List Str} {vs : List V} {ps : List Str} (h : vs.length = ps.length) (hN : N.take ps.length = ps) : (L2.start N vs).length = N.length := by
  unfold L2.start
  have : ps.length ≤ N.length := by
    rw [← hN, List.length_take]
    exact Nat.min_le_right _ _
  rw [List.length_append, List.length_map, List.length_replicate]
  omega
theorem rep_start {G H : Hp} {vs : List V} {ds : List Dt} {N : List Str} {ex : List Addr} (s : Same G H) (h : Dns G vs ds) : Rep ⟨ex, G, H⟩ G H (L2.start N vs) (startE N.length ds) [] := by
  refine ⟨s, fun a o e => ⟨o, e, rfl, fun _ _ => rfl⟩, fun _ _ t => t, ⟨List.replicate (startE N.length ds).length [], by simp, fun i sl as h1 h2 => ?_, by simp, fun a ha => by simp at ha⟩, fun q hq => (by cases hq), ?_⟩
  · have e2 : as = [] := (List.mem_replicate.mp (List.mem_of_getElem? h2)).2
    subst e2
    unfold startE at h1
    by_cases c : i < ds.length
    · rw [List.getElem?_append_left (by simpa using c), List.getElem?_map, List.getElem?_eq_getElem c] at h1
      cases h1
      obtain ⟨v, e, dn⟩ := h.get (List.getElem?_eq_getElem c)
      refine ⟨rfl, v, ?_, dn⟩
      unfold L2.start
      rw [List.getElem?_append_left (by rw [List.length_map, h.len]; exact c), List.getElem?_map, e]
      rfl
    · rw [List.getElem?_append_right (by simpa using c)] at h1
      have := (List.mem_replicate.mp (List.mem_of_getElem? h1)).2
      rw [this]
      rfl
  · unfold startE L2.start
    rw [List.length_append, List.length_append, List.length_map, List.length_map, List.length_replicate, List.length_replicate, h.len]
/-- the deck in slot 0 -/
theorem rep_startK {G H : Hp} {a b : Addr} {m : Nat} {vs : List V} {ds : List Dt} {N : List Str} (s : Same G H) (h : Dns G vs ds) (hd : DeckAt H a b m) (ga : G a = none) (gb : G b = none) :
    Rep ⟨[a, b], G, H⟩ G H (L2.start N (.ref a :: vs)) (.dk a m :: startE (N.length - 1) ds) [] := by
  refine ⟨s, fun c o e => ⟨o, e, rfl, fun _ _ => rfl⟩, fun _ _ t => t, ⟨[a, b] :: List.replicate (startE (N.length - 1) ds).length [], by simp, fun i sl as h1 h2 => ?_, by simp [hd.1], fun c hc => ?_⟩, fun q hq => (by cases hq), ?_⟩
  · cases i with
    | zero =>
      simp only [List.getElem?_cons_zero, Option.some.injEq] at h1 h2
      subst h1 h2
      exact ⟨b, rfl, rfl, hd⟩
    | succ j =>
      simp only [List.getElem?_cons_succ] at h1 h2
      have e2 : as = [] := (List.mem_replicate.mp (List.mem_of_getElem? h2)).2
      subst e2
      unfold startE at h1
      by_cases c : j < ds.length
      · rw [List.getElem?_append_left (by simpa using c), List.getElem?_map, List.getElem?_eq_getElem c] at h1
        cases h1
        obtain ⟨v, e, dn⟩ := h.get (List.getElem?_eq_getElem c)
        refine ⟨rfl, v, ?_, dn⟩
        unfold L2.start
        rw [List.map_cons, List.cons_append, List.getElem?_cons_succ, List.getElem?_append_left (by rw [List.length_map, h.len]; exact c), List.getElem?_map, e]
        rfl
      · rw [List.getElem?_append_right (by simpa using c)] at h1
        have := (List.mem_replicate.mp (List.mem_of_getElem? h1)).2
        rw [this]
        rfl
  · have : c = a ∨ c = b := by simpa using hc
    rcases this with e | e
    · rw [e]
      exact ⟨ga, .inl (by simp)⟩
    · rw [e]
      exact ⟨gb, .inl (by simp)⟩
  · unfold startE L2.start
    simp only [List.length_cons, List.length_append, List.length_map, List.length_replicate, h.len]
    omega
section
variable {P : Program} {w : World} {K : PySem.W.Frag} {mg : Str → Option Value} {base : Heap} {x : Str} {params : Arguments} {body : List Stmt} {scope : Scope} {f : Addr} {fd : FuncData} {N ps : List Str} {k n : Nat}
/-- THE RULE: from the body's term and what it makes of data to the contract -/
theorem con_of {W : List Dt → (Dt → Prop) → Prop} (F : FunD K x x params body scope [] [] f fd) (hm : mg x = some (.ref f)) (S : FnScope N ps scope) (hps : ps.length = n)
    (bd : ∀ (kV doc pm : Value) (an : Option Addr) (cdv ct : Value) (us : List Value), us.length = ps.length → bindArgs (PySem.W.fnOf x x params body scope .none kV doc pm an cdv ct) ⟨us, []⟩ = pure (ps.zip us))
    (hbody : ∀ (cdv : Value) (A : Around) (outer : List Env) (s : Shared) (H : Hp) (E : XK), Room k (A.deeper (envOfC x scope s.heap.objs.size f cdv)) →
      ∃ t z, DSs (cxOf CX0 P w K mg base N x scope f cdv A outer s H E).nox body t z ∧ ∀ ds Φ, ds.length = n → W ds Φ → z { nx := fun _ => Φ .none, rt := fun d _ => Φ d } (startE N.length ds)) :
    Con P w K mg base x (k + 1) (spP n W) := by
  refine ⟨f, fd, ps, hm, F.kp, F.bindsN bd, F.ok S (fun vs H Q E h => h.1.trans hps.symm) fun cdv A outer s H vs Q E hr ⟨hl, G, ds, Φ, sg, dn, hW, q⟩ => ?_⟩
  obtain ⟨t, z, hz, hw⟩ := hbody cdv A outer s H E hr
  refine ⟨t, hz.ps.nox, hz.rd ⟨[], G, H⟩ G H _ _ _ _ (rep_start sg dn) (hw ds Φ (by rw [← dn.len]; exact hl) hW) (fun G' H' σ' ρ' s' R' h' => ?_) fun v d G' H' σ' ρ' s' R' dn' h' => ?_⟩
  · exact q .non .none G' H' ⟨R'.sub, fun a o e => let ⟨o', e1, e2, e3⟩ := R'.fr a o e; ⟨o', e1, e2, fun nt => e3 nt (by simp)⟩, R'.tb⟩ .non h'
  · exact q v d G' H' ⟨R'.sub, fun a o e => let ⟨o', e1, e2, e3⟩ := R'.fr a o e; ⟨o', e1, e2, fun nt => e3 nt (by simp)⟩, R'.tb⟩ dn' h'
/-- .. of a def that draws; it never stores to slot 0 -/
theorem con_ofK {W : Nat → List Dt → (Nat → Dt → Prop) → Prop} (F : FunD K x x params body scope [] [] f fd) (hm : mg x = some (.ref f)) (S : FnScope N ps scope) (hps : ps.length = n + 1)
    (bd : ∀ (kV doc pm : Value) (an : Option Addr) (cdv ct : Value) (us : List Value), us.length = ps.length → bindArgs (PySem.W.fnOf x x params body scope .none kV doc pm an cdv ct) ⟨us, []⟩ = pure (ps.zip us))
    (hbody : ∀ (cdv : Value) (A : Around) (outer : List Env) (s : Shared) (H : Hp) (E : XK), Room k (A.deeper (envOfC x scope s.heap.objs.size f cdv)) →
      ∃ t z, DSs (cxOf CX0 P w K mg base N x scope f cdv A outer s H E).nox body t z ∧ ∀ a m ds Φ, ds.length = n → W m ds Φ → z { nx := fun _ => False, rt := fun d ρ => ∃ m', ρ[0]? = some (.dk a m') ∧ Φ m' d } (.dk a m :: startE (N.length - 1) ds)) :
    Con P w K mg base x (k + 1) (spK n W) := by
  refine ⟨f, fd, ps, hm, F.kp, F.bindsN bd, F.ok S (fun vs H Q E h => h.1.trans hps.symm) fun cdv A outer s H vs Q E hr ⟨hl, G, a, b, m, vs', ds, Φ, ev, sg, da, ga, gb, dn, hW, q⟩ => ?_⟩
  subst ev
  obtain ⟨t, z, hz, hw⟩ := hbody cdv A outer s H E hr
  have hl2 : ds.length = n := by
    rw [← dn.len]
    simpa using hl
  refine ⟨t, hz.ps.nox, hz.rd ⟨[a, b], G, H⟩ G H _ _ _ _ (rep_startK sg dn da ga gb) (hw a m ds Φ hl2 hW) (fun G' H' σ' ρ' s' R' h' => h'.elim) fun v d G' H' σ' ρ' s' R' dn' ⟨m', e0, h'⟩ => ?_⟩
  obtain ⟨ass, hal, hss, nd, fr⟩ := R'.own
  have hi : 0 < ass.length := by
    rw [hal]
    exact (List.getElem?_eq_some_iff.mp e0).1
  have hai : ass[0]? = some ass[0] := List.getElem?_eq_getElem hi
  obtain ⟨b', ea, e, da'⟩ := hss 0 _ ass[0] e0 hai
  have am := fr a (List.mem_append_left _ (flat_mem hai (by rw [ea]; simp)))
  have bm := fr b' (List.mem_append_left _ (flat_mem hai (by rw [ea]; simp)))
  refine q v d G' H' b' m' ⟨R'.sub, fun c o e => let ⟨o', e1, e2, e3⟩ := R'.fr c o e; ⟨o', e1, e2, fun nt h1 h2 => e3 nt (by simp [h1, h2])⟩, R'.tb⟩ da' ?_ am.1 bm.1 dn' h'
  rcases bm.2 with z | z
  · rcases List.mem_cons.mp z with z | z
    · exact absurd z.symm da'.1
    · exact .inl (List.mem_singleton.mp z)
  · exact .inr z
end
end MP
-- MText
namespace MH
open PySem PySem.Spec PyProof.Rows L2
def top (i : Nat) : Stmt := PySem.Challenge.pw_markpieces_k75_whole_put_lower.main.body.getD i (.Pass ⟨0, 0, 0, 0⟩)
def dd (x : Str) (i : Nat) : He.DefD := { at_ := (x, none), name := x, qual := x, params := defArgs (top i), body := defBody (top i), scope := defScope (top i) }
def fns0 : List He.DefD := [dd "parts_of" 1, dd "marked" 2, dd "names_of" 3, dd "inner_of" 6, dd "with_inner" 7, dd "names_in" 8, dd "at_path" 9, dd "put_at" 10, dd "paths_of" 11, dd "fits_bounds" 12, dd "among" 17, dd "only_dealt" 28, dd "only_in_either" 30, dd "only_once" 32, dd "only_none" 33, dd "shared_kept" 43, dd "only_in_join" 44, dd "has_both" 47, dd "same_in_either" 48, dd "same_in_join" 50]
def fns1 : List He.DefD := [dd "same_in_only" 52, dd "same_in_without" 54, dd "is_number" 61, dd "is_move" 62, dd "moved" 63, dd "led" 64, dd "next_move" 67, dd "lowered" 68, dd "_law_deck" 70, dd "_law_draw" 71, dd "_law_word" 72, dd "_law_names" 73, dd "_law_row_of" 74, dd "_law_any_of" 75, dd "_law_sign" 76, dd "_law_solid" 77, dd "_law_bare" 78, dd "_law_marked" 79, dd "_law_plan" 80, dd "_law_goes" 81]
def fns2 : List He.DefD := [dd "_law_then" 82, dd "_law_marks" 83, dd "_law_rank" 84, dd "_law_rows" 85, dd "_law_named" 86, dd "_law_with" 87, dd "_law_padded" 88, dd "_law_reads" 89, dd "_law_two" 90, dd "_law_meaning" 91, dd "_law_paths" 92, dd "_law_at" 93, dd "_law_there" 94, dd "_law_only_low" 95, dd "_law_same_low" 96, dd "_law_low" 97, dd "_law_topped" 98, dd "law" 99]
def fns : List He.DefD := fns0 ++ fns1 ++ fns2
def gls0 : List He.Fa := [.glo "parts_of", .glo "marked", .glo "names_of", .glo "inner_of", .glo "with_inner", .glo "names_in", .glo "at_path", .glo "put_at", .glo "paths_of", .glo "fits_bounds", .glo "among", .glo "only_dealt", .glo "only_in_either", .glo "only_once", .glo "only_none", .glo "shared_kept", .glo "only_in_join", .glo "has_both", .glo "same_in_either", .glo "same_in_join"]
def gls1 : List He.Fa := [.glo "same_in_only", .glo "same_in_without", .glo "is_number", .glo "is_move", .glo "moved", .glo "led", .glo "next_move", .glo "lowered", .glo "_law_deck", .glo "_law_draw", .glo "_law_word", .glo "_law_names", .glo "_law_row_of", .glo "_law_any_of", .glo "_law_sign", .glo "_law_solid", .glo "_law_bare", .glo "_law_marked", .glo "_law_plan", .glo "_law_goes"]
def gls2 : List He.Fa := [.glo "_law_then", .glo "_law_marks", .glo "_law_rank", .glo "_law_rows", .glo "_law_named", .glo "_law_with", .glo "_law_padded", .glo "_law_reads", .glo "_law_two", .glo "_law_meaning", .glo "_law_paths", .glo "_law_at", .glo "_law_there", .glo "_law_only_low", .glo "_law_same_low", .glo "_law_low", .glo "_law_topped", .glo "law"]
def frees : List He.Fa := [.free "abs", .free "bool", .free "dict", .free "enumerate", .free "int", .free "isinstance", .free "len", .free "list", .free "max", .free "min", .free "range", .free "set", .free "sorted", .free "tuple", .free "zip"]
def consts : List He.Fa := [.glo "FORTH", .glo "BACK", .glo "DOWNWARD", .int "MOST_NAMES" 4]
def fa : List He.Fa := gls0 ++ gls1 ++ gls2 ++ frees ++ consts
def tForth : List He.Dv := [.glo "join_turned", .glo "join_right", .glo "either_turned", .glo "either_right", .glo "join_dealt", .glo "only_in_either", .glo "only_once", .glo "only_none", .glo "join_itself", .glo "either_itself", .glo "without_dealt", .glo "without_both", .glo "only_in_join", .glo "same_turned", .glo "same_in_either", .glo "same_in_join", .glo "same_in_only", .glo "same_in_without", .glo "same_passed", .glo "without_joined"]
def tBack : List He.Dv := [.glo "join_turned", .glo "join_left", .glo "either_turned", .glo "either_left", .glo "join_gathered", .glo "only_of_either", .non, .glo "only_all", .glo "join_twice", .glo "either_twice", .glo "without_gathered", .glo "without_each", .glo "only_of_join", .glo "same_turned", .glo "same_of_either", .glo "same_of_join", .glo "same_of_only", .glo "same_of_without", .glo "same_passed", .glo "without_parted"]
def tDown : List He.Dv := [.int 5, .int 6, .int 7, .int 12, .int 14, .int 15, .int 16, .int 17]
def tus : List (Str × List He.Dv) := [("FORTH", tForth), ("BACK", tBack), ("DOWNWARD", tDown)]
def factsX (K : PySem.W.Frag) : He.AlD × Bool := (He.obsD fa fns K, tus.all fun t => He.tupB K t.1 t.2)
def seenX (g : Addr → Option Obj) : He.AlD × Bool := factsX (He.frG g (He.asD g 2))
def goodX : He.AlD × Bool := (He.valD fns, true)
def SaysX (K : PySem.W.Frag) : Prop := factsX K = goodX
end MH
-- MFacts
/-! What the top leaves: where each def stands, which built-ins are still the built-ins. -/
namespace MP
open PySem PySem.Spec PyProof.Rows L2 MH
structure Wd (K : PySem.W.Frag) (mg : Str → Option Value) : Prop where
  ex : ∃ h, K.In h ∧ h.Ns mainGlobals mg ∧ SaysX K
section
variable {K : PySem.W.Frag} {mg : Str → Option Value}
theorem Wd.says (W : Wd K mg) : He.SaysD fa fns K ∧ (tus.all fun t => He.tupB K t.1 t.2) = true := by
  obtain ⟨_, _, _, c⟩ := W.ex
  exact ⟨congrArg (fun z : He.AlD × Bool => z.1) c, congrArg (fun z : He.AlD × Bool => z.2) c⟩
theorem Wd.free (W : Wd K mg) (i : Nat) {x : Str} (h : fa[i]? = some (.free x) := by rfl) : mg x = none := by
  obtain ⟨_, X, G, _⟩ := W.ex
  exact He.free_ok X G (W.says.1.fact i h)
theorem Wd.glo (W : Wd K mg) (i : Nat) {x : Str} (h : fa[i]? = some (.glo x) := by rfl) : mg x = some (.ref (He.ga K x)) := by
  obtain ⟨_, X, G, _⟩ := W.ex
  exact He.glo_ok X G (W.says.1.fact i h)
theorem Wd.at_ (W : Wd K mg) (i : Nat) {x : Str} {j : Nat} (h1 : fns[i]? = some (dd x j) := by rfl) (h2 : fa[i]? = some (.glo x) := by rfl) :
    ∃ f fd, mg x = some (.ref f) ∧ FunD K x x (defArgs (top j)) (defBody (top j)) (defScope (top j)) [] [] f fd := by
  obtain ⟨fd, F⟩ := W.says.1.def_ i h1
  exact ⟨_, fd, W.glo i h2, F⟩
theorem Wd.tup (W : Wd K mg) (i : Nat) {t : Str × List He.Dv} (h : tus[i]? = some t := by rfl) (H : Hp) : SqT K H (He.ga K t.1) (t.2.map (He.Dv.v K)) :=
  He.tupB_ok (List.all_eq_true.mp W.says.2 t (List.mem_of_getElem? h)) H
theorem Wd.z_abs (W : Wd K mg) : mg "abs" = none := W.free 58
theorem Wd.z_bool (W : Wd K mg) : mg "bool" = none := W.free 59
theorem Wd.z_dict (W : Wd K mg) : mg "dict" = none := W.free 60
theorem Wd.z_enumerate (W : Wd K mg) : mg "enumerate" = none := W.free 61
theorem Wd.z_int (W : Wd K mg) : mg "int" = none := W.free 62
theorem Wd.z_isinstance (W : Wd K mg) : mg "isinstance" = none := W.free 63
theorem Wd.z_len (W : Wd K mg) : mg "len" = none := W.free 64
theorem Wd.z_list (W : Wd K mg) : mg "list" = none := W.free 65
theorem Wd.z_max (W : Wd K mg) : mg "max" = none := W.free 66
theorem Wd.z_min (W : Wd K mg) : mg "min" = none := W.free 67
theorem Wd.z_range (W : Wd K mg) : mg "range" = none := W.free 68
theorem Wd.z_set (W : Wd K mg) : mg "set" = none := W.free 69
theorem Wd.z_sorted (W : Wd K mg) : mg "sorted" = none := W.free 70
theorem Wd.z_tuple (W : Wd K mg) : mg "tuple" = none := W.free 71
theorem Wd.z_zip (W : Wd K mg) : mg "zip" = none := W.free 72
theorem hu64 {k : Nat} {A : Around} (hr : Room k A) : A.units + 64 < cLine := hr.units
theorem hu65 {k : Nat} {A : Around} (hr : Room k A) : A.units + 65 < cLine := Nat.lt_of_le_of_lt (show A.units + 65 ≤ A.units + 16 * k + 200 by omega) hr.un
abbrev Cn (P : Program) (w : World) (K : PySem.W.Frag) (mg : Str → Option Value) (base : Heap) := Con P w K mg base
end
end MP
-- MPlan
/-! Patterns and plans as plain data types, and the data that stand for them. -/
namespace MP
open PySem PySem.Spec PyProof.Rows L2
inductive Pat where
  | sign (s : Str)
  | row (ps : List Pat)
  | any (ps : List Pat)
  | rep (lo : Int) (hi : Option Int) (p : Pat)
  | mark (n : Str) (p : Pat)
def hiD : Option Int → Dt
  | none => .none
  | some i => .int i
mutual
def Pat.enc : Pat → Dt
  | .sign s => .tuple [.str "sign", .str s]
  | .row ps => .tuple [.str "row", .tuple (encs ps)]
  | .any ps => .tuple [.str "any", .tuple (encs ps)]
  | .rep lo hi p => .tuple [.str "some", .int lo, hiD hi, p.enc]
  | .mark n p => .tuple [.str "mark", .str n, p.enc]
def encs : List Pat → List Dt
  | [] => []
  | p :: ps => p.enc :: encs ps
end
inductive Plan where
  | pat (p : Pat)
  | join (a b : Plan)
  | either (a b : Plan)
  | without (a b : Plan)
  | only (ns : List Str) (a : Plan)
  | same (x y : Str) (a : Plan)
def sts (ns : List Str) : List Dt := ns.map .str
def Plan.enc : Plan → Dt
  | .pat p => .tuple [.str "pattern", p.enc]
  | .join a b => .tuple [.str "join", a.enc, b.enc]
  | .either a b => .tuple [.str "either", a.enc, b.enc]
  | .without a b => .tuple [.str "without", a.enc, b.enc]
  | .only ns a => .tuple [.str "only", .tuple (sts ns), a.enc]
  | .same x y a => .tuple [.str "same", .str x, .str y, a.enc]
/-- the plans straight within -/
def Plan.inner : Plan → List Plan
  | .pat _ => []
  | .join a b => [a, b]
  | .either a b => [a, b]
  | .without a b => [a, b]
  | .only _ a => [a]
  | .same _ _ a => [a]
/-! ### texts -/
theorem ofString_inj {a b : String} (h : Str.ofString a = Str.ofString b) : a = b := by
  rw [Str.ofString_eq_toList, Str.ofString_eq_toList] at h
  injection h with h
  have h2 : a.toList.map Char.toNat = b.toList.map Char.toNat := by
    have := congrArg Array.toList h
    simpa using this
  have h3 : a.toList = b.toList := by
    have inj : ∀ {xs ys : List Char}, xs.map Char.toNat = ys.map Char.toNat → xs = ys := by
      intro xs
      induction xs with
      | nil => intro ys h; cases ys with
        | nil => rfl
        | cons y ys => simp at h
      | cons x xs ih => intro ys h; cases ys with
        | nil => simp at h
        | cons y ys =>
          rw [List.map_cons, List.map_cons] at h
          injection h with h4 h5
          rw [ih h5, Char.toNat_inj.mp h4]
    exact inj h2
  exact String.toList_inj.mp h3
@[simp] theorem ofString_eq (a b : String) : (Str.ofString a = Str.ofString b) = (a = b) := propext ⟨ofString_inj, fun h => by rw [h]⟩
@[simp] theorem ofString_beq (a b : String) : (Str.ofString a == Str.ofString b) = (a == b) := by
  rw [Bool.eq_iff_iff]
  simp
end MP
-- TS1
/-! Sets of texts: made, added to, sorted. -/
namespace MP
open PySem PySem.Spec PyProof.Rows L2
/-! ### texts in order -/
def sLt (a b : Str) : Prop := a.cps.toList < b.cps.toList
instance : DecidableRel sLt := fun a b => inferInstanceAs (Decidable (a.cps.toList < b.cps.toList))
def sLe (a b : Str) : Bool := decide (a.cps.toList ≤ b.cps.toList)
theorem str_ext {a b : Str} (h : a.cps.toList = b.cps.toList) : a = b := by
  cases a
  cases b
  congr
  exact Array.toList_inj.mp h
theorem sLt_irrefl (a : Str) : ¬ sLt a a := List.lt_irrefl _
theorem sLt_trans {a b c : Str} (h : sLt a b) (g : sLt b c) : sLt a c := List.lt_trans h g
theorem sLt_of_le {a b : Str} (h : sLe a b = true) (n : a ≠ b) : sLt a b := by
  unfold sLe at h
  rw [decide_eq_true_eq] at h
  rcases Classical.em (sLt a b) with c | c
  · exact c
  · exact absurd (str_ext (List.le_antisymm h (List.not_lt.mp c))) n
theorem sLe_trans (a b c : Str) (h : sLe a b = true) (g : sLe b c = true) : sLe a c = true := by
  unfold sLe at *
  rw [decide_eq_true_eq] at *
  exact List.le_trans h g
theorem sLe_total (a b : Str) : (sLe a b || sLe b a) = true := by
  unfold sLe
  rw [Bool.or_eq_true, decide_eq_true_eq, decide_eq_true_eq]
  exact List.le_total _ _
abbrev Srt (xs : List Str) : Prop := xs.Pairwise sLt
theorem Srt.nodup {xs : List Str} (h : Srt xs) : xs.Nodup := h.imp fun {a b} (z : sLt a b) (e : a = b) => sLt_irrefl b (e ▸ z)
/-- strictly sorted lists with the same members are the same -/
theorem srt_unique : ∀ {xs ys : List Str}, Srt xs → Srt ys → (∀ k, k ∈ xs ↔ k ∈ ys) → xs = ys
  | [], [], _, _, _ => rfl
  | [], y :: ys, _, _, h => absurd ((h y).mpr List.mem_cons_self) (by simp)
  | x :: xs, [], _, _, h => absurd ((h x).mp List.mem_cons_self) (by simp)
  | x :: xs, y :: ys, hx, hy, h => by
    obtain ⟨x1, x2⟩ := List.pairwise_cons.mp hx
    obtain ⟨y1, y2⟩ := List.pairwise_cons.mp hy
    have e : x = y := by
      rcases List.mem_cons.mp ((h x).mp List.mem_cons_self) with e | m
      · exact e
      · rcases List.mem_cons.mp ((h y).mpr List.mem_cons_self) with e | m2
        · exact e.symm
        · exact absurd (sLt_trans (y1 x m) (x1 y m2)) (sLt_irrefl _)
    subst e
    rw [srt_unique x2 y2 fun k => ?_]
    constructor
    · intro m
      rcases List.mem_cons.mp ((h k).mp (List.mem_cons_of_mem _ m)) with e | m2
      · subst e
        exact absurd (x1 k m) (sLt_irrefl _)
      · exact m2
    · intro m
      rcases List.mem_cons.mp ((h k).mpr (List.mem_cons_of_mem _ m)) with e | m2
      · subst e
        exact absurd (y1 k m) (sLt_irrefl _)
      · exact m2
theorem srt_of_sorted {xs : List Str} (h : xs.Pairwise fun a b => sLe a b = true) (n : xs.Nodup) : Srt xs := by
  have := h.and n
  exact this.imp fun ⟨a, b⟩ => sLt_of_le a b
def sset (xs : List Str) : List Str := xs.eraseDups.mergeSort sLe
theorem nodup_eraseDups (xs : List Str) : xs.eraseDups.Nodup := by
  have key : ∀ (n : Nat) (xs : List Str), xs.length ≤ n → xs.eraseDups.Nodup := by
    intro n
    induction n with
    | zero =>
      intro xs h
      rw [List.length_eq_zero_iff.mp (Nat.le_zero.mp h)]
      simp
    | succ n ih =>
      intro xs h
      cases xs with
      | nil => simp
      | cons x xs =>
        rw [List.eraseDups_cons]
        refine List.nodup_cons.mpr ⟨fun m => ?_, ih _ ?_⟩
        · rw [List.mem_eraseDups, List.mem_filter] at m
          simp at m
        · exact Nat.le_trans (List.length_filter_le _ _) (Nat.le_of_succ_le_succ h)
  exact key _ xs (Nat.le_refl _)
theorem srt_sset (xs : List Str) : Srt (sset xs) := by
  refine srt_of_sorted (List.pairwise_mergeSort (fun a b c => sLe_trans a b c) (fun a b => sLe_total a b) _) ?_
  exact (List.mergeSort_perm _ _).nodup_iff.mpr (nodup_eraseDups xs)
theorem mem_sset {xs : List Str} {k : Str} : k ∈ sset xs ↔ k ∈ xs := by
  unfold sset
  rw [(List.mergeSort_perm _ _).mem_iff, List.mem_eraseDups]
theorem sset_eq {xs zs : List Str} (h : Srt zs) (m : ∀ k, k ∈ zs ↔ k ∈ xs) : zs = sset xs :=
  srt_unique h (srt_sset xs) fun k => (m k).trans mem_sset.symm
/-! ### what a set of texts is -/
def keyT (e : Int × Value) : Str := match e.2 with | .str x _ => x | _ => Str.empty
def GoodT (w : World) (e : Int × Value) : Prop := ∃ x t, e.2 = Value.str x t ∧ e.1 = hashStr w x
/-- the set of texts at a: its members are those of M -/
def SetT (w : World) (h : Heap) (a : Addr) (M : List Str) : Prop :=
  ∃ o es ep t, h.get? a = some o ∧ o.ExactSet ∧ o.data = .set es ep t ∧ (∀ e ∈ es.toList, GoodT w e) ∧ (es.toList.map keyT).Nodup ∧ (∀ k, k ∈ M ↔ k ∈ es.toList.map keyT) ∧
    es.size < scanBound ∧ t.fits es.size = true ∧ es.size ≤ M.length ∧ Ris t.place.toList ∧ (w.params.followText "set-order" = true ∨ t.led = true)
section
variable {P : Program} {w : World} {h h' : Heap} {a : Addr} {M : List Str}
theorem SetT.at (R : SetT w h a M) (k : ∀ o, h.get? a = some o → h'.get? a = some o) : SetT w h' a M := by
  obtain ⟨o, es, ep, t, ho, r⟩ := R
  exact ⟨o, es, ep, t, k o ho, r⟩
theorem goodT_elems {l : List (Int × Value)} (g : ∀ e ∈ l, GoodT w e) : ElemsOf (PySem.strKind P w) l := fun e he => by
  obtain ⟨x, t, h1, h2⟩ := g e he
  exact ⟨⟨x, by rw [h1]; exact strKind_is P w x t, h2⟩, by rw [h1] <;> rfl⟩
theorem goodT_is {e : Int × Value} (g : GoodT w e) (k : Str) : (PySem.strKind P w).is k e.2 = true ↔ keyT e = k := by
  obtain ⟨x, t, h1, _⟩ := g
  unfold keyT
  rw [h1]
  constructor
  · intro z
    exact (PySem.strKind P w).inj _ _ _ (strKind_is P w x t) z
  · intro z
    have z : x = k := z
    subst z
    exact strKind_is P w x t
theorem goodT_mem {l : List (Int × Value)} (g : ∀ e ∈ l, GoodT w e) (k : Str) : k ∈ l.map keyT ↔ ∃ e ∈ l, (PySem.strKind P w).is k e.2 = true := by
  rw [List.mem_map]
  constructor
  · rintro ⟨e, he, q⟩
    exact ⟨e, he, (goodT_is (g e he) k).2 q⟩
  · rintro ⟨e, he, q⟩
    exact ⟨e, he, (goodT_is (g e he) k).1 q⟩
theorem SetT.typeIs {s : Shared} (R : SetT w s.heap a M) : s.TypeIs (.ref a) "set" := by
  obtain ⟨o, _, _, _, ho, hex, _⟩ := R
  exact ⟨o, ho, hex.1⟩
theorem setT_fresh (w : World) {h : Heap} {a : Addr} (ho : h.get? a = some { cls := .type "set", dict := none, data := .set #[] 0 (.fresh 0 0 (!w.params.followText "set-order")) }) : SetT w h a [] :=
  ⟨_, #[], 0, _, ho, ⟨rfl, rfl, rfl⟩, rfl, (fun e he => by simp at he), (by simp), (fun k => by simp), (by decide), (by rfl), (by simp), List.Pairwise.nil, by
    show _ ∨ (!w.params.followText "set-order") = true
    cases w.params.followText "set-order"
    · exact .inr rfl
    · exact .inl rfl⟩
end
section
variable {P : Program} {w : World} {A : Around} {E : Value → Shared → Prop} {s : Shared} {a : Addr} {M : List Str}
theorem setT_add_tail {g : Bool → Sem Unit} (hg : ∀ (b : Bool) (s₁ : Shared) (Q' : Unit → Shared → Prop), Q' () s₁ → wpAny (model P w) A (g b) Q' E s₁)
    {o : Obj} {es : Array (Int × Value)} {ep : Nat} {t : SetTable} (ho : s.heap.get? a = some o) (hex : o.ExactSet) (hd : o.data = .set es ep t)
    {es1 : Array (Int × Value)} {t2 : SetTable} {M' : List Str} (g1 : ∀ e ∈ es1.toList, GoodT w e) (nd1 : (es1.toList.map keyT).Nodup) (m1 : ∀ k, k ∈ M' ↔ k ∈ es1.toList.map keyT)
    (hb1 : es1.size < scanBound) (hf2 : t2.fits es1.size = true) (hs : es1.size ≤ M'.length) (hr : Ris t2.place.toList) (hl : w.params.followText "set-order" = true ∨ t2.led = true) {wasDummy : Bool} {R : Option Bool → Shared → Prop}
    (hR : ∀ h', Heap.SameBut a s.heap h' → SetT w h' a M' → R (some true) { s with heap := h' }) :
    wpAny (model P w) A (do
        storeSet a es1 t2
        if (!wasDummy && t2.tooFull) = true then do
            g (relayAll t2 es1 (SetTable.grown es1.size)).2.2
            storeSet a (relayAll t2 es1 (SetTable.grown es1.size)).1 (relayAll t2 es1 (SetTable.grown es1.size)).2.1
            pure (some true)
          else pure (some true)) R E s := by
  refine wpAny_bind (wpAny_storeSet_of ho hd ?_ (fits_of_scanBound hb1))
  have ho1 := PpSet.storeB_at (es' := es1) (t' := t2) ho hd
  have sb1 := Heap.SameBut.update s.heap a (Obj.putSet es1 t2)
  split
  · have pm := relayAll_perm t2 es1 (SetTable.grown es1.size)
    have hf3 := relayAll_fits t2 es1 (SetTable.grown es1.size)
    have hr3 := relayAll_ris t2 es1 (SetTable.grown es1.size)
    have hl3 := relayAll_led t2 es1 (SetTable.grown es1.size)
    generalize relayAll t2 es1 (SetTable.grown es1.size) = Z at pm hf3 hr3 hl3 ⊢
    obtain ⟨es2, t3, gave⟩ := Z
    dsimp only at pm hf3 hr3 hl3 ⊢
    have hsz : es2.size = es1.size := by rw [← Array.length_toList, pm.length_eq, Array.length_toList]
    have hb2 : es2.size < scanBound := by rw [hsz]; exact hb1
    refine wpAny_bind (hg _ _ _ ?_)
    refine wpAny_bind (wpAny_storeSet_of ho1 rfl ?_ (fits_of_scanBound hb2))
    have ho2 := PpSet.storeB_at (es' := es2) (t' := t3) ho1 rfl
    refine wpAny_pure (hR _ (sb1.trans (Heap.SameBut.update _ a _)) ?_)
    exact ⟨_, es2, _, t3, ho2, hex, rfl, fun e he => g1 e (pm.mem_iff.mp he), (pm.map keyT).nodup_iff.mpr nd1, fun k => (m1 k).trans (pm.map keyT).mem_iff.symm, hb2, hf3, by rw [hsz]; exact hs, hr3,
      hl.imp id fun z => by rw [hl3]; exact z⟩
  · exact wpAny_pure (hR _ sb1 ⟨_, es1, _, t2, ho1, hex, rfl, g1, nd1, m1, hb1, hf2, hs, hr, hl⟩)
theorem setT_add_hashed {k : Str} {tk : Tok} {Q : Bool → Shared → Prop} (R : SetT w s.heap a M) (room : M.length + 1 < scanBound)
    (hQ : ∀ b h', Heap.SameBut a s.heap h' → SetT w h' a (M ++ [k]) → Q b { s with heap := h' }) :
    wpAny (model P w) A (setAddHashed a (.str k tk) ((PySem.strKind P w).hash k)) Q E s := by
  obtain ⟨o, es, ep, t, ho, hex, hd, g, nd, hm, hb, hf, hn, hr, hl⟩ := R
  have hkey : (PySem.strKind P w).is k (.str k tk) = true := strKind_is P w k tk
  have hsc : (Value.str k tk).scannable = true := rfl
  have hel : ElemsOf (PySem.strKind P w) es.toList := goodT_elems g
  unfold setAddHashed setAddHashedIn
  refine wpAny_holding (wpAny_bind (wpAny_setState_of ho hd hf ?_))
  dsimp only
  rw [byScan_of hsc hb hel]
  simp only [↓reduceIte]
  unfold setAddByScan
  refine wpAny_bind ?_
  refine wpAny_bind (wpAny_rule ?_)
  refine wpAny_bind (wpAny_setScan_of hkey ho hd hf hel ?_)
  cases hfi : List.findIdx? (fun e => (PySem.strKind P w).is k e.2) es.toList with
  | some j =>
    dsimp only
    obtain ⟨hj, pj, _⟩ := List.findIdx?_eq_some_iff_getElem.mp hfi
    have hSk : k ∈ es.toList.map keyT := (goodT_mem (P := P) (w := w) g k).2 ⟨es.toList[j], List.getElem_mem hj, pj⟩
    refine wpAny_pure (wpAny_pure ?_)
    refine hQ false s.heap (Heap.SameBut.refl a s.heap) ⟨o, es, ep, t, ho, hex, hd, g, nd, fun i => ?_, hb, hf, by rw [List.length_append]; omega, hr, hl⟩
    rw [List.mem_append, hm i]
    exact ⟨fun z => z.elim id (fun e => by rw [List.mem_singleton.mp e]; exact hSk), .inl⟩
  | none =>
    dsimp only
    have hnk : k ∉ es.toList.map keyT := fun z => by
      obtain ⟨e, he, q⟩ := (goodT_mem (P := P) (w := w) g k).1 z
      have c := List.findIdx?_eq_none_iff.mp hfi e he
      rw [q] at c
      cases c
    have hgw : ∀ (b : Bool) {s₁ : Shared} {Q' : Unit → Shared → Prop}, Q' () s₁ → wpAny (model P w) A (match b with | true => rule "set.scan.the-table-gave-way" | false => pure ()) Q' E s₁ :=
      fun b s₁ Q' q => by cases b <;> first | exact wpAny_pure q | exact wpAny_rule q
    have pm := layNew_perm t es ((PySem.strKind P w).hash k) (.str k tk)
    have hf1 := layNew_fits t es ((PySem.strKind P w).hash k) (.str k tk)
    have hr1 := layNew_ris t es ((PySem.strKind P w).hash k) (.str k tk) hr
    have hl1 := layNew_led t es ((PySem.strKind P w).hash k) (.str k tk)
    generalize layNew t es ((PySem.strKind P w).hash k) (.str k tk) = Z at pm hf1 hr1 hl1 ⊢
    obtain ⟨es1, t1, wasDummy, gave⟩ := Z
    dsimp only at pm hf1 hr1 hl1 ⊢
    rw [Array.toList_push] at pm
    have pc : es1.toList.Perm (((PySem.strKind P w).hash k, Value.str k tk) :: es.toList) := pm.trans (List.perm_append_singleton _ _)
    have pk : (es1.toList.map keyT).Perm (k :: es.toList.map keyT) := pc.map keyT
    have g1 : ∀ e ∈ es1.toList, GoodT w e := fun e he => by
      rcases List.mem_cons.mp (pc.mem_iff.mp he) with z | z
      · rw [z]; exact ⟨k, tk, rfl, rfl⟩
      · exact g e z
    have nd1 : (es1.toList.map keyT).Nodup := pk.nodup_iff.mpr (List.nodup_cons.mpr ⟨hnk, nd⟩)
    have m1 : ∀ i, i ∈ M ++ [k] ↔ i ∈ es1.toList.map keyT := fun i => by
      rw [List.mem_append, hm i, pk.mem_iff]
      simp only [List.mem_cons, List.not_mem_nil, or_false]
      exact Or.comm
    have hsz : es1.size = es.size + 1 := by rw [← Array.length_toList, pc.length_eq, List.length_cons, Array.length_toList]
    have hb1 : es1.size < scanBound := by rw [hsz]; omega
    have hs1 : es1.size ≤ (M ++ [k]).length := by rw [List.length_append, List.length_singleton]; omega
    have hled : w.params.followText "set-order" = true ∨ t1.led = true := hl.imp id fun z => by rw [hl1]; exact z
    refine wpAny_bind (hgw _ ?_)
    split
    · refine wpAny_bind ?_
      rw [hashByValue_scannable 8 hsc]
      refine wpAny_pure ?_
      refine setT_add_tail ?_ ho hex hd g1 nd1 m1 hb1 ?_ hs1 ?_ ?_ ?_
      · intro b s₁ Q' q; cases b <;> first | exact wpAny_pure q | exact wpAny_rule q
      · first | (split <;> first | exact hf1 | exact SetTable.fits_plain_off hf1) | exact hf1
      · first | (split <;> exact hr1) | exact hr1
      · first | (split <;> exact hled) | exact hled
      · intro h' sb r; dsimp only; exact wpAny_pure (hQ true h' sb r)
    · refine wpAny_bind (wpAny_pure ?_)
      simp only [↓reduceIte]
      refine setT_add_tail ?_ ho hex hd g1 nd1 m1 hb1 hf1 hs1 hr1 hled ?_
      · intro b s₁ Q' q; cases b <;> first | exact wpAny_pure q | exact wpAny_rule q
      · intro h' sb r; dsimp only; exact wpAny_pure (hQ true h' sb r)
/-- found.add(k) -/
theorem setT_add {k : Str} {tk : Tok} {Q : Value → Shared → Prop} (R : SetT w s.heap a M) (room : M.length + 1 < scanBound)
    (hQ : ∀ h', Heap.SameBut a s.heap h' → SetT w h' a (M ++ [k]) → Q .none { s with heap := h', toks := s.toks + 1 }) :
    wpAny (model P w) A (call (.builtin "set.add") [.ref a, .str k tk]) Q E s := by
  refine wpAny_call_entry F.slot_set_add R.typeIs F.entry_set_add ?_ (F.args_set_add_2 _ _)
  unfold Builtin.«set.add» Builtin.Frozenset.oneOther
  simp only [List.isEmpty_nil, bind_assoc]
  unfold Builtin.Frozenset.addrOf setAdd
  refine wpAny_bind (wpAny_pure ?_)
  try dsimp only
  refine wpAny_bind (wpAny_pure ?_)
  try dsimp only
  refine wpAny_bind ?_
  refine wpAny_holding ?_
  refine wpAny_bind ((PySem.strKind P w).pyHash (strKind_is P w k tk) ?_)
  refine setT_add_hashed (s := { s with toks := s.toks + 1 }) R room fun b h' sb r => ?_
  show wpAny _ _ (ret Value.none) _ _ _
  exact wpAny_pure ⟨_, rfl, hQ h' sb r⟩
/-- sorted(set) -/
theorem sorted_setT {Q : Value → Shared → Prop} (R : SetT w s.heap a M) (hh : A.handled = none) (hu : A.units + 4 < cLine)
    (hQ : ∀ s' p (out : Array Value) (c : Nat), (∀ b o, s.heap.get? b = some o → s'.heap.get? b = some o) → s'.gens = s.gens → s'.os = s.os → s.heap.objs.size ≤ p →
      s'.heap.get? p = some (seqObj "list" out c) → PySem.W.EachIs (fun v x => ∃ t, v = Value.str x t) out.toList (sset M) → Q (.ref p) s') :
    wpAny (model P w) A (call (.builtin "sorted") [.ref a]) Q E s := by
  obtain ⟨o, es, ep, t, ho, hex, hd, g, nd, hm, hb, hf, hn, hr, hl⟩ := R
  refine Calls.call_function_entry kind_sorted plain_sorted entry_sorted (args_sorted1 _) ?_
  unfold Builtin.«sorted»
  refine wpAny_bind (m := checkCount "sorted" 1 1 _) (wpAny_pure ?_)
  refine wpAny_bind (collect_set (A := A.in1) hh ⟨o, ho, hex.1, hd⟩ hf hb hr hl fun s1 vs k1 hz g1 o1 pm => ?_)
  have hvl : vs.length = es.size := by rw [pm.length_eq, List.length_map, Array.length_toList]
  have bound : vs.length ≤ sizeLine := by rw [hvl, sizeLine_eq]; unfold scanBound at hb; omega
  let kv : Value → Str := fun v => keyT (0, v)
  have hstrs : ∀ v ∈ vs, ∃ t, v = Value.str (kv v) t := fun v hv => by
    obtain ⟨e, he, q⟩ := List.mem_map.mp (pm.mem_iff.mp hv)
    obtain ⟨x, t, h1, _⟩ := g e he
    rw [← q, h1]
    exact ⟨t, rfl⟩
  have pk : (vs.map kv).Perm (es.toList.map keyT) := by
    have q := pm.map kv
    rw [List.map_map] at q
    exact q
  have eachIs : ∀ l : List Value, (∀ v ∈ l, ∃ t, v = Value.str (kv v) t) → PySem.W.EachIs (fun v x => ∃ t, v = Value.str x t) l (l.map kv) := by
    intro l
    induction l with
    | nil => intro _; exact .nil
    | cons v l ih => intro hl; exact .cons (hl v List.mem_cons_self) (ih fun u hu => hl u (List.mem_cons_of_mem _ hu))
  refine wpAny_bind (wpAny_newList ?_ bound)
  have hoL : (s1.heap.push (seqObj "list" vs.toArray 0)).get? s1.heap.objs.size = some (seqObj "list" vs.toArray 0) := Heap.get?_push_size _ rfl
  refine wpAny_bind (wpAny_holding (PySem.W.list_sort_data (s := { s1 with heap := s1.heap.push (seqObj "list" vs.toArray 0) }) (bs := vs.map kv) (enc := PyData.str) hoL (eachIs vs hstrs)
    ((eachIs vs hstrs).mono fun v x ⟨t, e⟩ => ⟨[], by rw [e]; exact .str x t, by simp⟩) (PySem.W.AllAlike.of fun _ _ => rfl) (PySem.W.Sortable.others fun _ => ⟨(fun z => nomatch z), fun _ z => nomatch z⟩) (by rw [List.length_map]; exact bound)
    (fun _ _ => by show A.units + 1 + 1 + 0 < cLine; omega) fun out hol heq => ?_))
  obtain ⟨c, hc⟩ := sortedHeap_at (vs := vs) (out := out.toArray) hoL
  rw [PySem.W.dataLe_str] at heq
  have em : (vs.map kv).mergeSort (fun a b => decide (a.cps.toList ≤ b.cps.toList)) = sset M := by
    refine sset_eq (srt_of_sorted (List.pairwise_mergeSort (fun a b c => sLe_trans a b c) (fun a b => sLe_total a b) _) ?_) fun k => ?_
    · exact (List.mergeSort_perm _ _).nodup_iff.mpr (pk.nodup_iff.mpr nd)
    · rw [(List.mergeSort_perm _ _).mem_iff, pk.mem_iff, ← hm k]
  rw [em] at heq
  refine wpAny_pure ⟨_, rfl, hQ _ s1.heap.objs.size out.toArray c (fun b u e => ?_) g1 o1 hz hc (by simpa using heq)⟩
  have q := k1 b u e
  have hlt := Heap.lt_size q
  show (sortedHeap (s1.heap.push (seqObj "list" vs.toArray 0)) s1.heap.objs.size vs out.toArray).get? b = some u
  rw [sortedHeap_old (Nat.ne_of_lt hlt) (by rw [size_push']; exact Nat.lt_succ_of_lt hlt)]
  exact Heap.get?_push_of_some _ q
end
end MP
-- SI0
/-! set(x), x a list or a tuple: up to the walk over x. -/
namespace MP
open PySem PySem.Spec PySem.Calls PyProof.Rows L2
theorem set_init_gen {P : Program} {w : World} {B : Around} {S l : Addr} {T : String} {odict : Option Addr} {oslots : Array (Option Value)} {items : Array Value} {nl : Nat} {QF : PySem.Fin → Shared → Prop} {EF : Value → Shared → Prop} {s1 : Shared}
    (hS : s1.heap.get? S = some { cls := .type "set", dict := none, data := .set #[] 0 (.fresh 0 0 (!w.params.followText "set-order")) }) (hl : s1.heap.get? l = some { cls := .type T, dict := odict, data := .seq items nl, slots := oslots })
    (hsls : isSubtype (.type T) (.type "set") = pure false) (hslf : isSubtype (.type T) (.type "frozenset") = pure false) (hne : (Value.type T == Value.type "dict") = false)
    (h : wpAny (model P w) B (pyIter (.ref l)) (fun a s' => wpAny (model P w) B (do let _ ← runValue (Code.builtin "set.update.loop" { pos := [Value.ref S, a] }); pure ()) (fun a s' => wpAny (model P w) B ((fun _ => ret Value.none) a) QF EF s') EF s') EF s1) :
    wpAny (model P w) B (Builtin.«set.__init__» { pos := [Value.ref S, Value.ref l] }) QF EF s1 := by
  have hT : Shared.TypeIs s1 (.ref S) "set" := ⟨_, hS, rfl⟩
  unfold Builtin.«set.__init__» noKeywords Builtin.Frozenset.updateFrom
  generalize hPI : pyIter = PI at h ⊢
  wp_walk
  exact h
end MP
-- TS2
/-! set(xs), xs a list or a tuple of texts. -/
namespace MP
open PySem PySem.Spec PyProof.Rows L2
abbrev fresh0 (w : World) : Obj := { cls := .type "set", dict := none, data := .set #[] 0 (.fresh 0 0 (!w.params.followText "set-order")) }
section
variable {P : Program} {w : World} {A : Around} {R : Result → Shared → Prop} {I : Addr} {fp wr : List Addr} {G : Array GenState → Array GenState → Prop} {n : Nat} {Pv : Nat → Value → Prop} {St : Nat → Shared → Prop}
theorem update_texts (W : WalksS P w A.in1 I fp wr G n Pv St) (S : Addr) (hSf : S ∉ fp) (xs : List Str) (hsz : xs.length = n) (hb : n < 4000) (hval : ∀ i v, Pv i v → ∃ t, v = .str (xs.getD i Str.empty) t) :
    ∀ (k i : Nat) (s : Shared), n - i = k → i ≤ n → St i s → SetT w s.heap S (xs.take i) →
      (∀ s', Moved (S :: wr) G s s' → SetT w s'.heap S xs → R (.ok (.ret .none)) s') →
      codeAny (model P w) A (.builtin "set.update.loop" ⟨[.ref S, .ref I], []⟩) R s := by
  have hSw : S ∉ wr := fun h => hSf (W.sub _ h)
  have hsub : ∀ b ∈ wr, b ∈ S :: wr := fun b hb => List.mem_cons_of_mem _ hb
  intro k
  induction k with
  | zero =>
    intro i s hk' hi hst hS hR
    have hin : i = n := by omega
    subst hin
    refine codeAny_builtin F.entry_set_update_loop ?_
    rw [Around.under_plainId F.plain_set_update_loop _]
    show wpAny _ A.in1 (pyNext (.ref I) >>= _) _ _ s
    refine wpAny_bind (W.done s _ _ hst fun s' hm => ?_)
    show wpAny _ A.in1 (ret Value.none) _ _ s'
    rw [List.take_of_length_le (by omega)] at hS
    exact wpAny_pure (hR s' (hm.mono hsub) (hS.at fun o e => hm.heap S o hSw e))
  | succ k ih =>
    intro i s hk' hi hst hS hR
    have hlt : i < n := by omega
    refine codeAny_builtin F.entry_set_update_loop ?_
    rw [Around.under_plainId F.plain_set_update_loop _]
    show wpAny _ A.in1 (pyNext (.ref I) >>= _) _ _ s
    refine wpAny_bind (W.item i s _ _ hlt hst fun v s' hP hst' hm => ?_)
    obtain ⟨t, rfl⟩ := hval i v hP
    have hS' : SetT w s'.heap S (xs.take i) := hS.at fun o e => hm.heap S o hSw e
    show wpAny _ A.in1 (holding [Value.str (xs.getD i Str.empty) t] (setAdd S (.str (xs.getD i Str.empty) t)) >>= _) _ _ s'
    refine wpAny_bind (wpAny_holding ?_)
    unfold setAdd
    refine wpAny_holding ?_
    refine wpAny_bind ((PySem.strKind P w).pyHash (k := xs.getD i Str.empty) (strKind_is _ _ _ _) ?_)
    refine setT_add_hashed (s := { s' with toks := s'.toks + 1 }) hS' (by rw [List.length_take]; unfold scanBound; omega) fun b h' hsb hS2 => ?_
    have e : xs.take i ++ [xs.getD i Str.empty] = xs.take (i + 1) := by
      rw [List.take_succ, List.getD_eq_getElem?_getD, List.getElem?_eq_getElem (by omega : i < xs.length)] <;> rfl
    rw [e] at hS2
    refine wpAny_pure ⟨plainId_quiet F.plain_set_update_loop _, ih (i + 1) _ (by omega) hlt (W.frame _ s' _ _ hst' (Nat.le_succ _) fun b hb o e => ?_) hS2 fun s'' hm'' hS'' => ?_⟩
    · rw [hsb.2 b (fun h : b = S => hSf (by rw [← h]; exact hb))]; exact e
    · refine hR s'' (Moved.trans W.gtrans ((hm.mono hsub).then_heap (Nat.le_succ _) fun b o hb e => ?_) hm'') hS''
      rw [hsb.2 b (fun h : b = S => hb (by rw [h]; exact List.mem_cons_self))]; exact e
end
section
variable {P : Program} {w : World} {A : Around} {E : Value → Shared → Prop} {s : Shared}
theorem call_set_texts_list {l : Addr} {items : Array Value} {xs : List Str} {Q : Value → Shared → Prop}
    (hh : A.handled = none) (hl : s.heap.IsList l items) (hi : PyProof.Rows.StrsAre items.toList xs) (hb : xs.length < 4000)
    (h : ∀ (h' : Heap) (tk : Nat), SetT w h' s.heap.objs.size xs → (∀ b o, s.heap.get? b = some o → h'.get? b = some o) → Q (.ref s.heap.objs.size) { s with heap := h', toks := tk }) :
    wpAny (model P w) A (call (.type "set") [.ref l]) Q E s := by
  obtain ⟨c, tl, hmro⟩ := PySem.F.called_set.mro
  have hmade := PySem.F.called_set.made
  have hsub := PySem.F.called_set.sub
  refine wpAny_call (codeAny_of_tree ?_)
  show wpAny _ _ (callAny (.type "set") _) _ _ _
  refine wpAny_pure ⟨Code.quiet_builtin _ (by decide +kernel), codeAny_builtin PySem.F.entry_type_call ?_⟩
  rw [Around.under_plain (weight_type_call_type "set" [.ref l] []) rfl]
  have h1 := PySem.F.called_set.notType
  have h2 := PySem.F.called_set.canCreate
  have hct := PySem.F.typeCall_set_1 (.ref l)
  repeat (any_goals (first | assumption | wp_step))
  refine codeAny_mono (code_set_led1 (.ref l) (E := E) (Q₁ := fun obj s₁ => obj = .ref s.heap.objs.size ∧ s₁ = { s with heap := s.heap.push (fresh0 w) }) ⟨rfl, rfl⟩) fun r s₁ hr => ?_
  cases r with
  | error e => exact hr
  | ok fl =>
    cases fl with
    | ret obj =>
      obtain ⟨rfl, rfl⟩ := hr
      have hS : (s.heap.push (fresh0 w)).get? s.heap.objs.size = some (fresh0 w) := Heap.get?_push_size _ rfl
      have hT : Shared.TypeIs { s with heap := s.heap.push (fresh0 w) } (.ref s.heap.objs.size) "set" := ⟨_, hS, rfl⟩
      have hli := PySem.F.called_set.init.lookup
      have hbi := PySem.F.called_set.init.bind (.ref s.heap.objs.size)
      repeat (any_goals (first | assumption | wp_step))
      refine codeAny_mono (codeAny_call_builtin (R := wants (fun r s₂ => r = .none ∧ ∃ h' tk, s₂ = { s with heap := h', toks := tk } ∧
          SetT w h' s.heap.objs.size xs ∧ (∀ b o, s.heap.get? b = some o → h'.get? b = some o)) E) PySem.F.called_set.init.plain PySem.F.entry_set_init (check_set_init_1 hT ?_)) fun r₂ s₂ hr₂ => ?_
      · obtain ⟨ol, hol, hcl, nl, hdl⟩ := hl
        obtain ⟨ocls, odict, odata, oslots⟩ := ol
        simp only at hcl hdl
        subst hcl; subst hdl
        have hol' : (s.heap.push (fresh0 w)).get? l = some { cls := .type "list", dict := odict, data := .seq items nl, slots := oslots } := Heap.get?_push_of_some _ hol
        have hsls := PySem.F.sub_list_set
        have hslf := PySem.F.sub_list_frozenset
        have hne : (Value.type "list" == Value.type "dict") = false := by decide
        have hl1 : (s.heap.push (fresh0 w)).IsList l items := ⟨_, hol', rfl, nl, rfl⟩
        refine set_init_gen hS hol' hsls hslf hne ?_
        refine wpAny_pyIter_list hl1 ?_
        refine wpAny_bind (wpAny_runValue ?_)
        have hlS : l < s.heap.objs.size := Heap.lt_size hol
        have hh3 : A.in1.in1.in1.handled = none := by simp [hh]
        have hneI : l ≠ (s.heap.push (fresh0 w)).objs.size := by
          rw [Heap.size_push]; exact Nat.ne_of_lt (Nat.lt_succ_of_lt hlS)
        have hSf : s.heap.objs.size ∉ [(s.heap.push (fresh0 w)).objs.size, l] := by
          rw [Heap.size_push]; simp only [List.mem_cons, List.mem_singleton, List.not_mem_nil, or_false, not_or]
          exact ⟨Nat.ne_of_lt (Nat.lt_succ_self _), Nat.ne_of_gt hlS⟩
        have hsz : xs.length = items.size := by rw [← StrsAre.len_eq hi, Array.length_toList]
        have hval : ∀ (i : Nat) (v : Value), items[i]? = some v → ∃ t, v = .str (xs.getD i Str.empty) t := fun i v hv => SS.strs_at hi i v (by rw [Array.getElem?_toList]; exact hv)
        refine update_texts ((Walks.list hh3 _ l hneI items).toS) s.heap.objs.size
          hSf xs hsz (by rw [← hsz]; exact hb) hval (items.size - 0) 0 _ (by omega) (Nat.zero_le _)
          ⟨⟨_, Heap.get?_push_size _ rfl, rfl, rfl⟩, (hl1.push _)⟩ ?hS0 ?hR
        case hS0 =>
          have hget : ((s.heap.push (fresh0 w)).push { cls := .type "list_iterator", data := .fields #[.ref l, .int 0 0] }).get? s.heap.objs.size
              = some (fresh0 w) := Heap.get?_push_of_some _ hS
          exact setT_fresh w hget
        case hR =>
          intro s' hm hS'
          obtain ⟨h', g', d', tk', os'⟩ := s'
          have eg : g' = s.gens := hm.gens
          have ed : d' = s.drawn := hm.drawn
          have eo : os' = s.os := hm.os
          subst eg; subst ed; subst eo
          show wpAny _ _ _ _ _ _
          refine wpAny_pure ?_
          show wpAny _ _ (ret Value.none) _ _ _
          refine wpAny_pure ⟨rfl, h', tk', rfl, hS', fun b o e => ?_⟩
          have hb := Heap.lt_size e
          have hb1 : b ≠ s.heap.objs.size := Nat.ne_of_lt hb
          have hb2 : b ≠ (s.heap.push (fresh0 w)).objs.size := by
            rw [Heap.size_push]; exact Nat.ne_of_lt (Nat.lt_succ_of_lt hb)
          exact hm.heap b o (by simp only [List.mem_cons, List.mem_singleton, List.not_mem_nil, or_false, not_or]; exact ⟨hb1, hb2⟩) (Heap.get?_push_of_some _ (Heap.get?_push_of_some _ e))
      · cases r₂ with
        | error e => exact hr₂
        | ok fl₂ =>
          cases fl₂ with
          | ret r =>
            obtain ⟨rfl, h', tk, rfl, hS', hk'⟩ := hr₂
            repeat (any_goals (first | assumption | wp_step))
            exact h _ _ hS' hk'
          | _ => exact hr₂.elim
    | _ => exact hr.elim
theorem call_set_texts_tuple {l : Addr} {items : Array Value} {xs : List Str} {Q : Value → Shared → Prop}
    (hh : A.handled = none) (hl : s.heap.IsTuple l items) (hi : PyProof.Rows.StrsAre items.toList xs) (hb : xs.length < 4000)
    (h : ∀ (h' : Heap) (tk : Nat), SetT w h' s.heap.objs.size xs → (∀ b o, s.heap.get? b = some o → h'.get? b = some o) → Q (.ref s.heap.objs.size) { s with heap := h', toks := tk }) :
    wpAny (model P w) A (call (.type "set") [.ref l]) Q E s := by
  obtain ⟨c, tl, hmro⟩ := PySem.F.called_set.mro
  have hmade := PySem.F.called_set.made
  have hsub := PySem.F.called_set.sub
  refine wpAny_call (codeAny_of_tree ?_)
  show wpAny _ _ (callAny (.type "set") _) _ _ _
  refine wpAny_pure ⟨Code.quiet_builtin _ (by decide +kernel), codeAny_builtin PySem.F.entry_type_call ?_⟩
  rw [Around.under_plain (weight_type_call_type "set" [.ref l] []) rfl]
  have h1 := PySem.F.called_set.notType
  have h2 := PySem.F.called_set.canCreate
  have hct := PySem.F.typeCall_set_1 (.ref l)
  repeat (any_goals (first | assumption | wp_step))
  refine codeAny_mono (code_set_led1 (.ref l) (E := E) (Q₁ := fun obj s₁ => obj = .ref s.heap.objs.size ∧ s₁ = { s with heap := s.heap.push (fresh0 w) }) ⟨rfl, rfl⟩) fun r s₁ hr => ?_
  cases r with
  | error e => exact hr
  | ok fl =>
    cases fl with
    | ret obj =>
      obtain ⟨rfl, rfl⟩ := hr
      have hS : (s.heap.push (fresh0 w)).get? s.heap.objs.size = some (fresh0 w) := Heap.get?_push_size _ rfl
      have hT : Shared.TypeIs { s with heap := s.heap.push (fresh0 w) } (.ref s.heap.objs.size) "set" := ⟨_, hS, rfl⟩
      have hli := PySem.F.called_set.init.lookup
      have hbi := PySem.F.called_set.init.bind (.ref s.heap.objs.size)
      repeat (any_goals (first | assumption | wp_step))
      refine codeAny_mono (codeAny_call_builtin (R := wants (fun r s₂ => r = .none ∧ ∃ h' tk, s₂ = { s with heap := h', toks := tk } ∧
          SetT w h' s.heap.objs.size xs ∧ (∀ b o, s.heap.get? b = some o → h'.get? b = some o)) E) PySem.F.called_set.init.plain PySem.F.entry_set_init (check_set_init_1 hT ?_)) fun r₂ s₂ hr₂ => ?_
      · obtain ⟨ol, hol, hcl, nl, hdl⟩ := hl
        obtain ⟨ocls, odict, odata, oslots⟩ := ol
        simp only at hcl hdl
        subst hcl; subst hdl
        have hol' : (s.heap.push (fresh0 w)).get? l = some { cls := .type "tuple", dict := odict, data := .seq items nl, slots := oslots } := Heap.get?_push_of_some _ hol
        have hsls := PySem.F.sub_tuple_set
        have hslf := PySem.F.sub_tuple_frozenset
        have hne : (Value.type "tuple" == Value.type "dict") = false := by decide
        have hl1 : (s.heap.push (fresh0 w)).IsTuple l items := ⟨_, hol', rfl, nl, rfl⟩
        refine set_init_gen hS hol' hsls hslf hne ?_
        refine wpAny_pyIter_tuple hl1 ?_
        refine wpAny_bind (wpAny_runValue ?_)
        have hlS : l < s.heap.objs.size := Heap.lt_size hol
        have hh3 : A.in1.in1.in1.handled = none := by simp [hh]
        have hneI : l ≠ (s.heap.push (fresh0 w)).objs.size := by
          rw [Heap.size_push]; exact Nat.ne_of_lt (Nat.lt_succ_of_lt hlS)
        have hSf : s.heap.objs.size ∉ [(s.heap.push (fresh0 w)).objs.size, l] := by
          rw [Heap.size_push]; simp only [List.mem_cons, List.mem_singleton, List.not_mem_nil, or_false, not_or]
          exact ⟨Nat.ne_of_lt (Nat.lt_succ_self _), Nat.ne_of_gt hlS⟩
        have hsz : xs.length = items.size := by rw [← StrsAre.len_eq hi, Array.length_toList]
        have hval : ∀ (i : Nat) (v : Value), items[i]? = some v → ∃ t, v = .str (xs.getD i Str.empty) t := fun i v hv => SS.strs_at hi i v (by rw [Array.getElem?_toList]; exact hv)
        refine update_texts ((Walks.tuple hh3 _ l hneI items).toS) s.heap.objs.size
          hSf xs hsz (by rw [← hsz]; exact hb) hval (items.size - 0) 0 _ (by omega) (Nat.zero_le _)
          ⟨⟨_, Heap.get?_push_size _ rfl, rfl, rfl⟩, (hl1.push _)⟩ ?hS0 ?hR
        case hS0 =>
          have hget : ((s.heap.push (fresh0 w)).push { cls := .type "tuple_iterator", data := .fields #[.ref l, .int 0 0] }).get? s.heap.objs.size
              = some (fresh0 w) := Heap.get?_push_of_some _ hS
          exact setT_fresh w hget
        case hR =>
          intro s' hm hS'
          obtain ⟨h', g', d', tk', os'⟩ := s'
          have eg : g' = s.gens := hm.gens
          have ed : d' = s.drawn := hm.drawn
          have eo : os' = s.os := hm.os
          subst eg; subst ed; subst eo
          show wpAny _ _ _ _ _ _
          refine wpAny_pure ?_
          show wpAny _ _ (ret Value.none) _ _ _
          refine wpAny_pure ⟨rfl, h', tk', rfl, hS', fun b o e => ?_⟩
          have hb := Heap.lt_size e
          have hb1 : b ≠ s.heap.objs.size := Nat.ne_of_lt hb
          have hb2 : b ≠ (s.heap.push (fresh0 w)).objs.size := by
            rw [Heap.size_push]; exact Nat.ne_of_lt (Nat.lt_succ_of_lt hb)
          exact hm.heap b o (by simp only [List.mem_cons, List.mem_singleton, List.not_mem_nil, or_false, not_or]; exact ⟨hb1, hb2⟩) (Heap.get?_push_of_some _ (Heap.get?_push_of_some _ e))
      · cases r₂ with
        | error e => exact hr₂
        | ok fl₂ =>
          cases fl₂ with
          | ret r =>
            obtain ⟨rfl, h', tk, rfl, hS', hk'⟩ := hr₂
            repeat (any_goals (first | assumption | wp_step))
            exact h _ _ hS' hk'
          | _ => exact hr₂.elim
    | _ => exact hr.elim
end
end MP
-- RS1
/-! Set tables of any size 2^k: where a search goes, what a new table holds. -/
namespace MP
open PySem PySem.Spec PyProof.Rows L2
/-! ### the round of i -> 5 i + 1 modulo a power of two -/
def y5 : Nat → Nat
  | 0 => 0
  | n + 1 => 5 * y5 n + 1
theorem y5_pow : ∀ n, 4 * y5 n + 1 = 5 ^ n
  | 0 => rfl
  | n + 1 => by
    have ih := y5_pow n
    rw [Nat.pow_succ, ← ih]
    show 4 * (5 * y5 n + 1) + 1 = _
    omega
theorem y5_add (a : Nat) : ∀ b, y5 (a + b) = 5 ^ b * y5 a + y5 b
  | 0 => by simp [y5]
  | b + 1 => by
    show 5 * y5 (a + b) + 1 = 5 ^ (b + 1) * y5 a + (5 * y5 b + 1)
    rw [y5_add a b, Nat.pow_succ, Nat.mul_add, Nat.mul_comm (5 ^ b) 5, Nat.mul_assoc, Nat.add_assoc]
theorem y5_two : ∀ k, ∃ o, y5 (2 ^ k) = 2 ^ k * (2 * o + 1)
  | 0 => ⟨0, rfl⟩
  | k + 1 => by
    obtain ⟨o, e⟩ := y5_two k
    have h := y5_add (2 ^ k) (2 ^ k)
    rw [← y5_pow (2 ^ k), e] at h
    refine ⟨2 * (2 ^ k * (2 * o + 1)) * (2 * o + 1) / 2 + (2 ^ k * (2 * o + 1)) * 0 + o, ?_⟩
    have e2 : (2 : Nat) ^ (k + 1) = 2 ^ k + 2 ^ k := by rw [Nat.pow_succ]; omega
    rw [e2, h]
    have e3 : 2 * (2 ^ k * (2 * o + 1)) * (2 * o + 1) / 2 = 2 ^ k * (2 * o + 1) * (2 * o + 1) := by
      rw [Nat.mul_assoc 2, Nat.mul_div_cancel_left _ (by decide)]
    rw [e3]
    generalize 2 ^ k = t
    simp only [Nat.mul_zero, Nat.add_zero]
    grind
theorem y5_mod : ∀ k i, i < 2 ^ k → ∃ n, n < 2 ^ k ∧ y5 n % 2 ^ k = i
  | 0, i, h => ⟨0, by simp, by simp at h ⊢; omega⟩
  | k + 1, i, h => by
    have hp : 0 < 2 ^ k := Nat.two_pow_pos k
    have e2 : (2 : Nat) ^ (k + 1) = 2 * 2 ^ k := by rw [Nat.pow_succ]; omega
    obtain ⟨n, hn, e⟩ := y5_mod k (i % 2 ^ k) (Nat.mod_lt _ hp)
    rw [e2] at h ⊢
    obtain ⟨q, hq⟩ : ∃ q, y5 n = 2 ^ k * q + i % 2 ^ k := ⟨y5 n / 2 ^ k, by rw [← e, Nat.div_add_mod]⟩
    have hi : i = i % 2 ^ k ∨ i = 2 ^ k + i % 2 ^ k := by
      have := Nat.div_add_mod i (2 ^ k)
      have h3 : i / 2 ^ k < 2 := Nat.div_lt_of_lt_mul (by rw [Nat.mul_comm]; exact h)
      generalize i / 2 ^ k = d at *
      rcases (by omega : d = 0 ∨ d = 1) with z | z
      · subst z; left; omega
      · subst z; right; omega
    have hr : i % 2 ^ k < 2 ^ k := Nat.mod_lt _ hp
    generalize hr' : i % 2 ^ k = r at *
    have par : ∀ m : Nat, (2 ^ k * m + r) % (2 * 2 ^ k) = 2 ^ k * (m % 2) + r := fun m => by
      have hm := Nat.div_add_mod m 2
      have h1 : 2 ^ k * m + r = 2 * 2 ^ k * (m / 2) + (2 ^ k * (m % 2) + r) := by
        generalize 2 ^ k = t at *
        have : t * m = t * (2 * (m / 2) + m % 2) := by rw [hm]
        rw [this, Nat.mul_add, ← Nat.mul_assoc, Nat.mul_comm t 2, Nat.add_assoc]
      rw [h1, Nat.mul_add_mod]
      apply Nat.mod_eq_of_lt
      rcases Nat.mod_two_eq_zero_or_one m with z | z <;> rw [z] <;> omega
    have want : ∃ b, b < 2 ∧ i = 2 ^ k * b + r := by
      rcases hi with z | z
      · exact ⟨0, by decide, by omega⟩
      · exact ⟨1, by decide, by omega⟩
    obtain ⟨b, hb, ei⟩ := want
    by_cases c : q % 2 = b
    · exact ⟨n, by omega, by rw [hq, par, c, ei]⟩
    · refine ⟨n + 2 ^ k, by omega, ?_⟩
      obtain ⟨o, eo⟩ := y5_two k
      rw [y5_add, ← y5_pow (2 ^ k), eo, hq]
      have : (4 * (2 ^ k * (2 * o + 1)) + 1) * (2 ^ k * q + r) + 2 ^ k * (2 * o + 1) = 2 ^ k * (q + 1 + 2 * (o + 2 * (2 * o + 1) * (2 ^ k * q + r))) + r := by
        generalize 2 ^ k = t
        grind
      rw [this, par, ei]
      have : (q + 1 + 2 * (o + 2 * (2 * o + 1) * (2 ^ k * q + r))) % 2 = (q + 1) % 2 := by omega
      rw [this]
      have : (q + 1) % 2 = b := by omega
      rw [this]
/-! ### the masks -/
def MaskK (m : Nat) : Prop := ∃ k, 3 ≤ k ∧ m + 1 = 2 ^ k
theorem lcgN_y5 (m : Nat) : ∀ n, lcgN m n = y5 n % (m + 1)
  | 0 => by simp [lcgN, y5]
  | n + 1 => by
    show (lcgN m n * 5 + 1) % (m + 1) = (5 * y5 n + 1) % (m + 1)
    rw [lcgN_y5 m n, Nat.add_mod, Nat.mod_mul_mod, ← Nat.add_mod, Nat.mul_comm]
theorem lcg_all' {m : Nat} (hm : MaskK m) {j : Nat} (hj : j ≤ m) : ∃ b, b ≤ m ∧ lcgN m b = j := by
  obtain ⟨k, _, e⟩ := hm
  obtain ⟨n, hn, en⟩ := y5_mod k j (by omega)
  exact ⟨n, by omega, by rw [lcgN_y5, e, en]⟩
theorem lcgN_mod' {m : Nat} (hm : MaskK m) : ∀ k, lcgN m (m + 1 + k) = lcgN m k
  | 0 => by
    obtain ⟨k, _, e⟩ := hm
    rw [lcgN_y5, Nat.add_zero, e]
    obtain ⟨o, eo⟩ := y5_two k
    rw [eo, Nat.mul_mod_right]
    rfl
  | k + 1 => by
    show (lcgN m (m + 1 + k) * 5 + 1) % (m + 1) = (lcgN m k * 5 + 1) % (m + 1)
    rw [lcgN_mod' hm k]
theorem lcgI_all' {m : Nat} (hm : MaskK m) {i j : Nat} (hi : i ≤ m) (hj : j ≤ m) : ∃ k, k ≤ m ∧ lcgI m i k = j := by
  obtain ⟨a, ha, ea⟩ := lcg_all' hm hi
  obtain ⟨b, hb, eb⟩ := lcg_all' hm hj
  rw [← ea]
  by_cases c : b < a
  · exact ⟨b + (m + 1) - a, by omega, by rw [lcgN_add, show a + (b + (m + 1) - a) = m + 1 + b by omega, lcgN_mod' hm, eb]⟩
  · exact ⟨b - a, by omega, by rw [lcgN_add, show a + (b - a) = b by omega, eb]⟩
theorem run_meets' {m : Nat} (hm : MaskK m) (h : Int) {j : Nat} (hj : j ≤ m) : ∃ n, n ≤ m + 12 ∧ runI m (SetTable.bits h) n = j := by
  obtain ⟨k, hk, e⟩ := lcgI_all' hm (runI_le m (SetTable.bits h) 12) hj
  exact ⟨12 + k, by omega, by rw [runI_tail (bits_lt h)]; exact e⟩
theorem nth_meets' {m : Nat} (hm : MaskK m) (h : Int) {j : Nat} (hj : j ≤ m) : ∃ k, k < 10 * SetTable.turns m ∧ way m h k = j := by
  obtain ⟨n, hn, e⟩ := run_meets' hm h hj
  obtain ⟨k, hk, e2⟩ := run_nth m (SetTable.bits h) n
  refine ⟨k, by unfold SetTable.turns; omega, ?_⟩
  show (nth m _ k).j = j
  rw [e2]
  exact e
theorem way_le' {m : Nat} {h : Int} {k : Nat} : way m h k ≤ m := by
  have hi : SetTable.bits h % (m + 1) ≤ m := Nat.le_of_lt_succ (Nat.mod_lt _ (Nat.succ_pos _))
  have r := runEnd_bd hi
  have q := nth_in (m := m) k (runAt m (SetTable.bits h % (m + 1)) (SetTable.bits h)) (by
    show SetTable.bits h % (m + 1) + (SetTable.runEnd m (SetTable.bits h % (m + 1)) - SetTable.bits h % (m + 1)) ≤ m
    omega)
  exact Nat.le_trans (Nat.le_add_right _ _) q
theorem mask_odd' {m : Nat} (h : MaskK m) : m % 2 = 1 := by
  obtain ⟨k, h3, e⟩ := h
  obtain ⟨j, rfl⟩ : ∃ j, k = j + 1 := ⟨k - 1, by omega⟩
  rw [Nat.pow_succ] at e
  omega
theorem mask_ge {m : Nat} (h : MaskK m) : 7 ≤ m := by
  obtain ⟨k, h3, e⟩ := h
  have := Nat.pow_le_pow_right (n := 2) (by decide) h3
  omega
/-! ### a table whose slots all are found again -/
structure TabK (t : SetTable) (hs : List Int) : Prop where
  ris : Ris t.place.toList
  dm : t.dummies = #[]
  sz : t.place.size = hs.length
  mok : MaskK t.mask
  bd : ∀ x ∈ t.place.toList, x ≤ t.mask
  reach : ∀ (i : Nat) (h : Int) (j : Nat), hs[i]? = some h → t.place.toList[i]? = some j → ∃ k, way t.mask h k = j ∧ ∀ k', k' < k → way t.mask h k' ∈ t.place.toList
theorem TabK.first {t : SetTable} {hs : List Int} (T : TabK t hs) (hl : hs.length ≤ t.mask) (h : Int) : ∃ K, K < 10 * SetTable.turns t.mask ∧ way t.mask h K ∉ t.place.toList ∧ ∀ k, k < K → way t.mask h k ∈ t.place.toList := by
  obtain ⟨j, hj, hn⟩ := st_missing t.place.toList (t.mask + 1) (by rw [Array.length_toList, T.sz]; omega)
  obtain ⟨k, hk, e⟩ := nth_meets' T.mok h (Nat.le_of_lt_succ hj)
  obtain ⟨K, h1, h2, h3⟩ := st_least (p := fun k => way t.mask h k ∉ t.place.toList) k (by rw [e]; exact hn)
  exact ⟨K, Nat.lt_of_le_of_lt h1 hk, h2, fun k' hk' => Classical.not_not.mp (h3 k' hk')⟩
theorem TabK.before {t : SetTable} {hs : List Int} (T : TabK t hs) {h : Int} {K i j : Nat} (hK : way t.mask h K ∉ t.place.toList) (hi : hs[i]? = some h) (hj : t.place.toList[i]? = some j) : ∃ k, k < K ∧ way t.mask h k = j := by
  obtain ⟨k, e, hb⟩ := T.reach i h j hi hj
  refine ⟨k, ?_, e⟩
  rcases Nat.lt_trichotomy k K with c | c | c
  · exact c
  · subst c
    exact absurd (e ▸ List.mem_of_getElem? hj) hK
  · exact absurd (hb K c) hK
theorem TabK.put {t : SetTable} {hs : List Int} (T : TabK t hs) {h : Int} {K : Nat} (hK : way t.mask h K ∉ t.place.toList) (hb : ∀ k, k < K → way t.mask h k ∈ t.place.toList) :
    SetTable.below t.place (way t.mask h K) ≤ hs.length ∧
    TabK (t.put (way t.mask h K)).1 (hs.take (SetTable.below t.place (way t.mask h K)) ++ h :: hs.drop (SetTable.below t.place (way t.mask h K))) ∧
    (t.put (way t.mask h K)).1.fill = hs.length + 1 := by
  have hjm : way t.mask h K ≤ t.mask := way_le'
  obtain ⟨j, hj⟩ : ∃ j, j = way t.mask h K := ⟨_, rfl⟩
  rw [← hj] at hK hjm ⊢
  have c1 := (below_cut T.ris j).1
  have hpl : SetTable.below t.place j ≤ t.place.toList.length := by rw [Array.length_toList]; exact c1
  have hph : SetTable.below t.place j ≤ hs.length := by rw [← T.sz]; exact c1
  have hnp : t.place[SetTable.below t.place j]? ≠ some j := fun e => hK (List.mem_of_getElem? (by rw [Array.getElem?_toList]; exact e))
  have hpp := put_place t j
  have hsize : (t.put j).1.place.size = hs.length + 1 := by
    rw [← Array.length_toList, hpp, len_ins _ hpl, Array.length_toList, T.sz]
  have up : ∀ {x : Nat}, x ∈ t.place.toList → x ∈ (t.put j).1.place.toList := fun hx => by
    rw [hpp]
    exact mem_ins.2 (.inr hx)
  refine ⟨hph, ⟨ris_insert T.ris hnp, put_dm T.dm j, by rw [len_ins _ hph]; exact hsize, T.mok, fun x hx => ?_, fun i h' j' h1 h2 => ?_⟩, ?_⟩
  · rw [hpp] at hx
    rcases mem_ins.1 hx with z | z
    · rw [z]; exact hjm
    · exact T.bd x z
  · rw [tins_get hs hph] at h1
    rw [hpp, tins_get _ hpl] at h2
    show ∃ k, way t.mask h' k = j' ∧ ∀ k', k' < k → way t.mask h' k' ∈ (t.put j).1.place.toList
    have old : ∀ i, hs[i]? = some h' → t.place.toList[i]? = some j' → ∃ k, way t.mask h' k = j' ∧ ∀ k', k' < k → way t.mask h' k' ∈ (t.put j).1.place.toList := fun i a b => by
      obtain ⟨k, e, z⟩ := T.reach i h' j' a b
      exact ⟨k, e, fun k' hk' => up (z k' hk')⟩
    by_cases c : i < SetTable.below t.place j
    · rw [if_pos c] at h1 h2
      exact old i h1 h2
    · rw [if_neg c] at h1 h2
      by_cases d : i = SetTable.below t.place j
      · rw [if_pos d] at h1 h2
        cases h1
        cases h2
        exact ⟨K, hj.symm, fun k' hk' => up (hb k' hk')⟩
      · rw [if_neg d] at h1 h2
        exact old _ h1 h2
  · show (t.put j).1.place.size + (t.put j).1.dummies.size = hs.length + 1
    rw [hsize, put_dm T.dm j] <;> rfl
/-! ### a new table -/
theorem free_find' {m : Nat} (hm : MaskK m) (owner : Array (Option Nat)) (h : Int) {j : Nat} (hj : j ≤ m) (hf : oAt owner j = none) :
    ∃ K, SetTable.layClean.free m owner (SetTable.turns m) (SetTable.bits h % (m + 1)) (SetTable.bits h) = some (way m h K) ∧ oAt owner (way m h K) = none ∧ ∀ k, k < K → oAt owner (way m h k) ≠ none := by
  obtain ⟨n, hn, e⟩ := run_meets' hm h hj
  have hw : way m h (off m (SetTable.bits h % (m + 1)) (SetTable.bits h) n) = j := by
    show (nth m (runAt m (SetTable.bits h % (m + 1)) (SetTable.bits h)) (off m (SetTable.bits h % (m + 1)) (SetTable.bits h) n)).j = j
    rw [nth_off, itL_run]
    exact e
  obtain ⟨K, k1, k2, k3⟩ := st_least (p := fun k => oAt owner (way m h k) = none) (off m (SetTable.bits h % (m + 1)) (SetTable.bits h) n) (by rw [hw]; exact hf)
  refine ⟨K, free_spec m owner (SetTable.turns m) n _ _ K (by unfold SetTable.turns; omega) k1 (fun k hk => ?_) ?_, k2, k3⟩
  · have q := k3 k hk
    cases z : oAt owner (nth m (runAt m (SetTable.bits h % (m + 1)) (SetTable.bits h)) k).j with
    | none => exact absurd z q
    | some _ => rfl
  · have q : oAt owner (nth m (runAt m (SetTable.bits h % (m + 1)) (SetTable.bits h)) K).j = none := k2
    rw [q] <;> rfl
theorem own_step {m : Nat} (hm : MaskK m) {done : List Int} {owner : Array (Option Nat)} (W : Own m done owner) (hl : done.length ≤ m) (h : Int) :
    ∃ j, SetTable.layClean.free m owner (SetTable.turns m) (SetTable.bits h % (m + 1)) (SetTable.bits h) = some j ∧ Own m (done ++ [h]) (owner.setIfInBounds j (some done.length)) := by
  obtain ⟨ps, hps, hin⟩ := W.ps
  obtain ⟨j0, h0, hn0⟩ := st_missing ps (m + 1) (by omega)
  have hj0 : oAt owner j0 = none := by
    cases z : oAt owner j0 with
    | none => rfl
    | some k => exact absurd (hin j0 (Nat.le_of_lt_succ h0) (by rw [z]; exact fun e => nomatch e)) hn0
  obtain ⟨K, e1, e2, e3⟩ := free_find' hm owner h (Nat.le_of_lt_succ h0) hj0
  have hjm : way m h K ≤ m := way_le'
  have hself := oAt_set_self (some done.length) (owner := owner) (j := way m h K) (by rw [W.sz]; omega)
  have mono : ∀ {i : Nat}, oAt owner i ≠ none → oAt (owner.setIfInBounds (way m h K) (some done.length)) i ≠ none := fun {i} hi => by
    by_cases c : i = way m h K
    · rw [c, hself]
      exact fun e => nomatch e
    · rw [oAt_set_ne _ c]
      exact hi
  refine ⟨way m h K, e1, by rw [Array.size_setIfInBounds]; exact W.sz, fun j k hj e => ?_, fun k hk => ?_, way m h K :: ps, by rw [List.length_cons, List.length_append, hps] <;> rfl, fun j hj e => ?_⟩
  · by_cases c : j = way m h K
    · rw [c, hself] at e
      cases e
      exact ⟨h, K, by simp, c.symm, fun k' hk' => mono (e3 k' hk')⟩
    · rw [oAt_set_ne _ c] at e
      obtain ⟨h', K', a1, a2, a3⟩ := W.at_ j k hj e
      exact ⟨h', K', by rw [List.getElem?_append_left (List.getElem?_eq_some_iff.mp a1).1]; exact a1, a2, fun k' hk' => mono (a3 k' hk')⟩
  · by_cases c : k < done.length
    · obtain ⟨j, hj, e⟩ := W.all k c
      exact ⟨j, hj, by rw [oAt_set_ne _ (fun z => by rw [z, e2] at e; cases e)]; exact e⟩
    · have ek : k = done.length := by
        rw [List.length_append, List.length_singleton] at hk
        omega
      rw [ek]
      exact ⟨way m h K, hjm, hself⟩
  · by_cases c : j = way m h K
    · rw [c]
      exact List.mem_cons_self
    · rw [oAt_set_ne _ c] at e
      exact List.mem_cons_of_mem _ (hin j hj e)
theorem fold_ok' {m : Nat} (hm : MaskK m) : ∀ (rest done : List Int) (owner : Array (Option Nat)), Own m done owner → done.length + rest.length ≤ m →
    ∃ owner', rest.foldl (stepF m) (some (owner, done.length)) = some (owner', (done ++ rest).length) ∧ Own m (done ++ rest) owner'
  | [], done, owner, W, _ => ⟨owner, by rw [List.append_nil] <;> rfl, by rw [List.append_nil]; exact W⟩
  | h :: rest, done, owner, W, hl => by
    rw [List.length_cons] at hl
    obtain ⟨j, e, W'⟩ := own_step hm W (by omega) h
    have hl' : (done ++ [h]).length = done.length + 1 := by rw [List.length_append] <;> rfl
    obtain ⟨owner', f, W2⟩ := fold_ok' hm rest (done ++ [h]) _ W' (by rw [hl']; omega)
    have ea : done ++ [h] ++ rest = done ++ h :: rest := by rw [List.append_assoc] <;> rfl
    rw [ea, hl'] at f
    rw [ea] at W2
    refine ⟨owner', ?_, W2⟩
    rw [List.foldl_cons, stepF_some e]
    exact f
theorem relaid_ok' (t : SetTable) {hs : Array Int} {wanted M : Nat} (hw : SetTable.sizeAbove wanted - 1 = M) (hM : MaskK M) (hn : hs.size ≤ M) :
    ∃ t' order, t.relaid hs wanted = some (t', order) ∧ order.toList.Perm (List.range hs.size) ∧ TabK t' (order.toList.map fun i => hs.getD i 0) ∧ t'.mask = M ∧ t'.led = t.led ∧ t'.plain = t.plain ∧ t'.dummies = #[] := by
  obtain ⟨owner, f, W⟩ := fold_ok' hM hs.toList [] _ (Own.init M) (by rw [Array.length_toList]; show 0 + hs.size ≤ M; omega)
  rw [List.nil_append] at W
  have e : SetTable.layClean M hs = some owner := by
    rw [layClean_eq]
    have f' : hs.toList.foldl (stepF M) (some (Array.replicate (M + 1) none, 0)) = some (owner, ([] ++ hs.toList).length) := f
    rw [f'] <;> rfl
  have hr : t.relaid hs wanted = some (tabOf t M owner, ((liveOf M owner).map (·.2)).toArray) := by
    rw [relaid_eq, hw, e] <;> rfl
  have ris := ris_live (fun j => owner.getD j none) (List.range (M + 1)) List.pairwise_lt_range
  have r1 : Ris ((liveOf M owner).map (·.1)) := ris.1
  have r2 : ∀ x ∈ (liveOf M owner).map (·.1), x ∈ List.range (M + 1) := ris.2
  have nd : ((liveOf M owner).map (·.1)).Nodup := List.Pairwise.imp (fun h => Nat.ne_of_lt h) r1
  have hlen : (liveOf M owner).length = hs.size := by
    obtain ⟨ps, p1, p2⟩ := W.ps
    have a := nat_nodup_len ((liveOf M owner).map (·.1)) ps nd fun x hx => by
      obtain ⟨⟨y, k⟩, hq, rfl⟩ := List.mem_map.mp hx
      obtain ⟨b1, b2⟩ := (mem_live W.sz).1 hq
      exact p2 y b1 (by rw [b2]; exact fun z => nomatch z)
    have b := nat_nodup_len (List.range hs.size) ((liveOf M owner).map (·.2)) List.nodup_range fun k hk => by
      obtain ⟨j, b1, b2⟩ := W.all k (by rw [Array.length_toList]; exact List.mem_range.mp hk)
      exact List.mem_map.mpr ⟨(j, k), (mem_live W.sz).2 ⟨b1, b2⟩, rfl⟩
    rw [List.length_map, p1] at a
    rw [List.length_map, List.length_range] at b
    have hz : hs.toList.length = hs.size := rfl
    omega
  refine ⟨tabOf t M owner, ((liveOf M owner).map (·.2)).toArray, hr, ?_, ⟨r1, rfl, ?_, hM, fun x hx => ?_, fun i h j h1 h2 => ?_⟩, rfl, rfl, rfl, rfl⟩
  · refine perm_range hs.size _ (by show ((liveOf M owner).map (·.2)).length = hs.size; rw [List.length_map]; exact hlen) fun k hk => ?_
    obtain ⟨j, b1, b2⟩ := W.all k (by rw [Array.length_toList]; exact hk)
    exact List.mem_map.mpr ⟨(j, k), (mem_live W.sz).2 ⟨b1, b2⟩, rfl⟩
  · show ((liveOf M owner).map (·.1)).toArray.size = (((liveOf M owner).map (·.2)).map fun i => hs.getD i 0).length
    rw [List.size_toArray, List.length_map, List.length_map, List.length_map]
  · exact Nat.le_of_lt_succ (List.mem_range.mp (r2 x hx))
  · have h1' : (((liveOf M owner).map (·.2)).map fun i => hs.getD i 0)[i]? = some h := h1
    have h2' : ((liveOf M owner).map (·.1))[i]? = some j := h2
    rw [List.getElem?_map, List.getElem?_map] at h1'
    rw [List.getElem?_map] at h2'
    cases hq : (liveOf M owner)[i]? with
    | none =>
      rw [hq] at h2'
      cases h2'
    | some q =>
      obtain ⟨y, k⟩ := q
      rw [hq] at h1' h2'
      have ej : y = j := Option.some.inj h2'
      have eh : hs.getD k 0 = h := Option.some.inj h1'
      subst ej
      obtain ⟨b1, b2⟩ := (mem_live W.sz).1 (List.mem_of_getElem? hq)
      obtain ⟨h0, K, a1, a2, a3⟩ := W.at_ y k b1 b2
      have e0 : hs.getD k 0 = h0 := by
        rw [Array.getD_eq_getD_getElem?, ← Array.getElem?_toList, a1] <;> rfl
      have ehh : h0 = h := e0.symm.trans eh
      subst ehh
      refine ⟨K, a2, fun k' hk' => ?_⟩
      show way M h0 k' ∈ (liveOf M owner).map (·.1)
      cases z : oAt owner (way M h0 k') with
      | none => exact absurd z (a3 k' hk')
      | some k2 => exact List.mem_map.mpr ⟨(way M h0 k', k2), (mem_live W.sz).2 ⟨way_le', z⟩, rfl⟩
/-- the size of a table for more than n -/
theorem sizeAbove_go (n : Nat) : ∀ (f k : Nat), 3 ≤ k → n < 2 ^ (f + k) → (2 ^ k ≤ 2 * n ∨ k = 3) → ∃ j, 3 ≤ j ∧ SetTable.sizeAbove.go n f (2 ^ k) = 2 ^ j ∧ n < 2 ^ j ∧ (2 ^ j ≤ 2 * n ∨ j = 3)
  | 0, k, h3, h, h2 => ⟨k, h3, rfl, by simpa using h, h2⟩
  | f + 1, k, h3, h, h2 => by
    show ∃ j, 3 ≤ j ∧ (if 2 ^ k ≤ n then SetTable.sizeAbove.go n f (2 ^ k * 2) else 2 ^ k) = 2 ^ j ∧ _
    by_cases c : 2 ^ k ≤ n
    · rw [if_pos c, ← Nat.pow_succ]
      exact sizeAbove_go n f (k + 1) (by omega) (by rw [show f + (k + 1) = f + 1 + k by omega]; exact h) (.inl (by rw [Nat.pow_succ]; omega))
    · rw [if_neg c]
      exact ⟨k, h3, rfl, by omega, h2⟩
theorem sizeAbove_ok {n : Nat} (h : n < 2 ^ 60) : MaskK (SetTable.sizeAbove n - 1) ∧ n < SetTable.sizeAbove n ∧ SetTable.sizeAbove n ≤ 2 * n + 8 := by
  obtain ⟨j, h3, e, hn, h2⟩ := sizeAbove_go n 64 3 (Nat.le_refl 3) (Nat.lt_of_lt_of_le h (Nat.pow_le_pow_right (by decide) (by decide))) (.inr rfl)
  have e' : SetTable.sizeAbove n = 2 ^ j := e
  rw [e']
  have hp := Nat.two_pow_pos j
  refine ⟨⟨j, h3, by omega⟩, hn, ?_⟩
  rcases h2 with z | z
  · omega
  · subst z
    omega
end MP
-- RS2
/-! Sets of rows (tuples of None and of such tuples), at the model's exactness. -/
namespace MP
open PySem PySem.Spec PyProof.Rows L2
/-! ### keys -/
mutual
/-- no text within -/
def calmK : NestedKey → Bool
  | .none => true
  | .num _ => true
  | .text _ => false
  | .tup ks => calmKs ks
def calmKs : List NestedKey → Bool
  | [] => true
  | k :: ks => calmK k && calmKs ks
end
/-- at a in h stands the tuple k, a key by value -/
structure IsR (h : Heap) (k : NestedKey) (a : Addr) : Prop where
  is : NestedIs h k (.ref a)
  dp : k.depth ≤ 8
  calm : calmK k = true
abbrev kh (w : World) (k : NestedKey) : Int := k.hash w
theorem IsR.keep {h h' : Heap} {k : NestedKey} {b : Addr} (x : IsR h k b) (hk : ∀ c o, h.get? c = some o → h'.get? c = some o) : IsR h' k b :=
  ⟨NestedIs.at (fun a o _ _ e _ => hk a o e) _ _ x.is, x.dp, x.calm⟩
theorem IsR.same {h h' : Heap} {k : NestedKey} {a b : Addr} {o : Obj} {es : Array (Int × Value)} {ep : Nat} {t : SetTable} (x : IsR h k b) (ho : h.get? a = some o) (hd : o.data = .set es ep t) (hs : Heap.SameBut a h h') : IsR h' k b := by
  refine ⟨NestedIs.at (fun c oc vs n hc hcd => (hs.2 c fun e => ?_).trans hc) _ _ x.is, x.dp, x.calm⟩
  subst e
  rw [ho] at hc
  cases hc
  rw [hd] at hcd
  cases hcd
section
variable {P : Program} {w : World} {A : Around} {E : Value → Shared → Prop} {s : Shared}
theorem IsR.typeIs {k : NestedKey} {b : Addr} (x : IsR s.heap k b) : s.TypeIs (.ref b) "tuple" := by
  obtain ⟨x, _⟩ := x
  cases x with
  | tup h1 h2 _ _ => exact ⟨_, h1, h2⟩
theorem IsR.nk {h : Heap} {k : NestedKey} {b : Addr} (x : IsR h k b) : (nestedKind P w).is h k b := ⟨x.is, x.dp⟩
/-- asked v, no class statement is behind it -/
theorem ofAClass_key : ∀ (n : Nat) (k : NestedKey) (v : Value) (A : Around) (E : Value → Shared → Prop) (s : Shared) (Q : Bool → Shared → Prop), NestedIs s.heap k v → k.depth ≤ n → Q false s → wpAny (model P w) A (ofAClassStatement n v) Q E s
  | n, .none, _, A, E, s, Q, x, _, h => by cases x; cases n <;> exact wpAny_pure h
  | n, .num _, _, A, E, s, Q, x, _, h => by cases x <;> cases n <;> exact wpAny_pure h
  | n, .text _, _, A, E, s, Q, x, _, h => by cases x; cases n <;> exact wpAny_pure h
  | 0, .tup ks, _, A, E, s, Q, x, hd, h => by simp [NestedKey.depth] at hd
  | n + 1, .tup ks, _, A, E, s, Q, x, hd, h => by
    cases x with
    | tup h1 h2 h3 h4 =>
      rename_i a o vs m
      simp only [NestedKey.depth] at hd
      have hT : s.TypeIs (.ref a) "tuple" := ⟨_, h1, h2⟩
      unfold ofAClassStatement
      refine wpAny_bind (wpAny_typeOf hT ?_)
      dsimp only
      have e : (("tuple" : String) == "tuple") = true := by decide
      simp only [e, if_true, Bool.not_true, Bool.false_eq_true, if_false]
      try refine wpAny_bind (wpAny_pure ?_)
      try simp only [Bool.not_true, Bool.false_eq_true, if_false]
      show wpAny _ _ (seqItems? (.ref a) >>= _) _ _ s
      refine wpAny_bind (wpAny_seqItems h1 h3 ?_)
      dsimp only
      refine wpAny_bind ?_
      show wpAny _ _ (forIn vs _ _) _ _ s
      rw [← Array.forIn_toList]
      refine wpAny_forIn_list _ (fun rest r s' => r.1 = none ∧ s' = s ∧ ∃ ks' : List NestedKey, NestedAll s.heap ks' rest ∧ NestedKey.depthAll ks' ≤ n) _ ?_ ?_ _ _ ⟨rfl, rfl, ks, h4, by omega⟩
      · rintro v rest r s' ⟨hr, rfl, ks', hks, hdd⟩
        cases hks with
        | cons q1 q2 =>
          rename_i k1 ks1
          simp only [NestedKey.depthAll] at hdd
          refine wpAny_bind (ofAClass_key n k1 v A E s' _ q1 (by omega) ?_)
          simp only [Bool.false_eq_true, if_false]
          refine wpAny_pure ⟨rfl, rfl, ks1, q2, by omega⟩
      · rintro ⟨r1, r2⟩ s' ⟨hr, rfl, _⟩
        simp only at hr
        subst hr
        exact wpAny_pure h
/-- its hash is one by value -/
theorem hashBy_key : ∀ (n : Nat) (k : NestedKey) (v : Value) (A : Around) (E : Value → Shared → Prop) (s : Shared) (Q : Bool → Shared → Prop), NestedIs s.heap k v → k.depth ≤ n → calmK k = true → Q true s → wpAny (model P w) A (hashByValue n v) Q E s
  | n, .none, _, A, E, s, Q, x, _, _, h => by cases x; cases n <;> exact wpAny_pure h
  | n, .num _, _, A, E, s, Q, x, _, _, h => by cases x <;> cases n <;> exact wpAny_pure h
  | n, .text _, _, A, E, s, Q, x, _, c, h => by cases c
  | 0, .tup ks, _, A, E, s, Q, x, hd, c, h => by simp [NestedKey.depth] at hd
  | n + 1, .tup ks, _, A, E, s, Q, x, hd, c, h => by
    cases x with
    | tup h1 h2 h3 h4 =>
      rename_i a o vs m
      simp only [NestedKey.depth] at hd
      have hT : s.TypeIs (.ref a) "tuple" := ⟨_, h1, h2⟩
      unfold hashByValue
      refine wpAny_bind (wpAny_specialOf hT F.slot_tuple_hash.lookup ?_)
      show wpAny _ _ (seqItems? (.ref a) >>= _) _ _ s
      refine wpAny_bind (wpAny_seqItems h1 h3 ?_)
      refine wpAny_bind ?_
      show wpAny _ _ (forIn vs _ _) _ _ s
      rw [← Array.forIn_toList]
      refine wpAny_forIn_list _ (fun rest r s' => r.1 = none ∧ s' = s ∧ ∃ ks' : List NestedKey, NestedAll s.heap ks' rest ∧ NestedKey.depthAll ks' ≤ n ∧ calmKs ks' = true) _ ?_ ?_ _ _ ⟨rfl, rfl, ks, h4, by omega, by simpa [calmK] using c⟩
      · rintro v rest r s' ⟨hr, rfl, ks', hks, hdd, hc⟩
        cases hks with
        | cons q1 q2 =>
          rename_i k1 ks1
          simp only [NestedKey.depthAll] at hdd
          simp only [calmKs, Bool.and_eq_true] at hc
          refine wpAny_bind (hashBy_key n k1 v A E s' _ q1 (by omega) hc.1 ?_)
          simp only [Bool.not_true, Bool.false_eq_true, if_false]
          refine wpAny_pure ⟨rfl, rfl, ks1, q2, by omega, hc.2⟩
      · rintro ⟨r1, r2⟩ s' ⟨hr, rfl, _⟩
        simp only at hr
        subst hr
        exact wpAny_pure h
theorem seen_key {k : NestedKey} {b : Addr} {Q : Bool → Shared → Prop} (hk : IsR s.heap k b) {ys : List Value} (hy : ∀ y ∈ ys, ∃ k' c, y = Value.ref c ∧ IsR s.heap k' c) (h : Q false s) :
    wpAny (model P w) A (searchCouldBeSeen (.ref b) ys) Q E s := by
  unfold searchCouldBeSeen
  refine wpAny_bind ?_
  refine wpAny_forIn_list _ (fun rest r s' => r.1 = none ∧ s' = s ∧ ∀ y ∈ rest, ∃ k' c, y = Value.ref c ∧ IsR s.heap k' c) _ ?_ ?_ _ _ ⟨rfl, rfl, hy⟩
  · rintro v rest r s' ⟨hr, rfl, hall⟩
    obtain ⟨k', c, rfl, hc⟩ := hall v List.mem_cons_self
    have rest' : ∀ y ∈ rest, ∃ k' c, y = Value.ref c ∧ IsR s'.heap k' c := fun u hu' => hall u (List.mem_cons_of_mem _ hu')
    dsimp only
    by_cases hv : (b == c || (carriedByValue (.ref b) && carriedByValue (.ref c))) = true
    · refine wp_if_pos hv ?_
      exact wpAny_pure ⟨rfl, rfl, rest'⟩
    · refine wp_if_neg hv ?_
      refine wpAny_bind ((nestedKind P w).quiet hk.nk ?_)
      simp only [Bool.not_true, Bool.false_eq_true, if_false]
      refine wpAny_bind ((nestedKind P w).quiet hc.nk ?_)
      simp only [Bool.not_true, Bool.false_eq_true, if_false]
      refine wpAny_bind (ofAClass_key 8 k _ A E _ _ hk.is hk.dp ?_)
      simp only [Bool.false_eq_true, if_false]
      refine wpAny_bind (ofAClass_key 8 k' _ A E _ _ hc.is hc.dp ?_)
      simp only [Bool.false_eq_true, if_false]
      exact wpAny_pure ⟨rfl, rfl, rest'⟩
  · rintro ⟨r1, r2⟩ s' ⟨hr, rfl, _⟩
    simp only at hr
    subst hr
    exact wpAny_pure h
end
end MP
-- RS3
/-! Sets of rows: searching, adding. -/
namespace MP
open PySem PySem.Spec PyProof.Rows L2
abbrev RK := Addr × NestedKey
def entR (w : World) (L : List RK) : List (Int × Value) := L.map fun p => (kh w p.2, Value.ref p.1)
/-- the masks that come, by the elements -/
def MaskF (m : Nat) : Prop := m = 7 ∨ m = 31 ∨ m = 127 ∨ m = 511 ∨ m = 2047 ∨ m = 8191
theorem MaskF.k {m : Nat} (h : MaskF m) : MaskK m := by
  rcases h with e | e | e | e | e | e
  · exact ⟨3, by decide, by omega⟩
  · exact ⟨5, by decide, by omega⟩
  · exact ⟨7, by decide, by omega⟩
  · exact ⟨9, by decide, by omega⟩
  · exact ⟨11, by decide, by omega⟩
  · exact ⟨13, by decide, by omega⟩
structure SetR (w : World) (h : Heap) (a : Addr) (L : List RK) (es : Array (Int × Value)) (ep : Nat) (t : SetTable) : Prop where
  ob : ∃ o, h.get? a = some o ∧ o.ExactSet ∧ o.data = .set es ep t
  rows : es.toList = entR w L
  tab : TabK t (L.map fun p => kh w p.2)
  msk : MaskF t.mask
  nd : (L.map (·.2)).Nodup
  key : ∀ p ∈ L, IsR h p.2 p.1
  plain : t.plain = true
  led : w.params.followText "set-order" = true ∨ t.led = true
  room : L.length * 5 < t.mask * 3
  few : L.length ≤ 4096
section
variable {P : Program} {w : World} {A : Around} {E : Value → Shared → Prop} {s : Shared}
variable {a : Addr} {L : List RK} {es : Array (Int × Value)} {ep : Nat} {t : SetTable}
theorem ent_size (h : es.toList = entR w L) : es.size = L.length := by
  have h := congrArg List.length h
  unfold entR at h
  rw [Array.length_toList, List.length_map] at h
  exact h
theorem SetR.fits {h : Heap} (R : SetR w h a L es ep t) : t.fits es.size = true := by
  have h1 := R.tab.sz
  rw [List.length_map] at h1
  have h2 := ent_size R.rows
  have h3 := R.room
  unfold SetTable.fits SetTable.fill
  rw [R.tab.dm, Bool.and_eq_true, beq_iff_eq, decide_eq_true_eq]
  show t.place.size = es.size ∧ t.place.size + 0 ≤ t.mask
  omega
theorem SetR.entry {h : Heap} (R : SetR w h a L es ep t) {i : Nat} {p : RK} (h : L[i]? = some p) : es[i]? = some (kh w p.2, Value.ref p.1) := by
  rw [← Array.getElem?_toList, R.rows]
  unfold entR
  rw [List.getElem?_map, h] <;> rfl
theorem SetR.gw {h : Heap} (R : SetR w h a L es ep t) : ¬ t.gaveWay = true := by
  unfold SetTable.gaveWay
  rw [mask_odd' R.tab.mok]
  decide
/-- THE SEARCH: from the c-th step of the way on -/
theorem srch_from (R : SetR w s.heap a L es ep t) {x : Addr} {k : NestedKey} (hx : IsR s.heap k x) (hu : A.units + 8 < cLine) {ad : Bool} {K : Nat} (hKf : K < 10 * SetTable.turns t.mask)
    (hK : way t.mask (kh w k) K ∉ t.place.toList) (hKb : ∀ c, c < K → way t.mask (kh w k) c ∈ t.place.toList) {Q : SetFound → Shared → Prop}
    (hin : k ∈ L.map (·.2) → ∀ i, (ad = false → i ≠ none) → Q (.there i) s) (hout : k ∉ L.map (·.2) → Q (.free (way t.mask (kh w k) K) false) s) :
    ∀ (f c : Nat) (stand : Option SetTable.Probe), stand.getD (t.probeStart (kh w k)) = nth t.mask (runAt t.mask (SetTable.bits (kh w k) % (t.mask + 1)) (SetTable.bits (kh w k))) c → c ≤ K → K - c < f →
      (∀ (i : Nat) p, L[i]? = some p → p.2 = k → ∃ c', c ≤ c' ∧ c' < K ∧ t.place.toList[i]? = some (way t.mask (kh w k) c')) →
      wpAny (model P w) A (setSearchFrom a (.ref x) (kh w k) ad f stand) Q E s
  | 0, c, stand, _, _, hf, _ => absurd hf (Nat.not_lt_zero _)
  | f + 1, c, stand, hst, hc, hf, hre => by
    obtain ⟨o, ho, hex, hd⟩ := R.ob
    rw [setSearchFrom_succ]
    refine wpAny_bind (wpAny_setState_of ho hd R.fits ?_)
    dsimp only
    refine wp_if_neg R.gw ?_
    try refine wpAny_bind (wpAny_pure ?_)
    have hnd : (nth t.mask (runAt t.mask (SetTable.bits (kh w k) % (t.mask + 1)) (SetTable.bits (kh w k))) c).dummy = none := by
      have key : ∀ (n : Nat) (p : SetTable.Probe), p.dummy = none → (nth t.mask p n).dummy = none := by
        intro n
        induction n with
        | zero => intro p h; exact h
        | succ n ih =>
          intro p h
          refine ih (adv t.mask p) ?_
          unfold adv
          split <;> exact h
      exact key c _ rfl
    have sh : ∀ q, nth t.mask (nth t.mask (runAt t.mask (SetTable.bits (kh w k) % (t.mask + 1)) (SetTable.bits (kh w k))) c) q = nth t.mask (runAt t.mask (SetTable.bits (kh w k) % (t.mask + 1)) (SetTable.bits (kh w k))) (c + q) := fun q => (nth_add t.mask c _ q).symm
    have e1 : ∀ q, (nth t.mask (nth t.mask (runAt t.mask (SetTable.bits (kh w k) % (t.mask + 1)) (SetTable.bits (kh w k))) c) q).j = way t.mask (kh w k) (c + q) := fun q => congrArg SetTable.Probe.j (sh q)
    have spec := go_spec t R.tab.ris R.tab.dm (fun i => (es[i]?.map (·.1)).getD 0) (kh w k) (10 * SetTable.turns t.mask) (K - c) _ hnd (by omega)
      (fun q hq => by rw [e1]; exact hKb (c + q) (by omega)) (by rw [e1, show c + (K - c) = K by omega]; exact hK)
    have hashAt : ∀ (i : Nat) p, L[i]? = some p → (fun i => (es[i]?.map (·.1)).getD 0) i = kh w p.2 := fun i p hp => by
      show (es[i]?.map (·.1)).getD 0 = _
      rw [R.entry hp] <;> rfl
    rcases spec with ⟨q, i, hq, hi, hh, hno, hpr⟩ | ⟨hno, hpr⟩
    · have hpr' : t.probe (fun i => (es[i]?.map (·.1)).getD 0) (kh w k) (stand.getD (t.probeStart (kh w k))) = some (.candidate (way t.mask (kh w k) (c + q)) i (nth t.mask (runAt t.mask (SetTable.bits (kh w k) % (t.mask + 1)) (SetTable.bits (kh w k))) (c + (q + 1)))) := by
        rw [hst, ← e1, ← sh]
        exact hpr
      rw [hpr']
      dsimp only
      rw [e1] at hi
      have hil : i < L.length := by
        have h1 : i < t.place.toList.length := (List.getElem?_eq_some_iff.mp hi).1
        have h2 := R.tab.sz
        rw [List.length_map] at h2
        rw [Array.length_toList] at h1
        omega
      have hp : L[i]? = some L[i] := List.getElem?_eq_getElem hil
      generalize hpe : L[i] = p at hp
      have hmem : p ∈ L := List.mem_of_getElem? hp
      have hpt := R.key p hmem
      have rest : wpAny (model P w) A (searchRest a (.ref x) (kh w k) ad f es t (way t.mask (kh w k) (c + q)) i (nth t.mask (runAt t.mask (SetTable.bits (kh w k) % (t.mask + 1)) (SetTable.bits (kh w k))) (c + (q + 1)))) Q E s := by
        unfold searchRest
        rw [R.entry hp]
        dsimp only
        refine wpAny_bind (wpAny_holding ((nestedKind P w).eqBool hu hpt.nk hx.nk ?_))
        refine wpAny_bind (wpAny_setState_of ho hd R.fits ?_)
        dsimp only
        have hsl : t.slot (way t.mask (kh w k) (c + q)) = .live i := slot_live R.tab.ris hi
        by_cases hkk : p.2 = k
        · have hm : k ∈ L.map (·.2) := List.mem_map.mpr ⟨p, hmem, hkk⟩
          cases ad with
          | true =>
            refine wp_if_pos (by simp [hkk]) ?_
            exact wpAny_pure (hin hm none fun z => by cases z)
          | false =>
            refine wp_if_neg (by simp) ?_
            try refine wpAny_bind (wpAny_pure ?_)
            rw [sameMem]
            dsimp only
            simp only [if_true, hsl, R.entry hp]
            refine wpAny_bind (wpAny_isSame_ref_self (wpAny_bind (wpAny_pure ?_)))
            simp only [if_true]
            refine wp_if_pos (by simp [hkk]) ?_
            exact wpAny_pure (hin hm (some i) fun _ z => by cases z)
        · refine wp_if_neg (by simp [hkk]) ?_
          try refine wpAny_bind (wpAny_pure ?_)
          rw [sameMem]
          dsimp only
          simp only [if_true, hsl, R.entry hp]
          refine wpAny_bind (wpAny_isSame_ref_self (wpAny_bind (wpAny_pure ?_)))
          simp only [if_true]
          refine wp_if_neg (by simp [hkk]) ?_
          refine srch_from R hx hu hKf hK hKb hin hout f (c + (q + 1)) _ rfl (by omega) (by omega) fun i0 p0 h0 hk0 => ?_
          obtain ⟨c', a1, a2, a3⟩ := hre i0 p0 h0 hk0
          refine ⟨c', ?_, a2, a3⟩
          rcases Nat.lt_trichotomy c' (c + q) with z | z | z
          · exfalso
            refine hno (c' - c) i0 (by omega) (by rw [e1, show c + (c' - c) = c' by omega]; exact a3) ?_
            exact (hashAt i0 p0 h0).trans (congrArg (kh w) hk0)
          · exfalso
            rw [z] at a3
            have s0 := slot_live R.tab.ris a3
            rw [hsl] at s0
            injection s0 with s0
            rw [← s0, hp] at h0
            exact hkk ((congrArg Prod.snd (Option.some.inj h0)).trans hk0)
          · omega
      by_cases hl : t.led = true
      · refine wp_if_neg (by simp [hl]) ?_
        try refine wpAny_bind (wpAny_pure ?_)
        exact rest
      · refine wp_if_pos (by simp [hl]) ?_
        refine wpAny_bind (seen_key hx (fun y hy => ?_) ?_)
        · obtain ⟨e, he, ee⟩ := List.mem_map.mp hy
          have he1 : e ∈ es ∧ e.1 = kh w k := by simpa using he
          have he2 : e ∈ es.toList := by simpa using he1.1
          rw [R.rows] at he2
          obtain ⟨p2, hp2, e2⟩ := List.mem_map.mp he2
          exact ⟨p2.2, p2.1, by rw [← ee, ← e2], R.key p2 hp2⟩
        · refine wp_if_neg (by decide) ?_
          try refine wpAny_bind (wpAny_pure ?_)
          exact rest
    · have hpr' : t.probe (fun i => (es[i]?.map (·.1)).getD 0) (kh w k) (stand.getD (t.probeStart (kh w k))) = some (.empty (way t.mask (kh w k) K) none) := by
        have e2 : way t.mask (kh w k) K = (nth t.mask (nth t.mask (runAt t.mask (SetTable.bits (kh w k) % (t.mask + 1)) (SetTable.bits (kh w k))) c) (K - c)).j := by
          rw [e1, show c + (K - c) = K by omega]
        rw [hst, e2]
        exact hpr
      rw [hpr']
      dsimp only
      refine wpAny_pure (hout fun hm => ?_)
      obtain ⟨p0, h0, hk0⟩ := List.mem_map.mp hm
      obtain ⟨i0, hi0, e0⟩ := List.getElem_of_mem h0
      have h00 : L[i0]? = some p0 := by rw [List.getElem?_eq_getElem hi0, e0]
      obtain ⟨c', a1, a2, a3⟩ := hre i0 p0 h00 hk0
      refine hno (c' - c) i0 (by omega) (by rw [e1, show c + (c' - c) = c' by omega]; exact a3) ?_
      exact (hashAt i0 p0 h00).trans (congrArg (kh w) hk0)
theorem srch_at (R : SetR w s.heap a L es ep t) {x : Addr} {k : NestedKey} (hx : IsR s.heap k x) (hu : A.units + 8 < cLine) {ad : Bool} {Q : SetFound → Shared → Prop}
    (hin : k ∈ L.map (·.2) → ∀ i, (ad = false → i ≠ none) → Q (.there i) s)
    (hout : ∀ K, k ∉ L.map (·.2) → way t.mask (kh w k) K ∉ t.place.toList → (∀ c, c < K → way t.mask (kh w k) c ∈ t.place.toList) → Q (.free (way t.mask (kh w k) K) false) s) :
    wpAny (model P w) A (setSearch a (.ref x) (kh w k) ad) Q E s := by
  have hroom := R.room
  obtain ⟨K, hKf, hK, hKb⟩ := R.tab.first (by rw [List.length_map]; omega) (kh w k)
  have hbig : K < 100000 := by
    have : 10 * SetTable.turns t.mask ≤ 82060 := by
      unfold SetTable.turns
      rcases R.msk with e | e | e | e | e | e <;> omega
    omega
  unfold setSearch
  refine srch_from R hx hu hKf hK hKb hin (fun hn => hout K hn hK hKb) 100000 0 none rfl (Nat.zero_le _) (by omega) fun i p hp hk => ?_
  have hi : (L.map fun p => kh w p.2)[i]? = some (kh w k) := by rw [List.getElem?_map, hp, ← hk] <;> rfl
  have hil : i < t.place.toList.length := by
    have h1 : i < L.length := (List.getElem?_eq_some_iff.mp hp).1
    have h2 := R.tab.sz
    rw [List.length_map] at h2
    rw [Array.length_toList]
    omega
  have hj := List.getElem?_eq_getElem hil
  obtain ⟨c, hc, e⟩ := R.tab.before hK hi hj
  exact ⟨c, Nat.zero_le _, hc, by rw [hj, e]⟩
/-- x in the set, by its hash -/
theorem find_at (R : SetR w s.heap a L es ep t) {x : Addr} {k : NestedKey} (hx : IsR s.heap k x) (hu : A.units + 8 < cLine) {Q : Option Nat → Shared → Prop}
    (hin : k ∈ L.map (·.2) → ∀ i, Q (some i) s) (hout : k ∉ L.map (·.2) → Q none s) : wpAny (model P w) A (setFind a (.ref x) (kh w k)) Q E s := by
  obtain ⟨o, ho, hex, hd⟩ := R.ob
  unfold setFind
  rw [show (100000 : Nat) = 99999 + 1 from rfl]
  unfold setFindIn
  refine wpAny_bind (wpAny_setState_of ho hd R.fits ?_)
  dsimp only
  refine wp_if_neg (by simp [byScan, Value.scannable]) ?_
  try refine wpAny_bind (wpAny_pure ?_)
  refine wpAny_bind (srch_at (ad := false) R hx hu (fun hm i hi => ?_) fun K hm _ _ => ?_)
  · dsimp only
    cases i with
    | none => exact absurd rfl (hi rfl)
    | some i => exact wpAny_pure (hin hm i)
  · dsimp only
    exact wpAny_pure (hout hm)
theorem ent_put (L : List RK) (p : Nat) (x : Addr) (k : NestedKey) : entR w (L.take p ++ (x, k) :: L.drop p) = (entR w L).take p ++ (kh w k, Value.ref x) :: (entR w L).drop p := by
  unfold entR
  rw [List.map_append, List.map_cons, List.map_take, List.map_drop]
theorem order_ent (L : List RK) (es : Array (Int × Value)) (order : Array Nat) (hr : es.toList = entR w L) (hp : order.toList.Perm (List.range L.length)) :
    ∃ L2, (order.filterMap (es[·]?)).toList = entR w L2 ∧ L2.Perm L ∧ (L2.map fun p => kh w p.2) = order.toList.map fun i => (es.map (·.1)).getD i 0 := by
  have hsz : es.size = L.length := ent_size hr
  have ent : ∀ i (h : i < L.length), es[i]? = some (kh w (L[i]).2, Value.ref (L[i]).1) := fun i h => by
    rw [← Array.getElem?_toList, hr]
    unfold entR
    rw [List.getElem?_map, List.getElem?_eq_getElem h] <;> rfl
  have key : ∀ l : List Nat, (∀ i ∈ l, i < L.length) → ∃ L2 : List RK, l.filterMap (fun i => es[i]?) = entR w L2 ∧ L2 = l.filterMap (fun i => L[i]?) ∧ (L2.map fun p => kh w p.2) = l.map fun i => (es.map (·.1)).getD i 0 := by
    intro l
    induction l with
    | nil => intro _; exact ⟨[], rfl, rfl, rfl⟩
    | cons i l ih =>
      intro hl
      have hi := hl i List.mem_cons_self
      obtain ⟨L2, e1, e2, e3⟩ := ih fun j hj => hl j (List.mem_cons_of_mem _ hj)
      refine ⟨L[i] :: L2, ?_, ?_, ?_⟩
      · rw [List.filterMap_cons_some (ent i hi), e1] <;> rfl
      · rw [List.filterMap_cons_some (List.getElem?_eq_getElem hi), e2]
      · rw [List.map_cons, List.map_cons, e3]
        have e4 : (es.map (·.1)).getD i 0 = kh w (L[i]).2 := by
          have e5 : (es.map (·.1))[i]? = some (kh w (L[i]).2) := by rw [Array.getElem?_map, ent i hi] <;> rfl
          simp [Array.getD_eq_getD_getElem?, e5]
        rw [e4]
  obtain ⟨L2, e1, e2, e3⟩ := key order.toList fun i hi => List.mem_range.mp (hp.mem_iff.mp hi)
  refine ⟨L2, by first | (rw [Array.toList_filterMap]; exact e1) | simpa using e1, ?_, e3⟩
  have h1 : L2.Perm ((List.range L.length).filterMap fun i => L[i]?) := by
    rw [e2]
    exact hp.filterMap _
  have h2 : (List.range L.length).filterMap (fun i => L[i]?) = L := by
    have key2 : ∀ n, n ≤ L.length → (List.range n).filterMap (fun i => L[i]?) = L.take n := by
      intro n
      induction n with
      | zero => intro _; rfl
      | succ n ih =>
        intro hn
        have hlt : n < L.length := hn
        rw [List.range_succ, List.filterMap_append, ih (Nat.le_of_lt hlt), List.take_succ, List.getElem?_eq_getElem hlt]
        rw [List.filterMap_cons_some (List.getElem?_eq_getElem hlt)] <;> rfl
    rw [key2 L.length (Nat.le_refl _), List.take_length]
  rw [h2] at h1
  exact h1
/-- the table laid anew, larger -/
theorem rly_at {o : Obj} (ho : s.heap.get? a = some o) (hex : o.ExactSet) (hd : o.data = .set es ep t) (hrows : es.toList = entR w L) (hsz : t.place.size = es.size) (hdm : t.dummies = #[]) (hfl : es.size ≤ t.mask)
    (nd : (L.map (·.2)).Nodup) (key : ∀ p ∈ L, IsR s.heap p.2 p.1) (pl : t.plain = true) (ld : w.params.followText "set-order" = true ∨ t.led = true) (few : L.length ≤ 4096) {wanted M : Nat}
    (hw : SetTable.sizeAbove wanted - 1 = M) (hM : MaskF M) (hn : L.length * 5 < M * 3) {Q : Unit → Shared → Prop}
    (hQ : ∀ h' L' es' ep' t', Heap.SameBut a s.heap h' → SetR w h' a L' es' ep' t' → L'.Perm L → Q () { s with heap := h' }) : wpAny (model P w) A (setRelay a wanted) Q E s := by
  have hsl : es.size = L.length := ent_size hrows
  have hfits : t.fits es.size = true := by
    unfold SetTable.fits SetTable.fill
    rw [hdm, Bool.and_eq_true, beq_iff_eq, decide_eq_true_eq]
    show t.place.size = es.size ∧ t.place.size + 0 ≤ t.mask
    omega
  have hMb : M ≤ 8191 ∧ 7 ≤ M := by rcases hM with e | e | e | e | e | e <;> omega
  obtain ⟨t', order, e, hp, T, em, el, ep', ed⟩ := relaid_ok' t (hs := es.map (·.1)) (wanted := wanted) hw hM.k (by rw [Array.size_map, hsl]; omega)
  rw [Array.size_map, hsl] at hp
  obtain ⟨L2, r1, r2, r3⟩ := order_ent L es order hrows hp
  rw [← r3] at T
  have hs2 : (order.filterMap (es[·]?)).size = es.size := by
    rw [ent_size r1, r2.length_eq, hsl]
  rw [setRelay_eq]
  refine wpAny_bind (wpAny_setState_of ho hd hfits ?_)
  dsimp only
  refine wp_if_neg (by rw [sizeLine_eq]; omega) ?_
  try refine wpAny_bind (wpAny_pure ?_)
  rw [e]
  dsimp only
  refine wpAny_bind ?_
  refine wp_if_neg (by rw [hs2]; simp) ?_
  try refine wpAny_bind (wpAny_pure ?_)
  refine wpAny_pure ?_
  dsimp only
  refine wpAny_storeSet_of ho hd ?_ (by rw [hs2, hsl, sizeLine_eq]; omega)
  have sb : Heap.SameBut a s.heap (s.heap.update a (Obj.putSet (order.filterMap (es[·]?)) t')) := Heap.SameBut.update ..
  refine hQ _ L2 (order.filterMap (es[·]?)) (ep + 1) t' sb ?_ r2
  refine ⟨⟨_, store_at ho hd, ⟨hex.1, hex.2.1, hex.2.2⟩, rfl⟩, r1, T, by rw [em]; exact hM, ?_, fun p hpm => (key p (r2.mem_iff.mp hpm)).same ho hd sb, by rw [ep']; exact pl, by rw [el]; exact ld, ?_, by rw [r2.length_eq]; exact few⟩
  · exact (r2.map (·.2)).nodup_iff.mpr nd
  · rw [r2.length_eq, em]
    exact hn
theorem grow_masks {m n : Nat} (hm : MaskF m) (h1 : n * 5 < m * 3) (h2 : (n + 1) * 5 ≥ m * 3) (h3 : n + 1 ≤ 4096) : ∃ M, SetTable.sizeAbove (SetTable.grown (n + 1)) - 1 = M ∧ MaskF M ∧ (n + 1) * 5 < M * 3 := by
  rcases hm with e | e | e | e | e | e
  · have : n = 4 := by omega
    subst this
    exact ⟨31, by decide +kernel, .inr (.inl rfl), by decide⟩
  · have : n = 18 := by omega
    subst this
    exact ⟨127, by decide +kernel, .inr (.inr (.inl rfl)), by decide⟩
  · have : n = 76 := by omega
    subst this
    exact ⟨511, by decide +kernel, .inr (.inr (.inr (.inl rfl))), by decide⟩
  · have : n = 306 := by omega
    subst this
    exact ⟨2047, by decide +kernel, .inr (.inr (.inr (.inr (.inl rfl)))), by decide⟩
  · have : n = 1228 := by omega
    subst this
    exact ⟨8191, by decide +kernel, .inr (.inr (.inr (.inr (.inr rfl)))), by decide⟩
  · omega
theorem put_perm' {α : Type} (L : List α) (p : Nat) (x : α) : (L.take p ++ x :: L.drop p).Perm (x :: L) := by
  have h : (L.take p ++ x :: L.drop p).Perm (x :: (L.take p ++ L.drop p)) := List.perm_middle
  rw [List.take_append_drop] at h
  exact h
/-- ADDING -/
theorem addR_at (R : SetR w s.heap a L es ep t) {x : Addr} {k : NestedKey} (hx : IsR s.heap k x) (hu : A.units + 8 < cLine) (hfew : L.length + 1 ≤ 4096) {Q : Bool → Shared → Prop}
    (hQ : ∀ b h' L' es' ep' t', Heap.SameBut a s.heap h' → SetR w h' a L' es' ep' t' → (k ∈ L.map (·.2) → L' = L) → (k ∉ L.map (·.2) → L'.Perm ((x, k) :: L)) → Q b { s with heap := h' }) :
    wpAny (model P w) A (setAddHashed a (.ref x) (kh w k)) Q E s := by
  obtain ⟨o, ho, hex, hd⟩ := R.ob
  have hsl := ent_size R.rows
  have hroom := R.room
  unfold setAddHashed
  refine wpAny_holding ?_
  rw [show (100000 : Nat) = 99999 + 1 from rfl, setAddHashedIn_succ]
  refine wpAny_bind (wpAny_setState_of ho hd R.fits ?_)
  dsimp only
  refine wp_if_neg (by simp [byScan, Value.scannable]) ?_
  try refine wpAny_bind (wpAny_pure ?_)
  refine wpAny_bind (srch_at R hx hu (fun hm _ _ => ?_) fun K hm hK hb => ?_)
  · dsimp only
    exact wpAny_pure (hQ false s.heap L es ep t (Heap.SameBut.refl a s.heap) R (fun _ => rfl) fun z => absurd hm z)
  · dsimp only
    refine wpAny_bind (wpAny_setState_of ho hd R.fits ?_)
    dsimp only
    obtain ⟨q2, q3, q9⟩ := R.tab.put hK hb
    have q4 : (t.put (way t.mask (kh w k) K)).1.mask = t.mask := rfl
    have q5 : (t.put (way t.mask (kh w k) K)).1.led = t.led := rfl
    have q1 : (t.put (way t.mask (kh w k) K)).2 = SetTable.below t.place (way t.mask (kh w k) K) := rfl
    have hp1 : (t.put (way t.mask (kh w k) K)).1.plain = true := R.plain
    generalize hpt : t.put (way t.mask (kh w k) K) = pt at q1 q3 q4 q5 q9 hp1 ⊢
    obtain ⟨t1, p⟩ := pt
    dsimp only at q1 q3 q4 q5 q9 hp1 ⊢
    subst q1
    first
      | (refine wpAny_bind ?_; refine wp_if_pos hp1 ?_; refine hashBy_key 8 k _ A E _ _ hx.is hx.dp hx.calm ?_)
      | refine wp_if_pos hp1 (wpAny_bind (hashBy_key 8 k _ A E _ _ hx.is hx.dp hx.calm ?_))
    simp only [if_true]
    have hin : (SetTable.insertAt es (SetTable.below t.place (way t.mask (kh w k) K)) (kh w k, Value.ref x)).toList = entR w (L.take (SetTable.below t.place (way t.mask (kh w k) K)) ++ (x, k) :: L.drop (SetTable.below t.place (way t.mask (kh w k) K))) := by
      rw [SetTable.toList_insertAt, ent_put, R.rows]
    generalize hpp : SetTable.below t.place (way t.mask (kh w k) K) = p at q2 q3 hin ⊢
    have pm := put_perm' L p (x, k)
    have hlen : (L.take p ++ (x, k) :: L.drop p).length = L.length + 1 := pm.length_eq
    have hhs : (L.take p ++ (x, k) :: L.drop p).map (fun p => kh w p.2) = (L.map fun p => kh w p.2).take p ++ kh w k :: (L.map fun p => kh w p.2).drop p := by
      rw [List.map_append, List.map_cons, List.map_take, List.map_drop]
    rw [← hhs] at q3
    have nd1 : ((L.take p ++ (x, k) :: L.drop p).map (·.2)).Nodup := by
      refine (pm.map (·.2)).nodup_iff.mpr ?_
      rw [List.map_cons]
      exact List.nodup_cons.mpr ⟨hm, R.nd⟩
    have hes : (SetTable.insertAt es p (kh w k, Value.ref x)).size = L.length + 1 := by rw [ent_size hin, hlen]
    generalize SetTable.insertAt es p (kh w k, Value.ref x) = es1 at hin hes ⊢
    generalize L.take p ++ (x, k) :: L.drop p = L1 at pm hlen q3 nd1 hin
    refine wpAny_bind (wpAny_storeSet_of ho hd ?_ (by rw [hes, sizeLine_eq]; omega))
    have sb : Heap.SameBut a s.heap (s.heap.update a (Obj.putSet es1 t1)) := Heap.SameBut.update ..
    have ho1 := store_at (es' := es1) (t' := t1) ho hd
    generalize s.heap.update a (Obj.putSet es1 t1) = h1 at sb ho1 ⊢
    have key1 : ∀ p ∈ L1, IsR h1 p.2 p.1 := fun p hp => by
      rcases List.mem_cons.mp (pm.mem_iff.mp hp) with e | hp
      · rw [e]; exact hx.same ho hd sb
      · exact (R.key p hp).same ho hd sb
    have ld1 : w.params.followText "set-order" = true ∨ t1.led = true := by rw [q5]; exact R.led
    by_cases hf : t1.tooFull = true
    · first
        | (refine wpAny_bind ?_; refine wp_if_pos (by simp [hf]) ?_)
        | (refine wp_if_pos (by simp [hf]) ?_; refine wpAny_bind ?_)
      have hfull : (L.length + 1) * 5 ≥ t1.mask * 3 := by
        have h := hf
        unfold SetTable.tooFull at h
        rw [decide_eq_true_eq, q9, List.length_map] at h
        exact h
      rw [hsl]
      have hsz1 : t1.place.size = es1.size := by
        have h := q3.sz
        rw [List.length_map, hlen] at h
        rw [h, hes]
      obtain ⟨M, m1, m2, m3⟩ := grow_masks (n := L.length) R.msk hroom (by rw [← q4]; exact hfull) hfew
      refine rly_at (s := { s with heap := h1 }) ho1 ⟨hex.1, hex.2.1, hex.2.2⟩ rfl hin hsz1 q3.dm (by rw [hes, q4]; have := mask_ge R.tab.mok; omega) nd1 key1 hp1 ld1 (by rw [hlen]; exact hfew) m1 m2 (by rw [hlen]; exact m3) ?_
      intro h2 L2 es2 ep2 t2 sb2 R2 pm2
      refine wpAny_pure (hQ true h2 L2 es2 ep2 t2 (sb.trans sb2) R2 (fun z => absurd z hm) fun _ => pm2.trans pm)
    · first
        | refine wp_if_neg (by simp [hf]) ?_
        | (refine wpAny_bind ?_; refine wp_if_neg (by simp [hf]) ?_; refine wpAny_pure ?_)
      refine wpAny_pure (hQ true h1 L1 es1 (ep + 1) t1 sb ⟨⟨_, ho1, ⟨hex.1, hex.2.1, hex.2.2⟩, rfl⟩, hin, q3, by rw [q4]; exact R.msk, nd1, key1, hp1, ld1, ?_, by rw [hlen]; exact hfew⟩ (fun z => absurd z hm) fun _ => pm)
      have h := hf
      unfold SetTable.tooFull at h
      rw [decide_eq_true_eq, q9, List.length_map] at h
      rw [hlen]
      omega
end
end MP
-- RS4
/-! set(rows), set(rows) == set(rows). -/
namespace MP
open PySem PySem.Spec PyProof.Rows L2
/-- what the set has got from the first i items -/
structure GotR (ks : List RK) (i : Nat) (L : List RK) : Prop where
  sub : ∀ p ∈ L, p ∈ ks.take i
  all : ∀ p ∈ ks.take i, p.2 ∈ L.map (·.2)
  len : L.length ≤ i
theorem GotR.zero (ks : List RK) : GotR ks 0 [] := ⟨fun p h => (by cases h), fun p h => (by simp at h), Nat.le_refl _⟩
theorem GotR.same {ks L : List RK} {i : Nat} {x : RK} (g : GotR ks i L) (h : ks[i]? = some x) (hm : x.2 ∈ L.map (·.2)) : GotR ks (i + 1) L := by
  refine ⟨fun p hp => ?_, fun p hp => ?_, Nat.le_succ_of_le g.len⟩
  · rw [take_next h]
    exact List.mem_append_left _ (g.sub p hp)
  · rw [take_next h] at hp
    rcases List.mem_append.mp hp with z | z
    · exact g.all p z
    · rw [List.mem_singleton.mp z]; exact hm
theorem GotR.more {ks L L' : List RK} {i : Nat} {x : RK} (g : GotR ks i L) (h : ks[i]? = some x) (pm : L'.Perm (x :: L)) : GotR ks (i + 1) L' := by
  refine ⟨fun p hp => ?_, fun p hp => ?_, ?_⟩
  · rw [take_next h]
    rcases List.mem_cons.mp (pm.mem_iff.mp hp) with e | z
    · rw [e]; exact List.mem_append_right _ (List.mem_singleton.mpr rfl)
    · exact List.mem_append_left _ (g.sub p z)
  · rw [(pm.map (·.2)).mem_iff, List.map_cons]
    rw [take_next h] at hp
    rcases List.mem_append.mp hp with z | z
    · exact List.mem_cons_of_mem _ (g.all p z)
    · rw [List.mem_singleton.mp z]; exact List.mem_cons_self
  · rw [pm.length_eq, List.length_cons]
    exact Nat.succ_le_succ g.len
section
variable {P : Program} {w : World} {A : Around} {E : Value → Shared → Prop} {s : Shared}
theorem SetR.keep {h h' : Heap} {a : Addr} {L : List RK} {es : Array (Int × Value)} {ep : Nat} {t : SetTable} (R : SetR w h a L es ep t) (ha : ∀ o, h.get? a = some o → h'.get? a = some o) (ht : ∀ p ∈ L, IsR h' p.2 p.1) : SetR w h' a L es ep t := by
  obtain ⟨o, ho, r⟩ := R.ob
  exact ⟨⟨o, ha o ho, r⟩, R.rows, R.tab, R.msk, R.nd, ht, R.plain, R.led, R.room, R.few⟩
abbrev freshO (w : World) : Obj := { cls := .type "set", dict := none, data := .set #[] 0 (.fresh 0 0 (!w.params.followText "set-order")) }
theorem setR_fresh {h : Heap} {a : Addr} (ho : h.get? a = some (freshO w)) : SetR w h a [] #[] 0 (.fresh 0 0 (!w.params.followText "set-order")) where
  ob := ⟨_, ho, ⟨rfl, rfl, rfl⟩, rfl⟩
  rows := rfl
  tab := ⟨List.Pairwise.nil, rfl, rfl, ⟨3, by decide, rfl⟩, fun x hx => (by cases hx), fun i h j hi => (by simp at hi)⟩
  msk := .inl rfl
  nd := List.nodup_nil
  key := fun p hp => (by cases hp)
  plain := rfl
  led := by
    show _ ∨ (!w.params.followText "set-order") = true
    cases w.params.followText "set-order"
    · exact .inr rfl
    · exact .inl rfl
  room := by
    show 0 * 5 < 7 * 3
    decide
  few := by
    show 0 ≤ 4096
    decide
/-- set.update's loop -/
theorem set_update_rows {I : Addr} {fp wr : List Addr} {G : Array GenState → Array GenState → Prop} {n : Nat} {Pv : Nat → Value → Prop} {St : Nat → Shared → Prop} {R : Result → Shared → Prop}
    (W : WalksS P w A.in1 I fp wr G n Pv St) (S : Addr) (hSf : S ∉ fp) (ks : List RK) (hn : n = ks.length) (hfew : ks.length ≤ 4096) (hval : ∀ i v, Pv i v → ∃ p, ks[i]? = some p ∧ v = .ref p.1)
    (h0 : Heap) (hk : ∀ p ∈ ks, IsR h0 p.2 p.1) (hS0 : h0.get? S = none) (hw0 : ∀ b ∈ wr, h0.get? b = none) (hu : A.in1.units + 8 < cLine) :
    ∀ (k i : Nat) (s : Shared), n - i = k → i ≤ n → St i s → (∀ b o, h0.get? b = some o → s.heap.get? b = some o) → (∃ L es ep t, SetR w s.heap S L es ep t ∧ GotR ks i L) →
      (∀ s' L es ep t, Moved (S :: wr) G s s' → SetR w s'.heap S L es ep t → GotR ks n L → (∀ b o, h0.get? b = some o → s'.heap.get? b = some o) → R (.ok (.ret .none)) s') →
      codeAny (model P w) A (.builtin "set.update.loop" ⟨[.ref S, .ref I], []⟩) R s := by
  have hSw : S ∉ wr := fun h => hSf (W.sub _ h)
  have hsub : ∀ b ∈ wr, b ∈ S :: wr := fun b hb => List.mem_cons_of_mem _ hb
  have keepM : ∀ {s s' : Shared}, Moved wr G s s' → (∀ b o, h0.get? b = some o → s.heap.get? b = some o) → ∀ b o, h0.get? b = some o → s'.heap.get? b = some o := fun hm hkp b o e =>
    hm.heap b o (fun hb => by rw [hw0 b hb] at e; cases e) (hkp b o e)
  intro k
  induction k with
  | zero =>
    intro i s hk' hi hst hkp ⟨L, es, ep, t, hS, g⟩ hR
    have hin : i = n := by omega
    subst hin
    refine codeAny_builtin F.entry_set_update_loop ?_
    rw [Around.under_plainId F.plain_set_update_loop _]
    show wpAny _ A.in1 (pyNext (.ref I) >>= _) _ _ s
    refine wpAny_bind (W.done s _ _ hst fun s' hm => ?_)
    show wpAny _ A.in1 (ret Value.none) _ _ s'
    have hkp' := keepM hm hkp
    have sub : ∀ p ∈ L, p ∈ ks := fun p hp => List.mem_of_mem_take (g.sub p hp)
    exact wpAny_pure (hR s' L es ep t (hm.mono hsub) (hS.keep (fun o e => hm.heap S o hSw e) fun p hp => (hk p (sub p hp)).keep hkp') g hkp')
  | succ k ih =>
    intro i s hk' hi hst hkp ⟨L, es, ep, t, hS, g⟩ hR
    have hlt : i < n := by omega
    refine codeAny_builtin F.entry_set_update_loop ?_
    rw [Around.under_plainId F.plain_set_update_loop _]
    show wpAny _ A.in1 (pyNext (.ref I) >>= _) _ _ s
    refine wpAny_bind (W.item i s _ _ hlt hst fun v s' hP hst' hm => ?_)
    obtain ⟨p, hp, rfl⟩ := hval i v hP
    have hkp' := keepM hm hkp
    have sub : ∀ p ∈ L, p ∈ ks := fun p hp => List.mem_of_mem_take (g.sub p hp)
    have hS' : SetR w s'.heap S L es ep t := hS.keep (fun o e => hm.heap S o hSw e) fun q hq => (hk q (sub q hq)).keep hkp'
    have hx : IsR s'.heap p.2 p.1 := (hk p (List.mem_of_getElem? hp)).keep hkp'
    show wpAny _ A.in1 (holding [Value.ref p.1] (setAdd S (.ref p.1)) >>= _) _ _ s'
    refine wpAny_bind (wpAny_holding ?_)
    unfold setAdd
    refine wpAny_holding ?_
    refine wpAny_bind ((nestedKind P w).pyHash hu hx.nk ?_)
    refine addR_at (s := { s' with toks := s'.toks + p.2.draws }) hS' hx hu (by have := g.len; omega) fun b h' L' es' ep' t' hsb hS2 c1 c2 => ?_
    have g' : GotR ks (i + 1) L' := by
      rcases Classical.em (p.2 ∈ L.map (·.2)) with c | c
      · rw [c1 c]; exact g.same hp c
      · exact g.more hp (c2 c)
    have hkp2 : ∀ b o, h0.get? b = some o → h'.get? b = some o := fun b o e => (hsb.2 b (fun z => by rw [z, hS0] at e; cases e)).trans (hkp' b o e)
    refine wpAny_pure ⟨plainId_quiet F.plain_set_update_loop _, ih (i + 1) _ (by omega) hlt (W.frame _ s' _ _ hst' (Nat.le_add_right _ _) fun b hb o e => ?_) hkp2 ⟨L', es', ep', t', hS2, g'⟩ fun s'' L2 es2 ep2 t2 hm'' hS'' g'' hkp'' => ?_⟩
    · rw [hsb.2 b (fun h : b = S => hSf (by rw [← h]; exact hb))]; exact e
    · refine hR s'' L2 es2 ep2 t2 (Moved.trans W.gtrans ((hm.mono hsub).then_heap (Nat.le_add_right _ _) fun b o hb e => ?_) hm'') hS'' g'' hkp''
      rw [hsb.2 b (fun h : b = S => hb (by rw [h]; exact List.mem_cons_self))]; exact e
/-- set(xs) -/
theorem call_set_rows {l : Addr} {items : Array Value} (ks : List RK) {Q : Value → Shared → Prop} (hh : A.handled = none) (hl : s.heap.IsList l items) (hit : items.toList = ks.map fun p => Value.ref p.1)
    (hk : ∀ p ∈ ks, IsR s.heap p.2 p.1) (hfew : ks.length ≤ 4096) (hu : A.units + 12 < cLine)
    (h : ∀ (h' : Heap) (tk : Nat) L es ep t, SetR w h' s.heap.objs.size L es ep t → GotR ks ks.length L → (∀ b o, s.heap.get? b = some o → h'.get? b = some o) → Q (.ref s.heap.objs.size) { s with heap := h', toks := tk }) :
    wpAny (model P w) A (call (.type "set") [.ref l]) Q E s := by
  have hisz : items.size = ks.length := by
    have q := congrArg List.length hit
    rw [Array.length_toList, List.length_map] at q
    exact q
  obtain ⟨c, tl, hmro⟩ := F.called_set.mro
  have hmade := F.called_set.made
  have hsub := F.called_set.sub
  refine wpAny_call (codeAny_of_tree ?_)
  show wpAny _ _ (callAny (.type "set") _) _ _ _
  refine wpAny_pure ⟨Code.quiet_builtin _ (by decide +kernel), codeAny_builtin F.entry_type_call ?_⟩
  rw [Around.under_plain (weight_type_call_type "set" [.ref l] []) rfl]
  have h1 := F.called_set.notType
  have h2 := F.called_set.canCreate
  have hct := F.typeCall_set_1 (.ref l)
  repeat (any_goals (first | assumption | wp_step))
  refine codeAny_mono (code_set_led1 (.ref l) (E := E) (Q₁ := fun obj s₁ => obj = .ref s.heap.objs.size ∧ s₁ = { s with heap := s.heap.push (freshO w) }) ⟨rfl, rfl⟩) fun r s₁ hr => ?_
  cases r with
  | error e => exact hr
  | ok fl =>
    cases fl with
    | ret obj =>
      obtain ⟨rfl, rfl⟩ := hr
      have hS : (s.heap.push (freshO w)).get? s.heap.objs.size = some (freshO w) := Heap.get?_push_size _ rfl
      have hT : Shared.TypeIs { s with heap := s.heap.push (freshO w) } (.ref s.heap.objs.size) "set" := ⟨_, hS, rfl⟩
      have hli := F.called_set.init.lookup
      have hbi := F.called_set.init.bind (.ref s.heap.objs.size)
      repeat (any_goals (first | assumption | wp_step))
      refine codeAny_mono (codeAny_call_builtin (R := wants (fun r s₂ => r = .none ∧ ∃ h' tk L es ep t, s₂ = { s with heap := h', toks := tk } ∧ SetR w h' s.heap.objs.size L es ep t ∧ GotR ks ks.length L ∧
          (∀ b o, s.heap.get? b = some o → h'.get? b = some o)) E) F.called_set.init.plain F.entry_set_init (check_set_init_1 hT ?_)) fun r₂ s₂ hr₂ => ?_
      · obtain ⟨ol, hol, hcl, nl, hdl⟩ := hl
        obtain ⟨ocls, odict, odata, oslots⟩ := ol
        simp only at hcl hdl
        subst hcl; subst hdl
        have hol' : (s.heap.push (freshO w)).get? l = some { cls := .type "list", dict := odict, data := .seq items nl, slots := oslots } := Heap.get?_push_of_some _ hol
        have hsls := F.sub_list_set
        have hslf := F.sub_list_frozenset
        have hne : (Value.type "list" == Value.type "dict") = false := by decide
        have hl1 : (s.heap.push (freshO w)).IsList l items := ⟨_, hol', rfl, nl, rfl⟩
        refine set_init_gen hS hol' hsls hslf hne ?_
        refine wpAny_pyIter_list hl1 ?_
        refine wpAny_bind (wpAny_runValue ?_)
        have hlS : l < s.heap.objs.size := Heap.lt_size hol
        have hh3 : A.in1.in1.in1.handled = none := by simp [hh]
        have hneI : l ≠ (s.heap.push (freshO w)).objs.size := by
          rw [Heap.size_push]; exact Nat.ne_of_lt (Nat.lt_succ_of_lt hlS)
        have hSf : s.heap.objs.size ∉ [(s.heap.push (freshO w)).objs.size, l] := by
          rw [Heap.size_push]; simp only [List.mem_cons, List.mem_singleton, List.not_mem_nil, or_false, not_or]
          exact ⟨Nat.ne_of_lt (Nat.lt_succ_self _), Nat.ne_of_gt hlS⟩
        have hval : ∀ (i : Nat) (v : Value), items[i]? = some v → ∃ p, ks[i]? = some p ∧ v = .ref p.1 := fun i v hv => by
          have q : items.toList[i]? = some v := by rw [Array.getElem?_toList]; exact hv
          rw [hit, List.getElem?_map] at q
          cases hq : ks[i]? with
          | none => rw [hq] at q; cases q
          | some p =>
            rw [hq] at q
            exact ⟨p, rfl, (Option.some.inj q).symm⟩
        have none_of : ∀ b, s.heap.objs.size ≤ b → s.heap.get? b = none := fun b hb => by
          cases q : s.heap.get? b with
          | none => rfl
          | some o => exact absurd (Nat.lt_of_lt_of_le (Heap.lt_size q) hb) (Nat.lt_irrefl _)
        refine set_update_rows ((Walks.list hh3 _ l hneI items).toS) s.heap.objs.size
          hSf ks hisz hfew hval s.heap hk (none_of _ (Nat.le_refl _)) (fun b hb => none_of b (by
            rw [List.mem_singleton.mp hb, Heap.size_push]
            exact Nat.le_succ _)) (by show A.units + 1 + 1 + 1 + 8 < cLine; omega) (items.size - 0) 0 _ (by omega) (Nat.zero_le _)
          ⟨⟨_, Heap.get?_push_size _ rfl, rfl, rfl⟩, (hl1.push _)⟩ (fun b o e => Heap.get?_push_of_some _ (Heap.get?_push_of_some _ e)) ?hS0 ?hR
        case hS0 =>
          have hget : ((s.heap.push (freshO w)).push { cls := .type "list_iterator", data := .fields #[.ref l, .int 0 0] }).get? s.heap.objs.size
              = some (freshO w) := Heap.get?_push_of_some _ hS
          exact ⟨[], #[], 0, _, setR_fresh hget, GotR.zero ks⟩
        case hR =>
          intro s' L es ep t hm hS' g' hkp
          obtain ⟨h', g2, d', tk', os'⟩ := s'
          have eg : g2 = s.gens := hm.gens
          have ed : d' = s.drawn := hm.drawn
          have eo : os' = s.os := hm.os
          subst eg; subst ed; subst eo
          show wpAny _ _ _ _ _ _
          refine wpAny_pure ?_
          show wpAny _ _ (ret Value.none) _ _ _
          rw [hisz] at g'
          exact wpAny_pure ⟨rfl, h', tk', L, es, ep, t, rfl, hS', g', hkp⟩
      · cases r₂ with
        | error e => exact hr₂
        | ok fl₂ =>
          cases fl₂ with
          | ret r =>
            obtain ⟨rfl, h', tk, L, es, ep, t, rfl, hS', g', hk'⟩ := hr₂
            repeat (any_goals (first | assumption | wp_step))
            exact h _ _ _ _ _ _ hS' g' hk'
          | _ => exact hr₂.elim
    | _ => exact hr.elim
end
end MP
-- RS5
/-! Two sets of rows with the same members are equal. -/
namespace MP
open PySem PySem.Spec PyProof.Rows L2
theorem entry_set_eq : entryFor table "set.__eq__" = some Builtin.«frozenset.__eq__» :=
  entryFor_alias (id' := "frozenset.__eq__") (by kernel_rfl) rfl (by decide +kernel) (by kernel_rfl)
section
variable {P : Program} {w : World} {A : Around} {E : Value → Shared → Prop} {s : Shared}
theorem SetR.typeIs {a : Addr} {L : List RK} {es : Array (Int × Value)} {ep : Nat} {t : SetTable} (R : SetR w s.heap a L es ep t) : s.TypeIs (.ref a) "set" := by
  obtain ⟨o, ho, hex, _⟩ := R.ob
  exact ⟨o, ho, hex.1⟩
theorem quietEq_row {k : NestedKey} {b : Addr} {Q : Bool → Shared → Prop} (hk : IsR s.heap k b) (h : Q false s) : wpAny (model P w) A (Builtin.Frozenset.quietEq (.ref b)) Q E s := by
  unfold Builtin.Frozenset.quietEq
  dsimp only
  refine wpAny_bind (wpAny_specialOf hk.typeIs F.slot_tuple_eq.lookup ?_)
  exact wpAny_pure h
theorem setWalk_at {a : Addr} {L : List RK} {es : Array (Int × Value)} {ep : Nat} {t : SetTable} (R : SetR w s.heap a L es ep t) {Q : Array (Int × Value) → Shared → Prop} (h : ∀ es' : Array (Int × Value), es'.toList.Perm es.toList → Q es' s) :
    wpAny (model P w) A (setWalk a) Q E s := by
  obtain ⟨o, ho, hex, hd⟩ := R.ob
  unfold setWalk
  refine wpAny_bind (wpAny_setState_of ho hd R.fits ?_)
  dsimp only
  refine wpAny_bind (wpAny_byText ?_)
  by_cases hbt : w.params.followText "set-order" = true
  · refine wp_if_pos hbt ?_
    exact wpAny_bind (wpAny_askSetting (wpAny_pure (h _ (pick_perm _ _))))
  · refine wp_if_neg hbt ?_
    try refine wpAny_bind (wpAny_pure ?_)
    have hl : t.led = true := by
      rcases R.led with z | z
      · exact absurd z hbt
      · exact z
    refine wp_if_neg (by show ¬ ((!t.plain && decide (es.size > 1)) = true); rw [R.plain]; simp) ?_
    try refine wpAny_bind (wpAny_pure ?_)
    refine wpAny_bind (wpAny_of_eq (a := ()) ?_ ?_)
    · show (if (!t.led && decide (es.size > 1)) = true then unsupported "set:maker-not-led" else pure ()) = pure ()
      rw [hl] <;> rfl
    · exact wpAny_pure (h es (List.Perm.refl _))
theorem walkUnseen_at {a b : Addr} {L M : List RK} {es fs : Array (Int × Value)} {ep eq : Nat} {t u : SetTable} (R : SetR w s.heap a L es ep t) (T : SetR w s.heap b M fs eq u) {Q : List (Int × Value) → Shared → Prop}
    (h : ∀ l : List (Int × Value), l.Perm es.toList → Q l s) : wpAny (model P w) A (Builtin.Frozenset.walkUnseen a b) Q E s := by
  obtain ⟨o, ho, hex, hd⟩ := R.ob
  obtain ⟨o2, ho2, hex2, hd2⟩ := T.ob
  unfold Builtin.Frozenset.walkUnseen
  refine wpAny_bind (wpAny_setEntries_of ho hd R.fits ?_)
  refine wpAny_bind (wpAny_setEntries_of ho2 hd2 T.fits ?_)
  have all : ∀ e ∈ es.toList ++ fs.toList, ∃ k b, e.2 = Value.ref b ∧ IsR s.heap k b := fun e he => by
    rcases List.mem_append.mp he with z | z
    · rw [R.rows] at z
      obtain ⟨p, hp, rfl⟩ := List.mem_map.mp z
      exact ⟨p.2, p.1, rfl, R.key p hp⟩
    · rw [T.rows] at z
      obtain ⟨p, hp, rfl⟩ := List.mem_map.mp z
      exact ⟨p.2, p.1, rfl, T.key p hp⟩
  refine wpAny_bind ?_
  refine wpAny_forIn_list _ (fun rest r s' => r.1 = none ∧ s' = s ∧ (rest = [] → es.toList ++ fs.toList = []) ∧ ∀ e ∈ rest, ∃ k b, e.2 = Value.ref b ∧ IsR s.heap k b) _ ?_ ?_ _ _ ⟨rfl, rfl, fun z => z, all⟩
  · rintro ⟨hv, v⟩ rest r s' ⟨hr, rfl, _, hall⟩
    obtain ⟨k, c, e1, hc⟩ := hall _ List.mem_cons_self
    dsimp only at e1 ⊢
    subst e1
    refine wpAny_bind (quietEq_row hc ?_)
    simp only [Bool.not_false, if_true]
    unfold Builtin.Frozenset.walk
    refine wpAny_bind (wpAny_bind (setWalk_at R fun es' pm => ?_))
    refine wpAny_pure (wpAny_pure ?_)
    exact wpAny_pure (h _ pm)
  · rintro ⟨r1, r2⟩ s' ⟨hr, rfl, hnil, _⟩
    simp only at hr
    subst hr
    refine wpAny_pure (h _ (List.Perm.refl _))
theorem subsetOf_at {id : String} {a b : Addr} {L M : List RK} {es fs : Array (Int × Value)} {ep eq : Nat} {t u : SetTable} (R : SetR w s.heap a L es ep t) (T : SetR w s.heap b M fs eq u) (hu : A.units + 8 < cLine) (hlen : L.length = M.length)
    (sub : ∀ p ∈ L, p.2 ∈ M.map (·.2)) {Q : Bool → Shared → Prop} (h : Q true s) : wpAny (model P w) A (Builtin.Frozenset.subsetOf id a b) Q E s := by
  obtain ⟨o, ho, hex, hd⟩ := R.ob
  obtain ⟨o2, ho2, hex2, hd2⟩ := T.ob
  unfold Builtin.Frozenset.subsetOf Builtin.Frozenset.sizeOf
  refine wpAny_bind (wpAny_bind (wpAny_setEntries_of ho hd R.fits (wpAny_pure ?_)))
  refine wpAny_bind (wpAny_bind (wpAny_setEntries_of ho2 hd2 T.fits (wpAny_pure ?_)))
  refine wp_if_neg (by rw [ent_size R.rows, ent_size T.rows, hlen]; exact Nat.lt_irrefl _) ?_
  try refine wpAny_bind (wpAny_pure ?_)
  refine wpAny_bind (wpAny_setEpoch_of ho hd R.fits ?_)
  refine wpAny_bind (walkUnseen_at R T fun l pm => ?_)
  have all : ∀ e ∈ l, ∃ p ∈ L, e = (kh w p.2, Value.ref p.1) := fun e he => by
    have z := pm.mem_iff.mp he
    rw [R.rows] at z
    obtain ⟨p, hp, rfl⟩ := List.mem_map.mp z
    exact ⟨p, hp, rfl⟩
  refine wpAny_bind ?_
  refine wpAny_forIn_list _ (fun rest r s' => r.1 = none ∧ s' = s ∧ ∀ e ∈ rest, ∃ p ∈ L, e = (kh w p.2, Value.ref p.1)) _ ?_ ?_ _ _ ⟨rfl, rfl, all⟩
  · rintro e rest r s' ⟨hr, rfl, hall⟩
    obtain ⟨p, hp, rfl⟩ := hall e List.mem_cons_self
    dsimp only
    refine wpAny_bind (wpAny_holding (find_at T (R.key p hp) hu (fun _ i => ?_) fun z => absurd (sub p hp) z))
    simp only [Option.isNone_some, Bool.false_eq_true, if_false]
    unfold Builtin.Frozenset.unchanged
    try refine wpAny_bind (wpAny_pure ?_)
    refine wpAny_bind (wpAny_bind (wpAny_setEpoch_of ho hd R.fits ?_))
    refine wp_if_neg (by simp) ?_
    refine wpAny_pure ?_
    exact wpAny_pure ⟨rfl, rfl, fun z hz => hall z (List.mem_cons_of_mem _ hz)⟩
  · rintro ⟨r1, r2⟩ s' ⟨hr, rfl, _⟩
    simp only at hr
    subst hr
    exact wpAny_pure h
/-- a == b -/
theorem eq_rows {a b : Addr} {L M : List RK} {es fs : Array (Int × Value)} {ep eq : Nat} {t u : SetTable} (R : SetR w s.heap a L es ep t) (T : SetR w s.heap b M fs eq u) (hu : A.units + 12 < cLine) (hlen : L.length = M.length)
    (sub : ∀ p ∈ L, p.2 ∈ M.map (·.2)) {Q : Value → Shared → Prop} (h : Q (.bool true) s) : wpAny (model P w) A (compareOp .Eq (.ref a) (.ref b)) Q E s := by
  obtain ⟨o, ho, hex, hd⟩ := R.ob
  obtain ⟨o2, ho2, hex2, hd2⟩ := T.ob
  refine wpAny_richCompare_same_room (op := .Eq) R.typeIs T.typeIs PySem.F.slot_set_eq (wpAny_call_entry PySem.F.slot_set_eq R.typeIs entry_set_eq ?_ (PySem.F.args_set_eq_2 _ _)) (by omega)
  refine wpAny_bind (m := Builtin.Frozenset.slot1 "__eq__" ⟨[.ref a, .ref b], []⟩) ?_
  unfold Builtin.Frozenset.slot1 slotArgs
  simp only [List.isEmpty_nil, Bool.not_true, Bool.false_eq_true, ↓reduceIte, bind_assoc, List.length_cons, List.length_nil, bne_self_eq_false]
  refine wpAny_bind (wpAny_pure ?_)
  try dsimp only
  refine wpAny_bind (wpAny_pure ?_)
  try dsimp only
  refine wpAny_pure ?_
  dsimp only
  refine wpAny_bind (m := Builtin.Frozenset.isAnySet (.ref b)) ?_
  unfold Builtin.Frozenset.isAnySet
  refine wpAny_bind (wpAny_isInstance T.typeIs F.sub_set_set ?_)
  refine wpAny_pure ?_
  refine wp_if_neg (by simp) ?_
  try refine wpAny_bind (wpAny_pure ?_)
  unfold Builtin.Frozenset.addrOf
  dsimp only
  repeat (first | refine wpAny_bind (wpAny_pure ?_) | refine wpAny_pure ?_)
  unfold Builtin.Frozenset.sizeOf
  refine wpAny_bind (wpAny_bind (wpAny_setEntries_of ho hd R.fits (wpAny_pure ?_)))
  refine wpAny_bind (wpAny_bind (wpAny_setEntries_of ho2 hd2 T.fits (wpAny_pure ?_)))
  refine wpAny_bind ?_
  refine wp_if_neg (by rw [ent_size R.rows, ent_size T.rows, hlen]; simp) ?_
  try refine wpAny_bind (wpAny_pure ?_)
  refine wpAny_bind ?_
  refine wpAny_bind (wpAny_isInstance R.typeIs F.sub_set_frozenset ?_)
  refine wpAny_pure ?_
  refine wp_if_neg (by simp) ?_
  try refine wpAny_bind (wpAny_pure ?_)
  refine subsetOf_at R T (by show A.units + 1 + 8 < cLine; omega) hlen sub ?_
  exact wpAny_pure ⟨_, rfl, (fun z => nomatch z), h⟩
end
end MP
-- RS6
/-! set(rows) == set(rows) in the hand layer and over data. -/
namespace MP
open PySem PySem.Spec PyProof.Rows L2 LamX
theorem nodup_len_le {α : Type} [DecidableEq α] : ∀ (l m : List α), l.Nodup → (∀ x ∈ l, x ∈ m) → l.length ≤ m.length
  | [], _, _, _ => Nat.zero_le _
  | x :: l, m, hn, hs => by
    obtain ⟨h1, h2⟩ := List.nodup_cons.mp hn
    have := nodup_len_le l (m.erase x) h2 fun y hy => (List.mem_erase_of_ne (fun e : y = x => h1 (e ▸ hy))).mpr (hs y (List.mem_cons_of_mem _ hy))
    rw [List.length_erase_of_mem (hs x List.mem_cons_self)] at this
    have hp : 0 < m.length := List.length_pos_of_mem (hs x List.mem_cons_self)
    rw [List.length_cons]
    omega
/-- what is neither a table nor a code object, told by its heap object -/
theorem noT_ext {a : Addr} {φ : Heap → Prop} (h : ∀ hp, φ hp → ∃ o, hp.get? a = some o ∧ ∀ vs, o.data ≠ .fields vs) : NoT a (.ext φ) := by
  refine ⟨fun _ z => (by cases z), fun q z => ?_⟩
  unfold CodeO at z
  injection z with z
  obtain ⟨o, ho, hv⟩ : ∃ o, (Heap.mk (Array.replicate (a + 1) { cls := .type "code", data := .fields #[.none, .str q 0] }) default).get? a = some o ∧ ∀ vs, o.data ≠ .fields vs := by
    refine h _ ?_
    rw [z]
    refine ⟨{ cls := .type "code", data := .fields #[.none, .str q 0] }, _, 0, ?_, rfl, rfl⟩
    refine Heap.get?_some_iff.mpr ⟨?_, rfl⟩
    simp
  have e : (Heap.mk (Array.replicate (a + 1) ({ cls := .type "code", data := .fields #[.none, .str q 0] } : Obj)) default).get? a = some { cls := .type "code", data := .fields #[.none, .str q 0] } := Heap.get?_some_iff.mpr ⟨by simp, rfl⟩
  rw [e] at ho
  cases ho
  exact hv _ rfl
/-! ### keys in the abstract heap -/
mutual
theorem inv_nested {X : Cx} {pins : List (Addr × Obj)} {σ : L2.St} {H : Hp} {s : Shared} (I : Inv X pins σ H s) : ∀ (k : NestedKey) (v : V) (u : Value), Dn H v k.data → RelV v u → NestedIs s.heap k u
  | .none, _, _, h, r => by
    cases h
    cases (show _ = Value.none from r)
    exact .none
  | .num i, _, _, h, r => by
    cases h
    obtain ⟨t, rfl⟩ := r
    exact .int i t
  | .text x, _, _, h, r => by
    cases h
    obtain ⟨t, rfl⟩ := r
    exact .text x t
  | .tup ks, _, _, h, r => by
    cases h with
    | tup q d =>
      obtain ⟨its, rv, ⟨o, ho, hc, n, hd⟩, _⟩ := I.tuple (SqT.of q)
      cases (show _ = Value.ref _ from r)
      exact .tup ho hc hd (by simpa using inv_nesteds I ks _ _ d rv)
theorem inv_nesteds {X : Cx} {pins : List (Addr × Obj)} {σ : L2.St} {H : Hp} {s : Shared} (I : Inv X pins σ H s) : ∀ (ks : List NestedKey) (vs : List V) (us : List Value), Dns H vs (NestedKey.datas ks) → Vals vs us → NestedAll s.heap ks us
  | [], _, _, h, r => by
    cases h
    cases r
    exact .nil
  | k :: ks, _, _, h, r => by
    cases h with
    | cons h1 h2 =>
      cases r with
      | cons r1 r2 => exact .cons (inv_nested I k _ _ h1 r1) (inv_nesteds I ks _ _ h2 r2)
end
/-- keys that are rows -/
def RowK (k : NestedKey) : Prop := (∃ ks, k = .tup ks) ∧ k.depth ≤ 8 ∧ calmK k = true
def KeyAt (H : Hp) (p : RK) : Prop := Dn H (.ref p.1) p.2.data ∧ RowK p.2
theorem KeyAt.isR {X : Cx} {pins : List (Addr × Obj)} {σ : L2.St} {H : Hp} {s : Shared} {p : RK} (h : KeyAt H p) (I : Inv X pins σ H s) : IsR s.heap p.2 p.1 :=
  ⟨inv_nested I _ _ _ h.1 rfl, h.2.2.1, h.2.2.2⟩
theorem KeyAt.gr {G H : Hp} {p : RK} (h : KeyAt G p) (s : Same G H) : KeyAt H p := ⟨h.1.gr s, h.2⟩
/-! ### the set as an object of the abstract heap -/
structure SetN (w : World) (h : Heap) (a : Addr) (L : List RK) : Prop where
  ex : ∃ (es : Array (Int × Value)) (ep : Nat) (t : SetTable), (∃ o, h.get? a = some o ∧ o.ExactSet ∧ o.data = .set es ep t) ∧ es.toList = entR w L ∧ TabK t (L.map fun p => kh w p.2) ∧ MaskF t.mask ∧ (L.map (·.2)).Nodup ∧ t.plain = true ∧
    (w.params.followText "set-order" = true ∨ t.led = true) ∧ L.length * 5 < t.mask * 3 ∧ L.length ≤ 4096
def SetRO (w : World) (a : Addr) (L : List RK) : HO := .ext fun h => SetN w h a L
theorem SetR.n {w : World} {h : Heap} {a : Addr} {L : List RK} {es : Array (Int × Value)} {ep : Nat} {t : SetTable} (R : SetR w h a L es ep t) : SetN w h a L :=
  ⟨es, ep, t, R.ob, R.rows, R.tab, R.msk, R.nd, R.plain, R.led, R.room, R.few⟩
theorem SetN.full {w : World} {h : Heap} {a : Addr} {L : List RK} (R : SetN w h a L) (ht : ∀ p ∈ L, IsR h p.2 p.1) : ∃ es ep t, SetR w h a L es ep t := by
  obtain ⟨es, ep, t, h1, h2, h3, h4, h5, h6, h7, h8, h9⟩ := R.ex
  exact ⟨es, ep, t, h1, h2, h3, h4, h5, ht, h6, h7, h8, h9⟩
theorem setRO_new {P : Program} {w : World} {H : Hp} {h : Heap} {a : Addr} {L : List RK} (R : SetN w h a L) : ObjOk P w H h a (SetRO w a L) := by
  have ⟨es, ep, t, ⟨o, ho, r⟩, q⟩ := R.ex
  refine ⟨R, ⟨o, ho⟩, fun h1 h2 p k => ?_⟩
  have ⟨es', ep', t', ⟨o', ho', r'⟩, q'⟩ := SetN.ex p
  exact ⟨es', ep', t', ⟨o', k o' ho', r'⟩, q'⟩
theorem noT_setRO {w : World} {a : Addr} {L : List RK} : NoT a (SetRO w a L) := noT_ext fun hp p => by
  have ⟨es, ep, t, ⟨o, ho, _, hd⟩, _⟩ := SetN.ex p
  exact ⟨o, ho, fun vs z => by rw [hd] at z; cases z⟩
theorem ref_vals : ∀ {ks : List RK} {us : List Value}, Vals (ks.map fun p => V.ref p.1) us → us = ks.map fun p => Value.ref p.1
  | [], _, .nil => rfl
  | p :: ks, _, .cons r t => by
    cases (show _ = Value.ref _ from r)
    rw [ref_vals t] <;> rfl
section
variable {X : Cx}
/-- set(xs), xs a list of rows -/
def rSetR (K : PySem.W.Frag) (w : World) : List V → Hp → VK → Prop := fun xs H Q => ∃ (l : Addr) (ks : List RK), xs = [V.ref l] ∧ SqL K H l (ks.map fun p => V.ref p.1) ∧ (∀ p ∈ ks, KeyAt H p) ∧ ks.length ≤ 4096 ∧
  ∀ a L, H a = none → (∀ p ∈ L, p ∈ ks) → (∀ p ∈ ks, p.2 ∈ L.map (·.2)) → Q (.ref a) (upd H a (SetRO w a L))
theorem cr_setR (hc : X.calm = true) (hu : X.A.units + 64 < cLine) : CallR X (.type "set") (rSetR X.K X.w) := by
  intro pins s σ H xs us Q I r h
  obtain ⟨l, ks, rfl, hl, hk, hf, q⟩ := h
  rw [Vals.ref1 r]
  obtain ⟨its, rv, pl, hz⟩ := I.list hl
  have hn : H s.heap.objs.size = none := I.hok.fresh (Nat.le_refl _)
  refine call_set_rows (P := X.prog) (w := X.w) ks (I.ok.hd hc) pl.isList (by simpa using ref_vals rv) (fun p hp => (hk p hp).isR I) hf (by omega) fun h' tk L es ep t R g k => ?_
  refine ⟨.ref s.heap.objs.size, upd H s.heap.objs.size (SetRO X.w s.heap.objs.size L), I.laid (t' := tk) k (Nat.le_refl _) (setRO_new R.n), rfl, q _ L hn (fun p hp => ?_) fun p hp => ?_⟩
  · exact List.mem_of_mem_take (g.sub p hp)
  · exact g.all p (by rw [List.take_length]; exact hp)
/-- two sets with the same members -/
def rEqS (w : World) : R2 := fun x y H Q => ∃ a b L M, x = .ref a ∧ y = .ref b ∧ H a = some (SetRO w a L) ∧ H b = some (SetRO w b M) ∧ (∀ p ∈ L, KeyAt H p) ∧ (∀ p ∈ M, KeyAt H p) ∧
  (∀ p ∈ L, p.2 ∈ M.map (·.2)) ∧ (∀ p ∈ M, p.2 ∈ L.map (·.2)) ∧ Q (.bl true) H
theorem op_eqS (hu : X.A.units + 64 < cLine) : OpR X (compareOp .Eq) (rEqS X.w) := by
  intro pins s σ H x y v u Q I rx ry h
  obtain ⟨a, b, L, M, rfl, rfl, ea, eb, kl, km, s1, s2, q⟩ := h
  obtain rfl : v = Value.ref a := rx
  obtain rfl : u = Value.ref b := ry
  have Ra : SetN X.w s.heap a L := (I.hok a _ ea).1
  have Rb : SetN X.w s.heap b M := (I.hok b _ eb).1
  obtain ⟨es, ep, t, R⟩ := Ra.full fun p hp => (kl p hp).isR I
  obtain ⟨fs, eq, t2, T⟩ := Rb.full fun p hp => (km p hp).isR I
  have l1 := nodup_len_le _ (M.map (·.2)) R.nd fun k hk => by
    obtain ⟨p, hp, rfl⟩ := List.mem_map.mp hk
    exact s1 p hp
  have l2 := nodup_len_le _ (L.map (·.2)) T.nd fun k hk => by
    obtain ⟨p, hp, rfl⟩ := List.mem_map.mp hk
    exact s2 p hp
  rw [List.length_map, List.length_map] at l1 l2
  exact eq_rows R T (by omega) (Nat.le_antisymm l1 l2) s1 ⟨.bl true, H, I, rfl, q⟩
end
/-! ### over data -/
theorem dns_keys {G : Hp} : ∀ {ks : List NestedKey} {vs : List V}, Dns G vs (ks.map NestedKey.data) → (∀ k ∈ ks, RowK k) → ∃ ps : List RK, vs = ps.map (fun p => V.ref p.1) ∧ ks = ps.map (·.2) ∧ ∀ p ∈ ps, KeyAt G p
  | [], _, h, _ => by
    cases h
    exact ⟨[], rfl, rfl, fun p hp => by cases hp⟩
  | k :: ks, _, h, hk => by
    cases h with
    | cons h1 h2 =>
      obtain ⟨ps, e1, e2, e3⟩ := dns_keys h2 fun k' hk' => hk k' (List.mem_cons_of_mem _ hk')
      have rk := hk k List.mem_cons_self
      obtain ⟨⟨js, rfl⟩, _⟩ := rk
      cases h1 with
      | tup q d =>
        rename_i a xs
        refine ⟨(a, .tup js) :: ps, by rw [e1]; rfl, by rw [e2]; rfl, fun p hp => ?_⟩
        rcases List.mem_cons.mp hp with e | hp
        · subst e
          exact ⟨.tup q d, hk _ List.mem_cons_self⟩
        · exact e3 p hp
mutual
theorem data_inj : ∀ (k j : NestedKey), k.data = j.data → k = j
  | .none, j, h => by cases j <;> simp [NestedKey.data] at h ⊢
  | .num _, j, h => by cases j <;> simp [NestedKey.data] at h ⊢; exact h
  | .text _, j, h => by cases j <;> simp [NestedKey.data] at h ⊢; exact h
  | .tup ks, j, h => by
    cases j <;> simp [NestedKey.data] at h ⊢
    exact datas_inj _ _ h
theorem datas_inj : ∀ (ks js : List NestedKey), NestedKey.datas ks = NestedKey.datas js → ks = js
  | [], js, h => by cases js <;> simp [NestedKey.datas] at h ⊢
  | k :: ks, js, h => by
    cases js <;> simp [NestedKey.datas] at h ⊢
    exact ⟨data_inj _ _ h.1, datas_inj _ _ h.2⟩
end
theorem map_data_inj : ∀ (ks js : List NestedKey), ks.map NestedKey.data = js.map NestedKey.data → ks = js
  | [], js, h => by cases js <;> simp at h ⊢
  | k :: ks, js, h => by
    cases js with
    | nil => simp at h
    | cons j js =>
      rw [List.map_cons, List.map_cons] at h
      injection h with h1 h2
      rw [data_inj _ _ h1, map_data_inj _ _ h2]
/-- set(e1) == set(e2), where both are the same rows -/
def wSetEq (wa wb : WE) : WE := fun ρ Φ => wa ρ fun x ρ1 => (∃ ks : List NestedKey, x = .list (ks.map NestedKey.data) ∧ (∀ k ∈ ks, RowK k) ∧ ks.length ≤ 4096) ∧ wb ρ1 fun y ρ2 => ∃ ks ms : List NestedKey, x = .list (ks.map NestedKey.data) ∧ y = .list (ms.map NestedKey.data) ∧ (∀ k ∈ ks, RowK k) ∧ (∀ k ∈ ms, RowK k) ∧ ks.length ≤ 4096 ∧ ms.length ≤ 4096 ∧
  (∀ k, k ∈ ks ↔ k ∈ ms) ∧ Φ (.bool true) ρ2
theorem rd_setEq {K : PySem.W.Frag} {w : World} {ta tb : TE} {wa wb : WE} (ha : RdE ta wa) (hb : RdE tb wb) : RdE (tOp (rEqS w) (tCB (rSetR K w) (tCons ta tNil)) (tCB (rSetR K w) (tCons tb tNil))) (wSetEq wa wb) := fun B G H σ ρ xs Φ Q R q kk => by
  refine ha B G H σ ρ xs _ (fun v H1 => rSetR K w [v] H1 fun x H2 => tCB (rSetR K w) (tCons tb tNil) σ H2 fun y H3 => rEqS w x y H3 Q) R q fun v d G1 H1 ρ1 s1 R1 d1 q1 => ?_
  have same_of : ∀ {G H : Hp} {v : V} {d : Dt} {ks : List NestedKey}, Same G H → Dn G v d → d = .list (ks.map NestedKey.data) → (∀ k ∈ ks, RowK k) → ∃ (l : Addr) (ps : List RK), v = .ref l ∧ G l = some (.lst (ps.map fun p => V.ref p.1)) ∧ ks = ps.map (·.2) ∧ ∀ p ∈ ps, KeyAt G p := fun sm dn e hk => by
    subst e
    cases dn with
    | lst q dd =>
      obtain ⟨ps, e1, e2, e3⟩ := dns_keys dd hk
      exact ⟨_, ps, rfl, by rw [q, e1], e2, e3⟩
  -- the first list is data now; the second is asked for later: so we ask for it twice
  have hx : ∃ ks : List NestedKey, d = .list (ks.map NestedKey.data) ∧ (∀ k ∈ ks, RowK k) ∧ ks.length ≤ 4096 := q1.1
  obtain ⟨ks, ed, hk, hkl⟩ := hx
  obtain ⟨l, ps, rfl, gl, eks, kat⟩ := same_of R1.sub d1 ed hk
  have hpl : ps.length ≤ 4096 := by
    have := congrArg List.length eks
    rw [List.length_map] at this
    omega
  refine ⟨l, ps, rfl, SqL.of (R1.sub _ _ gl), fun p hp => (kat p hp).gr R1.sub, hpl, fun a L na sub all => ?_⟩
  have R2 := R1.newX na (noT_setRO (w := w) (L := L))
  refine hb B G1 _ σ ρ1 _ _ (fun v H1 => rSetR K w [v] H1 fun y H3 => rEqS w (.ref a) y H3 Q) R2 q1.2 fun v2 d2 G2 H2 ρ2 s2 R3 dn2 q2 => ?_
  obtain ⟨ks', ms, e1, e2, hk', hm, hkl', hml, iff, fin⟩ := q2
  obtain ⟨l2, ps2, rfl, gl2, ems, kat2⟩ := same_of R3.sub dn2 e2 hm
  have hpl2 : ps2.length ≤ 4096 := by
    have := congrArg List.length ems
    rw [List.length_map] at this
    omega
  refine ⟨l2, ps2, rfl, SqL.of (R3.sub _ _ gl2), fun p hp => (kat2 p hp).gr R3.sub, hpl2, fun b M nb sub2 all2 => ?_⟩
  have R4 := R3.newX nb (noT_setRO (w := w) (L := M))
  have ha1 := (R3.ext _ List.mem_cons_self).1
  have hab : a ≠ b := ne_of_none ha1 nb
  have sg2 : Same G2 (upd H2 b (SetRO w b M)) := R4.sub
  have ekk : ks = ks' := by
    have e3 : ks.map NestedKey.data = ks'.map NestedKey.data := by
      have := ed.symm.trans e1
      injection this
    exact map_data_inj _ _ e3
  subst ekk
  refine ⟨a, b, L, M, rfl, rfl, ?_, upd_same, fun p hp => ((kat p (sub p hp)).gr s2).gr sg2, fun p hp => (kat2 p (sub2 p hp)).gr sg2, fun p hp => ?_, fun p hp => ?_, ?_⟩
  · rw [upd_ne hab]
    exact ha1
  · have z : p.2 ∈ ms := (iff _).mp (by rw [eks]; exact List.mem_map.mpr ⟨p, sub p hp, rfl⟩)
    rw [ems] at z
    obtain ⟨p2, hp2, e5⟩ := List.mem_map.mp z
    rw [← e5]
    exact all2 p2 hp2
  · have z : p.2 ∈ ks := (iff _).mpr (by rw [ems]; exact List.mem_map.mpr ⟨p, sub2 p hp, rfl⟩)
    rw [eks] at z
    obtain ⟨p2, hp2, e5⟩ := List.mem_map.mp z
    rw [← e5]
    exact all p2 hp2
  · exact kk _ _ G2 _ ρ2 (s1.trans s2) R4.drop.drop (.bl true) fin
end MP
-- TS3
/-! sorted(set(xs)), sorted({x for x in xs}) of texts, in the hand layer and over data. -/
namespace MP
open PySem PySem.Spec PyProof.Rows L2 LamX
def SetTO (w : World) (a : Addr) (M : List Str) : HO := .ext fun h => SetT w h a M
theorem setTO_new {w : World} {P : Program} {H : Hp} {h : Heap} {a : Addr} {M : List Str} (R : SetT w h a M) : ObjOk P w H h a (SetTO w a M) := by
  have ⟨o, _, _, _, ho, _⟩ := R
  exact ⟨R, ⟨o, ho⟩, fun h1 h2 p k => SetT.at p k⟩
theorem noT_setTO {w : World} {a : Addr} {M : List Str} : NoT a (SetTO w a M) := noT_ext fun hp p => by
  have ⟨o, es, ep, t, ho, _, hd, _⟩ := p
  exact ⟨o, ho, fun vs z => by rw [hd] at z; cases z⟩
section
variable {X : Cx}
theorem setTO_get {pins : List (Addr × Obj)} {σ : L2.St} {H : Hp} {s : Shared} {a : Addr} {M : List Str} (I : Inv X pins σ H s) (ha : H a = some (SetTO X.w a M)) : SetT X.w s.heap a M := (I.hok a _ ha).1
theorem addT_ok {pins : List (Addr × Obj)} {σ : L2.St} {H : Hp} {s : Shared} {E : Value → Shared → Prop} {D : Addr} {M : List Str} {y : Str} {tk : Tok} {Q : Value → Shared → Prop} (I : Inv X pins σ H s) (hD : H D = some (SetTO X.w D M)) (room : M.length + 1 < scanBound)
    (h : ∀ s', Inv X pins σ (upd H D (SetTO X.w D (M ++ [y]))) s' → Q .none s') : wpAny (model X.prog X.w) X.A (call (.builtin "set.add") [.ref D, .str y tk]) Q E s := by
  have R := setTO_get I hD
  refine setT_add R room fun h' sb new => ?_
  have he : ∃ u, h'.get? D = some u := by
    have ⟨o, _, _, _, ho, _⟩ := new
    exact ⟨o, ho⟩
  exact h _ (I.write (e := D) (t' := s.toks + 1) (by rw [hD]; trivial) (.inl rfl) (fun b u hb hu => (sb.2 b hb).trans hu) he (setTO_new new))
/-- set(xs) -/
def rSetT (K : PySem.W.Frag) (w : World) : List V → Hp → VK → Prop := fun xs H Q => ∃ (l : Addr) (zs : List Str), xs = [V.ref l] ∧ (SqL K H l (zs.map V.str) ∨ SqT K H l (zs.map V.str)) ∧ zs.length < 4000 ∧
  ∀ a, H a = none → Q (.ref a) (upd H a (SetTO w a zs))
theorem cr_setT (hc : X.calm = true) : CallR X (.type "set") (rSetT X.K X.w) := by
  intro pins s σ H xs us Q I r h
  obtain ⟨l, zs, rfl, hl, hf, q⟩ := h
  rw [Vals.ref1 r]
  have hn : H s.heap.objs.size = none := I.hok.fresh (Nat.le_refl _)
  have fin : ∀ (h' : Heap) (tk : Nat), SetT X.w h' s.heap.objs.size zs → (∀ b o, s.heap.get? b = some o → h'.get? b = some o) → EP X pins σ Q (.ref s.heap.objs.size) { s with heap := h', toks := tk } := fun h' tk R k =>
    ⟨.ref s.heap.objs.size, upd H s.heap.objs.size (SetTO X.w s.heap.objs.size zs), I.laid (t' := tk) k (Nat.le_refl _) (setTO_new R), rfl, q _ hn⟩
  rcases hl with hl | hl
  · obtain ⟨its, rv, pl, hz⟩ := I.list hl
    exact call_set_texts_list (I.ok.hd hc) pl.isList (by simpa using strsAre_of rv) hf fin
  · obtain ⟨its, rv, pl, hz⟩ := I.tuple hl
    exact call_set_texts_tuple (I.ok.hd hc) pl (by simpa using strsAre_of rv) hf fin
/-- sorted(set) -/
def rSortT (w : World) : List V → Hp → VK → Prop := fun vs H Q => ∃ (a : Addr) (M : List Str), vs = [V.ref a] ∧ H a = some (SetTO w a M) ∧ M.length < 4000 ∧ ∀ p, H p = none → Q (.ref p) (upd H p (.lst ((sset M).map V.str)))
theorem eachVals : ∀ {vs : List Value} {xs : List Str}, PySem.W.EachIs (fun v x => ∃ t, v = Value.str x t) vs xs → Vals (xs.map V.str) vs
  | _, _, .nil => .nil
  | _, _, .cons h t => .cons h (eachVals t)
theorem sset_len (M : List Str) : (sset M).length ≤ M.length := by
  refine nodup_len_le _ _ (srt_sset M).nodup fun x hx => mem_sset.mp hx
theorem cr_sortT (hc : X.calm = true) (hu : X.A.units + 64 < cLine) : CallR X (.builtin "sorted") (rSortT X.w) := by
  intro pins s σ H vs us Q I r h
  obtain ⟨a, M, rfl, ha, hM, q⟩ := h
  rw [Vals.ref1 r]
  refine sorted_setT (setTO_get I ha) (I.ok.hd hc) (by omega) fun s' p out c k g o hp hg hout => ?_
  have hv := eachVals hout
  have hlen : ((sset M).map V.str).length ≤ sizeLine := by
    rw [List.length_map, sizeLine_eq]
    have := sset_len M
    omega
  have hn : H p = none := I.hok.fresh hp
  have J : Inv X pins σ (upd H p (.lst ((sset M).map V.str))) { s with heap := s'.heap, gens := s'.gens, drawn := s'.drawn, toks := s'.toks } :=
    I.call (ch := []) (Un.laid k hp hn) (I.hok.laid k hp ⟨hlen, out.toList, c, hv, hg⟩) (by rw [g]; exact I.bare) (fun _ z => nomatch z)
  have e : s' = { s with heap := s'.heap, gens := s'.gens, drawn := s'.drawn, toks := s'.toks } := by
    cases s'
    cases s
    cases o
    rfl
  rw [e]
  exact ⟨.ref p, _, J, rfl, q p hn⟩
/-! ### {x for ..} -/
def tSct (w : World) (wi : TI) (g : TG) (tt : TT) (te : TE) (vs : List Nat) : TE := fun σ H Q => wi σ H fun J H1 => ∀ D, H1 D = none → ∃ W : Nat → Nat → Hp → Prop, (∃ m, W 0 m (upd H1 D (SetTO w D []))) ∧ ∀ i m H, W i m H →
  (J.stop i H ∧ Q (.ref D) H) ∨ (J.go i H ∧ ∃ Nx : Hp → Prop, (∀ H', Nx H' → ∃ m', m' < m ∧ W (i + 1) m' H') ∧ ∀ x H', J.yld i H x H' → g x (wipe σ vs) H' fun σ2 H2 => wipe σ2 vs = wipe σ vs ∧ tt σ2 H2 fun b H3 =>
    if b = true then te σ2 H3 fun y H4 => ∃ (c : Str) (M : List Str), y = .str c ∧ H4 D = some (SetTO w D M) ∧ M.length + 1 < scanBound ∧ Nx (upd H4 D (SetTO w D (M ++ [c]))) else Nx H3)
theorem sct_core {pins : List (Addr × Obj)} {s : Shared} {σ : L2.St} {H : Hp} {Q : VK} {elt tg iter : Expr} {ifs : List Expr} {scope : Scope} {own : List (PySem.Str × Nat)} {pos pos' : Pos} {wi : TI} {g : TG} {tt : TT} {te : TE} {use : Option (Value → Sem Unit)} {Qf : Value → Shared → Prop}
    (hc : X.calm = true) (hN : X.N.Nodup) (I : Inv X pins σ H s) (hi : PI X tg iter wi) (ok : BlkOk X.N X.env.scope scope own)
    (hg : ∀ (s : Shared) (H : Hp) (C : Addr) (cl : List (PySem.Str × Addr)) (fp : List Addr), PG (X.blk s H scope (compEnvC scope cl C X.env) fp) tg g) (ht : ∀ (s : Shared) (H : Hp) (C : Addr) (cl : List (PySem.Str × Addr)) (fp : List Addr), PTs (X.blk s H scope (compEnvC scope cl C X.env) fp) ifs tt)
    (he : ∀ (s : Shared) (H : Hp) (C : Addr) (cl : List (PySem.Str × Addr)) (fp : List Addr), PE (X.blk s H scope (compEnvC scope cl C X.env) fp) elt te) (hs : ∀ x, foldedSetIterable iter X.env x = pure x)
    (h : tSct X.w wi g tt te (own.map (·.2)) σ H Q)
    (hRR : ∀ D C s' m H', Inv X pins σ H' s' → Q (.ref D) H' → s'.heap.Ns C m → FpOk X pins H' C → compPost (model X.prog X.w) X.A X.xe use Qf (.ref D) C (.ok .next) s') :
    wpAny (model X.prog X.w) X.A (comprehension (.SetComp elt [⟨tg, iter, ifs, 0⟩] scope pos) scope X.env pos' (newSet (.type "set")) false (eval iter X.env) use) Qf X.xe s := by
  have hfree : ∀ y ∈ scope.names, y.2 = .free → ∃ c, X.env.cells.lookup y.1 = some c := fun y hy e => by
    rcases ok.free y hy e with k | k
    · exact I.ok.has _ (.inl k)
    · exact I.ok.has _ (.inr k)
  refine wpAny_comprehension_free (use := use) rfl hs (closure_ok hfree) ok.kind (fun y hy e => by rw [ok.uniq y hy, e])
    (thn (hi.run pins s σ H _ I h) fun xv s1 hx => thn hx fun itv s2 h2 => ?_)
  obtain ⟨it, fp, tn, J, H2, e, I2, T, st2, f2, q⟩ := h2
  subst e
  refine PpSet.newSet_ok (newEnv_comp ?_)
  generalize hD : s2.heap.objs.size = D
  have hDn : H2 D = none := I2.hok.fresh (Nat.le_of_eq hD)
  obtain ⟨W, ⟨m0, w0⟩, turn⟩ := q D hDn
  -- the new list
  generalize hs3 : ({ s2 with heap := s2.heap.push { cls := .type "set", dict := none, data := .set #[] 0 (.fresh 0 0 (!X.w.params.followText "set-order")) } } : Shared) = s3
  have I3 : Inv X pins σ (upd H2 D (SetTO X.w D [])) s3 := by
    rw [← hs3]
    refine I2.laid (t' := s2.toks) (fun b o e => Heap.get?_push_of_some _ e) (Nat.le_of_eq hD) ?_
    rw [← hD]
    exact setTO_new (setT_fresh X.w (Heap.get?_push_size _ rfl))
  have h3 : s3.heap = s2.heap.push { cls := .type "set", dict := none, data := .set #[] 0 (.fresh 0 0 (!X.w.params.followText "set-order")) } := by rw [← hs3]
  have sz : ∀ b ∈ fp, b < s2.heap.objs.size := fun b hb => by
    obtain ⟨o, e, _⟩ := T.obj _ _ st2 b hb
    exact Heap.lt_size e
  have f3 : ∀ b ∈ fp, FpOk X pins (upd H2 D (SetTO X.w D [])) b ∧ b < s3.heap.objs.size := fun b hb => by
    have hlt := sz b hb
    refine ⟨⟨?_, (f2 b hb).2⟩, by rw [h3, Heap.size_push]; exact Nat.lt_succ_of_lt hlt⟩
    rw [upd_ne (by rw [← hD]; exact Nat.ne_of_lt hlt)]
    exact (f2 b hb).1
  have st3 : tn 0 s3.heap := T.keep _ _ _ st2 fun b _ o e => by rw [h3]; exact Heap.get?_push_of_some _ e
  have I4 := block_start I3 ok hN f3
  have pg := hg s3 (upd H2 D (SetTO X.w D [])) s3.heap.objs.size (cellsFrom (s3.heap.objs.size + 1) scope.names (cloFrom X.env.cells scope.names [])) fp
  have pt := ht s3 (upd H2 D (SetTO X.w D [])) s3.heap.objs.size (cellsFrom (s3.heap.objs.size + 1) scope.names (cloFrom X.env.cells scope.names [])) fp
  have pe := he s3 (upd H2 D (SetTO X.w D [])) s3.heap.objs.size (cellsFrom (s3.heap.objs.size + 1) scope.names (cloFrom X.env.cells scope.names [])) fp
  show codeAny _ _ (.compStart (.SetComp elt [⟨tg, iter, ifs, 0⟩] scope pos) 0 (.ref it) (.ref D) (compEnvC scope (cellsFrom (s3.heap.objs.size + 1) scope.names (cloFrom X.env.cells scope.names [])) s3.heap.objs.size X.env)) (compPost (model X.prog X.w) X.A X.xe use Qf (.ref D) s3.heap.objs.size) { s3 with heap := pushCells (s3.heap.push { cls := .type "dict", data := .dict #[] }) scope.names }
  have nfp : ∀ b ∈ fp, (upd H2 D (SetTO X.w D [])) b = none := fun b hb => (f3 b hb).1.1
  generalize hce : compEnvC scope (cellsFrom (s3.heap.objs.size + 1) scope.names (cloFrom X.env.cells scope.names [])) s3.heap.objs.size X.env = ce at I4 pg pt pe ⊢
  have cL : ce.locals = s3.heap.objs.size := by subst hce; rfl
  generalize hH3 : upd H2 D (SetTO X.w D []) = H3 at I3 I4 pg pt pe w0 nfp f3
  generalize hs4 : ({ s3 with heap := pushCells (s3.heap.push { cls := .type "dict", data := .dict #[] }) scope.names } : Shared) = s4 at I4 ⊢
  have st4 : tn 0 s4.heap := T.keep _ _ _ st3 fun b _ o e => by rw [← hs4]; exact pushCells_keeps _ _ _ _ (Heap.get?_push_of_some _ e)
  have stat : ∀ {σ' : L2.St} {H' : Hp} {s' : Shared}, Inv (X.blk s3 H3 scope ce fp) [] σ' H' s' → (∀ b ∈ fp, H' b = none) → ∀ b ∈ fp, FpOk (X.blk s3 H3 scope ce fp) [] H' b := fun {σ' H' s'} I' hn b hb =>
    ⟨hn b hb, (I'.ok.exf b hb).1, I'.ok.exfs b hb, .inl hb, fun x c e => (I'.ok.exf b hb).2 x c e, fun p hp => absurd (show p ∈ ([] : List (Addr × Obj)) ++ [] from hp) (by simp)⟩
  have loop : codeAny (model X.prog X.w) X.A (.compLoop (.SetComp elt [⟨tg, iter, ifs, 0⟩] scope pos) 0 (.ref it) (.ref D) ce) (compPost (model X.prog X.w) X.A X.xe use Qf (.ref D) s3.heap.objs.size) s4 := by
    refine PpSet.compLoopS_any (fun n s' => ∃ i H', Inv (X.blk s3 H3 scope ce fp) [] (wipe σ (own.map (·.2))) H' s' ∧ tn i s'.heap ∧ (∀ b ∈ fp, H' b = none) ∧ W i n H') ?_ m0 ⟨0, H3, I4, st4, nfp, w0⟩
    rintro n s5 ⟨i, H5, I5, st5, n5, w5⟩
    rcases turn i n H5 w5 with ⟨stop, qq⟩ | ⟨go, Nx, hNx, step⟩
    · have td := T.done (X.blk s3 H3 scope ce fp) rfl rfl rfl hc i [] s5 _ H5 (fun _ _ => False) I5 (stat I5 n5) st5 stop
      refine thnF td fun r s6 ⟨hr, I6⟩ => ?_
      subst hr
      -- back in the def's context
      have I7 : Inv X pins σ H5 s6 := I3.call' (ch := fp) I6.os I6.base I6.hok I6.bare fun b hb => ⟨(f3 b hb).1.2.2.2.1, (f3 b hb).1.2.1, (f3 b hb).1.2.2.2.2.1, (f3 b hb).1.2.2.2.2.2⟩
      have nC : H5 s3.heap.objs.size = none := by
        have z : H5 ce.locals = none := I6.free
        rw [cL] at z
        exact z
      obtain ⟨m, hn, _⟩ := I6.loc
      have hn : s6.heap.Ns ce.locals m := hn
      rw [cL] at hn
      exact hRR D s3.heap.objs.size s6 m H5 I7 qq hn (I3.fpOk (Nat.le_refl _) nC)
    · have ti := T.item (X.blk s3 H3 scope ce fp) rfl rfl rfl hc i [] s5 _ H5 (fun _ _ => False) I5 (stat I5 n5) st5 go
      refine thnF ti fun r s6 ⟨u, hr, h6⟩ => ?_
      subst hr
      refine thnF h6 fun _ s7 ⟨x, H7, I7, r7, y7, st7, n7⟩ => ?_
      have I7' := I7.pinned (stat I7 n7) (T.obj _ _ st7)
      refine thnF (pg.run _ s7 _ H7 x u _ I7' r7 (step x H7 y7)) fun _ s8 ⟨σ8, H8, I8, hw8, q8⟩ => ?_
      refine thnF (pt.run _ s8 σ8 H8 _ I8 q8) fun b s9 ⟨H9, I9, q9⟩ => ?_
      -- the turn's end
      have fin : ∀ {s' : Shared} {H' : Hp}, Inv (X.blk s3 H3 scope ce fp) ([] ++ pinsAt fp s7.heap) σ8 H' s' → Nx H' → ∃ m, m < n ∧ ∃ i H', Inv (X.blk s3 H3 scope ce fp) [] (wipe σ (own.map (·.2))) H' s' ∧ tn i s'.heap ∧ (∀ b ∈ fp, H' b = none) ∧ W i m H' := fun {s' H'} I' nx => by
        obtain ⟨m', hm, w'⟩ := hNx H' nx
        have pin' : ∀ b ∈ fp, ∀ o, s7.heap.get? b = some o → s'.heap.get? b = some o ∧ H' b = none := fun b hb o e =>
          let z := I'.pin (b, o) (List.mem_append_right _ (List.mem_append_right _ (mem_pinsAt hb e)))
          ⟨z.1, z.2.1⟩
        have hl : (wipe σ (own.map (·.2))).length = σ8.length := by rw [← hw8, wipe_length]
        refine ⟨m', hm, i + 1, H', (I'.unpinned (pins := [])).weak hl (fun j v e => ?_), T.keep _ _ _ st7 fun b hb o e => (pin' b hb o e).1, fun b hb => ?_, w'⟩
        · rw [← hw8] at e
          exact (wipe_some e).1
        · obtain ⟨o, e, _⟩ := T.obj _ _ st7 b hb
          exact (pin' b hb o e).2
      cases b with
      | false =>
        simp only [Bool.false_eq_true, if_false] at q9 ⊢
        exact fin I9 q9
      | true =>
        simp only [if_true] at q9 ⊢
        refine thnF (pe.run _ s9 σ8 H9 _ I9 q9) fun z s10 ⟨yv, H10, I10, r10, cb, M0, ey, hD10, hz10, nx⟩ => ?_
        subst ey
        obtain ⟨tk, rfl⟩ := (show RelV (.str cb) z from r10)
        exact addT_ok (X := X.blk s3 H3 scope ce fp) I10 hD10 hz10 fun s11 I11 => fin I11 nx
  exact PpSet.codeAny_compStart_set loop (T.self X.A 0 _ _ _ st4 loop)
/-- as a value -/
theorem pe_sct {elt tg iter : Expr} {ifs : List Expr} {scope : Scope} {own : List (PySem.Str × Nat)} {pos : Pos} {wi : TI} {g : TG} {tt : TT} {te : TE} (hc : X.calm = true) (hN : X.N.Nodup) (hi : PI X tg iter wi) (ok : BlkOk X.N X.env.scope scope own)
    (hg : ∀ (s : Shared) (H : Hp) (C : Addr) (cl : List (PySem.Str × Addr)) (fp : List Addr), PG (X.blk s H scope (compEnvC scope cl C X.env) fp) tg g) (ht : ∀ (s : Shared) (H : Hp) (C : Addr) (cl : List (PySem.Str × Addr)) (fp : List Addr), PTs (X.blk s H scope (compEnvC scope cl C X.env) fp) ifs tt)
    (he : ∀ (s : Shared) (H : Hp) (C : Addr) (cl : List (PySem.Str × Addr)) (fp : List Addr), PE (X.blk s H scope (compEnvC scope cl C X.env) fp) elt te) (hs : ∀ x, foldedSetIterable iter X.env x = pure x := by intro _; rfl) :
    PE X (.SetComp elt [⟨tg, iter, ifs, 0⟩] scope pos) (tSct X.w wi g tt te (own.map (·.2))) := by
  refine ⟨fun pins s σ H Q I h => ?_⟩
  rw [PpSet.eval_SetComp]
  refine sct_core hc hN I hi ok hg ht he hs h fun D C s' m H' I' q hn f => ⟨m, hn, fun h'' sb => ?_⟩
  obtain ⟨f0, f1, f2, f3, f4, f5⟩ := f
  exact ⟨.ref D, H', I'.turned (t' := s'.toks) (fun b o hb e => (sb.2 b hb).trans e) f0 f1 f3 f4 f5, rfl, q⟩
end
theorem sct_it {w : World} {J : It} {n : Nat} {G : Hp → Prop} {Y : Nat → Hp → V → Hp → Prop} (wk : Walk J n G Y) {g : TG} {tt : TT} {te : TE} {vs : List Nat} {σ : L2.St} {H1 : Hp} {D : Addr} {Qd : Hp → Prop} (Pv : Nat → Hp → Prop) (h0 : Pv 0 (upd H1 D (SetTO w D []))) (hG : ∀ i H, i ≤ n → Pv i H → G H)
    (hs : ∀ i x H H', i < n → Pv i H → Y i H x H' → g x (wipe σ vs) H' fun σ2 H2 => wipe σ2 vs = wipe σ vs ∧ tt σ2 H2 fun b H3 =>
      if b = true then te σ2 H3 fun y H4 => ∃ (c : Str) (M : List Str), y = .str c ∧ H4 D = some (SetTO w D M) ∧ M.length + 1 < scanBound ∧ Pv (i + 1) (upd H4 D (SetTO w D (M ++ [c]))) else Pv (i + 1) H3) (hd : ∀ H, Pv n H → Qd H) :
    ∃ W : Nat → Nat → Hp → Prop, (∃ m, W 0 m (upd H1 D (SetTO w D []))) ∧ ∀ i m H, W i m H →
      (J.stop i H ∧ Qd H) ∨ (J.go i H ∧ ∃ Nx : Hp → Prop, (∀ H', Nx H' → ∃ m', m' < m ∧ W (i + 1) m' H') ∧ ∀ x H', J.yld i H x H' → g x (wipe σ vs) H' fun σ2 H2 => wipe σ2 vs = wipe σ vs ∧ tt σ2 H2 fun b H3 =>
        if b = true then te σ2 H3 fun y H4 => ∃ (c : Str) (M : List Str), y = .str c ∧ H4 D = some (SetTO w D M) ∧ M.length + 1 < scanBound ∧ Nx (upd H4 D (SetTO w D (M ++ [c]))) else Nx H3) := by
  refine ⟨fun i m H => m = n - i ∧ i ≤ n ∧ Pv i H, ⟨n, by simp, Nat.zero_le _, h0⟩, ?_⟩
  rintro i m H ⟨rfl, hi, p⟩
  have q := hG i H hi p
  by_cases hlt : i < n
  · exact .inr ⟨wk.goes i H hlt q, Pv (i + 1), fun H' p' => ⟨n - (i + 1), by omega, rfl, hlt, p'⟩, fun x H' y => hs i x H H' hlt p (wk.yields i H x H' hlt q y)⟩
  · have e : i = n := by omega
    subst e
    exact .inl ⟨wk.stops H q, hd H p⟩
/-! ### over data -/
def stsD (ns : List Str) : List Dt := ns.map .str
/-- a new set of texts -/
def RdX (W : World) (te : TE) (w : WA) : Prop := ∀ (B : Bs) (G H : Hp) (σ : L2.St) (ρ : Ev) (xs : List (Addr × HO)) (Φ : List Dt → Ev → Prop) (Q : VK), Rep B G H σ ρ xs → w ρ Φ →
  (∀ l M G' H' ρ', Same G G' → Rep B G' H' σ ρ' ((l, SetTO W l M) :: xs) → Φ (stsD M) ρ' → Q (.ref l) H') → te σ H Q
theorem dns_strs {G : Hp} : ∀ {vs : List V} {zs : List Str}, Dns G vs (stsD zs) → vs = zs.map V.str
  | _, [], h => by cases h; rfl
  | _, z :: zs, h => by
    cases h with
    | cons h t =>
      cases h
      rw [dns_strs t] <;> rfl
theorem strs_dns {G : Hp} : ∀ (zs : List Str), Dns G (zs.map V.str) (stsD zs)
  | [] => .nil
  | z :: zs => .cons (.str z) (strs_dns zs)
def wSetT (we : WE) : WA := fun ρ Φ => we ρ fun d ρ1 => ∃ zs : List Str, (d = .list (stsD zs) ∨ d = .tuple (stsD zs)) ∧ zs.length < 4000 ∧ Φ (stsD zs) ρ1
theorem rd_setT {K : PySem.W.Frag} {W : World} {te : TE} {we : WE} (h : RdE te we) : RdX W (tCB (rSetT K W) (tCons te tNil)) (wSetT we) := fun B G H σ ρ xs Φ Q R q k => by
  refine h B G H σ ρ xs _ (fun v H1 => rSetT K W [v] H1 Q) R q fun v d G1 H1 ρ1 s1 R1 d1 ⟨zs, e, hz, h1⟩ => ?_
  have key : ∃ l, v = .ref l ∧ (SqL K H1 l (zs.map V.str) ∨ SqT K H1 l (zs.map V.str)) := by
    rcases e with e | e
    · subst e
      cases d1 with
      | lst q dd =>
        rw [dns_strs dd] at q
        exact ⟨_, rfl, .inl (SqL.of (R1.sub _ _ q))⟩
    · subst e
      cases d1 with
      | tup q dd =>
        rw [dns_strs dd] at q
        exact ⟨_, rfl, .inr (SqT.of (R1.sub _ _ q))⟩
  obtain ⟨l, rfl, hs⟩ := key
  exact ⟨l, zs, rfl, hs, hz, fun a ha => k a zs G1 _ ρ1 s1 (R1.newX ha noT_setTO) h1⟩
def wSortT (w : WA) : WA := fun ρ Φ => w ρ fun ds ρ1 => ∃ zs : List Str, ds = stsD zs ∧ zs.length < 4000 ∧ Φ (stsD (sset zs)) ρ1
theorem stsD_inj : ∀ {xs ys : List Str}, stsD xs = stsD ys → xs = ys
  | [], [], _ => rfl
  | [], _ :: _, h => by cases h
  | _ :: _, [], h => by cases h
  | x :: xs, y :: ys, h => by
    have h : PyData.str x :: stsD xs = PyData.str y :: stsD ys := h
    injection h with h1 h2
    injection h1 with h1
    rw [h1, stsD_inj h2]
theorem rd_sortT {W : World} {te : TE} {w : WA} (h : RdX W te w) : RdF (tCB (rSortT W) (tCons te tNil)) (wSortT w) := fun B G H σ ρ xs Φ Q R q k => by
  refine h B G H σ ρ xs _ (fun v H1 => rSortT W [v] H1 Q) R q fun l M G1 H1 ρ1 s1 R1 ⟨zs, e, hz, h1⟩ => ?_
  have e := stsD_inj e
  subst e
  exact ⟨l, M, rfl, (R1.ext _ List.mem_cons_self).1, hz, fun p hp => k p _ _ G1 _ ρ1 s1 (R1.drop.newX hp noT_lst) (strs_dns _) h1⟩
theorem rd_sct {W : World} {ix vs : List Nat} {wi : TI} {wI : WI} {g : TG} {wg : WG} {tt : TT} {wt : WT} {te : TE} {we : WE} (hi : RdI wi wI) (hg : RdG ix g wg) (ht : RdT tt wt) (he : RdE te we) (hix : ∀ i ∈ ix, i ∈ vs) :
    RdX W (tSct W wi g tt te vs) (fun ρ Φ => wI ρ fun ds ρ1 => ds.length ≤ 3999 ∧ wLc wg wt (fun ρ Ψ => we ρ fun d ρ' => (∃ x, d = .str x) ∧ Ψ d ρ') vs ds (wipeE ρ1 vs) Φ) := fun B G H σ ρ xs Φ Q R q k => by
  refine hi B G H σ ρ xs _ _ R q fun J ds G1 H1 ρ1 s1 R1 ⟨hz, h1⟩ hj => ?_
  intro D hD
  have Wk : Walk J ds.length (fun H => Same G1 H) (fun i H x H' => ∃ d, ds[i]? = some d ∧ ∀ G2, Same G1 G2 → Same G2 H → ∃ G3, Post G2 H G3 H' ∧ Dn G3 x d) := ⟨hj.goes, hj.stops, hj.yields⟩
  have R2 : Rep B G1 (upd H1 D (SetTO W D [])) (wipe σ vs) (wipeE ρ1 vs) ((D, SetTO W D []) :: xs) := (R1.newX hD noT_setTO).wipe vs
  refine sct_it Wk (fun i H' => ∃ G' ρ' M, Same G1 G' ∧ Rep B G' H' (wipe σ vs) ρ' ((D, SetTO W D M) :: xs) ∧ wipeE ρ' vs = ρ' ∧ M.length ≤ i ∧ wLc wg wt (fun ρ Ψ => we ρ fun d ρ' => (∃ x, d = .str x) ∧ Ψ d ρ') vs (ds.drop i) ρ' (fun more ρ4 => Φ (stsD M ++ more) ρ4))
    ⟨G1, wipeE ρ1 vs, [], Same.refl G1, R2, wipeE_wipe ρ1 vs, Nat.le_refl 0, h1⟩ (fun i H' _ ⟨G', _, _, s', R', _⟩ => s'.trans R'.sub) (fun i x H' H2 hi2 ⟨G', ρ', M, s', R', wp, hl, h'⟩ ⟨d, e, y⟩ => ?_) fun H' ⟨G', ρ', M, s', R', wp, hl, h'⟩ => ?_
  · obtain ⟨G3, p3, dx⟩ := y G' s' R'.sub
    have e2 : ds.drop i = d :: ds.drop (i + 1) := by
      rw [List.drop_eq_getElem_cons hi2]
      rw [List.getElem?_eq_getElem hi2] at e
      rw [Option.some.inj e]
    rw [e2] at h'
    have s3 := p3.same R'.sub
    have step : ∀ {G5 H5 : Hp} {σ4 : L2.St} {ρ5 : Ev} {M2 : List Str}, Same G' G5 → Rep B G5 H5 σ4 ρ5 ((D, SetTO W D M2) :: xs) → wipe σ4 vs = wipe σ vs → M2.length ≤ i + 1 → wLc wg wt (fun ρ Ψ => we ρ fun d ρ' => (∃ x, d = .str x) ∧ Ψ d ρ') vs (ds.drop (i + 1)) (wipeE ρ5 vs) (fun more ρ4 => Φ (stsD M2 ++ more) ρ4) →
        ∃ G' ρ' M, Same G1 G' ∧ Rep B G' H5 (wipe σ vs) ρ' ((D, SetTO W D M) :: xs) ∧ wipeE ρ' vs = ρ' ∧ M.length ≤ i + 1 ∧ wLc wg wt (fun ρ Ψ => we ρ fun d ρ' => (∃ x, d = .str x) ∧ Ψ d ρ') vs (ds.drop (i + 1)) ρ' (fun more ρ4 => Φ (stsD M ++ more) ρ4) := fun {G5 H5 σ4 ρ5 M2} s5 R5 ws hl5 h5 =>
      ⟨G5, wipeE ρ5 vs, M2, s'.trans s5, by rw [← ws]; exact R5.wipe vs, wipeE_wipe ρ5 vs, hl5, h5⟩
    refine hg B G3 H2 (wipe σ vs) ρ' _ x d _ _ (R'.grow p3) dx h' fun σ4 ρ4 R4 ws h4 => ?_
    have ws' : wipe σ4 vs = wipe σ vs := (ws vs hix).trans (wipe_wipe σ vs)
    refine ⟨ws', ?_⟩
    refine ht B G3 H2 σ4 ρ4 _ _ _ R4 h4 fun b G5 H5 ρ5 s5 R5 h5 => ?_
    cases b with
    | false => exact iteF (step (s3.trans s5) R5 ws' (Nat.le_succ_of_le hl) h5)
    | true =>
      refine iteT ?_
      refine he B G5 H5 σ4 ρ5 _ _ _ R5 h5 fun y dy G6 H6 ρ6 s6 R6 d6 ⟨⟨c, ec⟩, h6⟩ => ?_
      subst ec
      cases d6
      refine ⟨c, M, rfl, (R6.ext _ List.mem_cons_self).1, ?_, ?_⟩
      · unfold scanBound
        omega
      · refine step (M2 := M ++ [c]) (s3.trans (s5.trans s6)) (R6.extW noT_setTO) ws' ?_ ?_
        · rw [List.length_append, List.length_singleton]
          omega
        · have e7 : (fun (more : List Dt) (ρ4 : Ev) => Φ (stsD (M ++ [c]) ++ more) ρ4) = fun more ρ4 => Φ (stsD M ++ .str c :: more) ρ4 := by
            funext more ρ4
            unfold stsD
            rw [List.map_append, List.append_assoc] <;> rfl
          rw [e7]
          exact h6
  · rw [List.drop_length] at h'
    have h'' : Φ (stsD M) ρ' := by
      have : Φ (stsD M ++ []) ρ' := h'
      rw [List.append_nil] at this
      exact this
    refine k D M G' H' ρ' (s1.trans s') (R'.sig (fun i => ?_) (by rw [wipe_length])) h''
    rw [← wp, wipeE_get]
    by_cases c : i ∈ vs
    · rw [if_pos c]
      cases q : ρ'[i]? with
      | none =>
        right
        have hi3 : ¬ i < (wipe σ vs).length := by
          rw [R'.len]
          intro z
          rw [List.getElem?_eq_getElem z] at q
          cases q
        have wl := wipe_length σ vs
        rw [List.getElem?_eq_none (by omega), List.getElem?_eq_none (by omega)]
      | some s => exact .inl rfl
    · right
      rw [wipe_get, if_neg c]
section
variable {X : Cx} {e elt tg iter : Expr} {ifs : List Expr} {te : TE} {we : WE} {tt : TT} {wt : WT} {pos p p2 pos2 : Pos}
/-- sorted(set(e)) -/
theorem fe_sortSet {x y : Str} (hc : X.calm = true) (hu : X.A.units + 64 < cLine) (h : DE X e te we) (hg : Gl X "sorted") (hm : X.mg "sorted" = none) (hg2 : Gl X "set") (hm2 : X.mg "set" = none)
    (he : starEach [e] X.env = (false, eval e X.env) :: starEach [] X.env := by rfl) (he2 : starEach [.Call (.Name "set" p2) [e] [] pos2] X.env = (false, eval (.Call (.Name "set" p2) [e] [] pos2) X.env) :: starEach [] X.env := by rfl) :
    FE X (.Call (.Name "sorted" p) [.Call (.Name "set" p2) [e] [] pos2] [] pos) (tCB (rSortT X.w) (tCons (tCB (rSetT X.K X.w) (tCons te tNil)) tNil)) (wSortT (wSetT we)) :=
  ⟨pe_callB (cr_sortT hc hu) hg hm boot_sorted (pa_cons (pe_callTy (cr_setT hc) hg2 hm2 boot_set (pa_cons h.pe pa_nil he) (by decide) (by decide) he) pa_nil he2) (by decide) (by decide) he2, rd_sortT (rd_setT h.rd)⟩
/-- sorted({elt for ..}) -/
theorem fe_sortSetC {scope : Scope} {own : List (Str × Nat)} {ix : List Nat} {wi : TI} {wI : WI} {g : TG} {wg : WG} (hc : X.calm = true) (hu : X.A.units + 64 < cLine) (hN : X.N.Nodup) (hgs : Gl X "sorted") (hm : X.mg "sorted" = none) (hi : DI X tg iter wi wI) (ok : BlkOk X.N X.env.scope scope own)
    (hg : ∀ (s : Shared) (H : Hp) (C : Addr) (cl : List (Str × Addr)) (fp : List Addr), DG (X.blk s H scope (compEnvC scope cl C X.env) fp) ix tg g wg) (ht : ∀ (s : Shared) (H : Hp) (C : Addr) (cl : List (Str × Addr)) (fp : List Addr), DTs (X.blk s H scope (compEnvC scope cl C X.env) fp) ifs tt wt)
    (he : ∀ (s : Shared) (H : Hp) (C : Addr) (cl : List (Str × Addr)) (fp : List Addr), DE (X.blk s H scope (compEnvC scope cl C X.env) fp) elt te we) (hix : ∀ i ∈ ix, i ∈ own.map (·.2) := by decide) (hs : ∀ x, foldedSetIterable iter X.env x = pure x := by intro _; rfl)
    (he2 : starEach [.SetComp elt [⟨tg, iter, ifs, 0⟩] scope pos2] X.env = (false, eval (.SetComp elt [⟨tg, iter, ifs, 0⟩] scope pos2) X.env) :: starEach [] X.env := by rfl) :
    FE X (.Call (.Name "sorted" p) [.SetComp elt [⟨tg, iter, ifs, 0⟩] scope pos2] [] pos) (tCB (rSortT X.w) (tCons (tSct X.w wi g tt te (own.map (·.2))) tNil))
      (wSortT (fun ρ Φ => wI ρ fun ds ρ1 => ds.length ≤ 3999 ∧ wLc wg wt (fun ρ Ψ => we ρ fun d ρ' => (∃ x, d = .str x) ∧ Ψ d ρ') (own.map (·.2)) ds (wipeE ρ1 (own.map (·.2))) Φ)) :=
  ⟨pe_callB (cr_sortT hc hu) hgs hm boot_sorted (pa_cons (pe_sct hc hN hi.pi ok (fun s H C cl fp => (hg s H C cl fp).pg) (fun s H C cl fp => (ht s H C cl fp).pt) (fun s H C cl fp => (he s H C cl fp).pe) hs) pa_nil he2) (by decide) (by decide) he2,
    rd_sortT (rd_sct hi.rd (hg {} (fun _ => none) 0 [] []).rd (ht {} (fun _ => none) 0 [] []).rd (he {} (fun _ => none) 0 [] []).rd hix)⟩
end
end MP
-- ZP1
/-! zip of a list and a tuple (turned from the proofs about two lists, two tuples). -/
namespace MP
open PySem
open PySem.Sem (wp)
open PySem.W (KdxIt kdx_alive)
section
variable {prog : Program} {w : World} {A : Around} {E : Value → Shared → Prop} {s : Shared}
theorem zipM_next_item {z TI TO i1 i2 l1 l2 : Addr} {k1 k2 : Nat} {xs ys : Array Value} {x y a b : Value} {Q : Value → Shared → Prop} (D : ZipApart z TI TO i1 i2 l1 l2)
    (hz : IsZip s.heap z TI TO .none) (hTI : IsPair s.heap TI (.ref i1) (.ref i2)) (hTO : IsPair s.heap TO a b)
    (h1 : s.heap.IsListIter i1 l1 k1) (h2 : s.heap.IsTupleIter i2 l2 k2) (hl1 : s.heap.IsList l1 xs) (hl2 : s.heap.IsTuple l2 ys) (hx : xs[k1]? = some x) (hy : ys[k2]? = some y)
    (hQ : ∀ h', IsZip h' z TI TO (rawInt s.heap.objs.size) → IsPair h' TO x y → h'.IsListIter i1 l1 (k1 + 1) → h'.IsTupleIter i2 l2 (k2 + 1) → IsPair h' s.heap.objs.size x y → h'.objs.size = s.heap.objs.size + 1 →
      (∀ c o, c ≠ z → c ≠ TO → c ≠ i1 → c ≠ i2 → s.heap.get? c = some o → h'.get? c = some o) → Q (.ref s.heap.objs.size) { s with heap := h' }) :
    wpAny (model prog w) A (Builtin.«zip.__next__» ⟨[.ref z], []⟩) (fun fin s' => ∃ v, fin = .done (.ret v) ∧ Q v s') E s := by
  show wpAny _ _ (field (.ref z) 2 >>= _) _ _ _
  refine wpAny_bind (wpAny_field hz rfl (x := .bool false) rfl ?_)
  show wpAny _ _ (field (.ref z) 3 >>= _) _ _ _
  refine wpAny_bind (wpAny_field hz rfl (x := .ref TI) rfl ?_)
  refine wpAny_bind (wpAny_seqItems hTI rfl ?_)
  show wpAny _ _ (Builtin.SmallTypes.ownedTupleIsFree (.ref z) >>= _) _ _ _
  refine wpAny_bind ?_
  unfold Builtin.SmallTypes.ownedTupleIsFree
  refine wpAny_bind (wpAny_field hz rfl (x := .none) rfl (wpAny_pure ?_))
  simp only [if_true]
  refine wpAny_bind (wpAny_rule ?_)
  refine wpAny_bind (wpAny_field hz rfl (x := .ref TO) rfl ?_)
  refine wpAny_bind (wpAny_setField_rec hz (by simp) fun h₁ hz₁ hs₁ => ?_)
  replace hz₁ : IsZip h₁ z TI TO .ellipsis := hz₁
  refine wpAny_bind ?_
  simp only [List.zipIdx_cons, List.zipIdx_nil, List.forIn_cons, List.forIn_nil]
  refine wpAny_bind (wpAny_bind (wpAny_onRaise ?_))
  show wpAny _ _ (Builtin.SmallTypes.nextOf (.ref i1) >>= _) _ _ _
  refine wpAny_bind (PySem.wpAny_nextOf_list_item (h1.extBut hs₁.extBut D.i1z) (hl1.extBut hs₁.extBut D.l1z) hx fun h₂ h1₂ hs₂ => wpAny_pure ?_)
  have hTO₂ : IsPair h₂ TO a b := hs₂.extBut _ _ D.TOi1 (hs₁.extBut _ _ D.TOz hTO)
  refine wpAny_bind (wpAny_seqItems hTO₂ rfl ?_)
  refine wpAny_bind (wpAny_updateSeq_pair hTO₂ fun h₃ hTO₃ hs₃ => ?_)
  replace hTO₃ : IsPair h₃ TO x b := hTO₃
  refine wpAny_bind (wpAny_letGo (wpAny_pure ?_))
  refine wpAny_bind (wpAny_bind (wpAny_onRaise ?_))
  show wpAny _ _ (Builtin.SmallTypes.nextOf (.ref i2) >>= _) _ _ _
  refine wpAny_bind (RZ.nextOf_tuple_item (((h2.extBut hs₁.extBut D.i2z).extBut hs₂.extBut D.i12.symm).extBut hs₃.extBut D.TOi2.symm)
    (((hl2.extBut hs₁.extBut D.l2z).extBut hs₂.extBut D.l2i1).extBut hs₃.extBut D.l2TO) hy fun h₄ h2₄ hs₄ => wpAny_pure ?_)
  have hTO₄ : IsPair h₄ TO x b := hs₄.extBut _ _ D.TOi2 hTO₃
  refine wpAny_bind (wpAny_seqItems hTO₄ rfl ?_)
  refine wpAny_bind (wpAny_updateSeq_pair hTO₄ fun h₅ hTO₅ hs₅ => ?_)
  replace hTO₅ : IsPair h₅ TO x y := hTO₅
  refine wpAny_bind (wpAny_letGo (wpAny_pure (wpAny_pure ?_)))
  refine wpAny_bind (wpAny_seqItems hTO₅ rfl ?_)
  refine wpAny_bind (wpAny_newTuple ?_)
  have hsz : h₅.objs.size = s.heap.objs.size := by rw [hs₅.1, hs₄.1, hs₃.1, hs₂.1, hs₁.1]
  have hz₅ : IsZip h₅ z TI TO .ellipsis := hs₅.extBut _ _ D.TOz.symm (hs₄.extBut _ _ D.i2z.symm (hs₃.extBut _ _ D.TOz.symm (hs₂.extBut _ _ D.i1z.symm hz₁)))
  have hk₅ : ∀ c o, c ≠ z → c ≠ TO → c ≠ i1 → c ≠ i2 → s.heap.get? c = some o → h₅.get? c = some o := fun c o c1 c2 c3 c4 e =>
    hs₅.extBut _ _ c2 (hs₄.extBut _ _ c4 (hs₃.extBut _ _ c2 (hs₂.extBut _ _ c3 (hs₁.extBut _ _ c1 e))))
  have h1₅ : h₅.IsListIter i1 l1 (k1 + 1) := ((h1₂.extBut hs₃.extBut D.TOi1.symm).extBut hs₄.extBut D.i12).extBut hs₅.extBut D.TOi1.symm
  have h2₅ : h₅.IsTupleIter i2 l2 (k2 + 1) := h2₄.extBut hs₅.extBut D.TOi2.symm
  have hzlt : z < h₅.objs.size := Heap.lt_size hz₅
  have hTOlt : TO < h₅.objs.size := Heap.lt_size hTO₅
  have hi1lt : i1 < h₅.objs.size := by obtain ⟨_, e, _⟩ := h1₅; exact Heap.lt_size e
  have hi2lt : i2 < h₅.objs.size := by obtain ⟨_, e, _⟩ := h2₅; exact Heap.lt_size e
  show wpAny _ _ (Builtin.SmallTypes.ownedTupleHandOut (.ref z) (.ref h₅.objs.size) >>= _) _ _ _
  refine wpAny_bind ?_
  unfold Builtin.SmallTypes.ownedTupleHandOut
  have hz₆ : IsZip (h₅.push { cls := .type "tuple", data := .seq #[x, y] }) z TI TO .ellipsis := Heap.get?_push_of_some _ hz₅
  refine wpAny_bind (wpAny_setField_rec hz₆ (by simp) fun h₇ hz₇ hs₇ => ?_)
  replace hz₇ : IsZip h₇ z TI TO (rawInt h₅.objs.size) := hz₇
  refine wpAny_setField_rec hz₇ (by simp) fun h₈ hz₈ hs₈ => ?_
  replace hz₈ : IsZip h₈ z TI TO (rawInt h₅.objs.size) := hz₈
  have up : ∀ c o, c ≠ z → h₅.get? c = some o → h₈.get? c = some o := fun c o c1 e => hs₈.extBut _ _ c1 (hs₇.extBut _ _ c1 (Heap.get?_push_of_some _ e))
  have hT₈ : IsPair h₈ h₅.objs.size x y := hs₈.extBut _ _ (Nat.ne_of_gt hzlt) (hs₇.extBut _ _ (Nat.ne_of_gt hzlt) (Heap.get?_push_size _ rfl))
  have hz8 : h₈.objs.size = h₅.objs.size + 1 := by rw [hs₈.1, hs₇.1, Heap.size_push]
  rw [hsz] at hz₈ hT₈ hz8
  refine wpAny_pure ⟨_, rfl, ?_⟩
  show Q (.ref h₅.objs.size) _
  rw [hsz]
  exact hQ h₈ hz₈ (up _ _ D.TOz hTO₅) (h1₅.at fun o e => up _ o D.i1z e) (h2₅.at fun o e => up _ o D.i2z e) hT₈ hz8 fun c o c1 c2 c3 c4 e => up c o c1 (hk₅ c o c1 c2 c3 c4 e)
theorem zipM_next_end {z TI TO i1 i2 l1 l2 : Addr} {k1 k2 : Nat} {xs ys : Array Value} {a b : Value} {Q : Fin → Shared → Prop} (hh : A.handled = none) (D : ZipApart z TI TO i1 i2 l1 l2)
    (hz : IsZip s.heap z TI TO .none) (hTI : IsPair s.heap TI (.ref i1) (.ref i2)) (hTO : IsPair s.heap TO a b)
    (h1 : s.heap.IsListIter i1 l1 k1) (h2 : s.heap.IsTupleIter i2 l2 k2) (hl1 : s.heap.IsList l1 xs) (hl2 : s.heap.IsTuple l2 ys) (hend : xs[k1]? = none ∨ ys[k2]? = none)
    (hE : ∀ h' e, (∀ c o, c ≠ z → c ≠ TO → c ≠ i1 → c ≠ i2 → s.heap.get? c = some o → h'.get? c = some o) → (∃ o, h'.get? e = some o ∧ o.cls = .type "StopIteration") → E (.ref e) { s with heap := h' }) :
    wpAny (model prog w) A (Builtin.«zip.__next__» ⟨[.ref z], []⟩) Q E s := by
  show wpAny _ _ (field (.ref z) 2 >>= _) _ _ _
  refine wpAny_bind (wpAny_field hz rfl (x := .bool false) rfl ?_)
  show wpAny _ _ (field (.ref z) 3 >>= _) _ _ _
  refine wpAny_bind (wpAny_field hz rfl (x := .ref TI) rfl ?_)
  refine wpAny_bind (wpAny_seqItems hTI rfl ?_)
  show wpAny _ _ (Builtin.SmallTypes.ownedTupleIsFree (.ref z) >>= _) _ _ _
  refine wpAny_bind ?_
  unfold Builtin.SmallTypes.ownedTupleIsFree
  refine wpAny_bind (wpAny_field hz rfl (x := .none) rfl (wpAny_pure ?_))
  simp only [if_true]
  refine wpAny_bind (wpAny_rule ?_)
  refine wpAny_bind (wpAny_field hz rfl (x := .ref TO) rfl ?_)
  refine wpAny_bind (wpAny_setField_rec hz (by simp) fun h₁ hz₁ hs₁ => ?_)
  replace hz₁ : IsZip h₁ z TI TO .ellipsis := hz₁
  refine wpAny_bind ?_
  simp only [List.zipIdx_cons, List.zipIdx_nil, List.forIn_cons, List.forIn_nil]
  refine wpAny_bind (wpAny_bind (wpAny_onRaise ?_))
  show wpAny _ _ (Builtin.SmallTypes.nextOf (.ref i1) >>= _) _ _ _
  cases hx : xs[k1]? with
  | none =>
    refine wpAny_bind (PySem.wpAny_nextOf_list_end hh (h1.extBut hs₁.extBut D.i1z) (hl1.extBut hs₁.extBut D.l1z) hx fun h₂ e hs₂ he => ?_)
    obtain ⟨oe, hoe, hce⟩ := he
    have hz₂ : IsZip h₂ z TI TO .ellipsis := hs₂ _ _ D.i1z.symm hz₁
    have hez : e ≠ z := fun x => by subst x; rw [hz₂] at hoe; cases hoe; simp at hce
    refine wpAny_setField_rec hz₂ (by simp) fun h₃ _ hs₃ => hE h₃ e (fun c o c1 _ c3 _ x => hs₃.extBut _ _ c1 (hs₂ _ _ c3 (hs₁.extBut _ _ c1 x))) ⟨oe, hs₃.extBut _ _ hez hoe, hce⟩
  | some x =>
    have hy : ys[k2]? = none := by rcases hend with h | h; rw [hx] at h; cases h; exact h
    refine wpAny_bind (PySem.wpAny_nextOf_list_item (h1.extBut hs₁.extBut D.i1z) (hl1.extBut hs₁.extBut D.l1z) hx fun h₂ h1₂ hs₂ => wpAny_pure ?_)
    have hTO₂ : IsPair h₂ TO a b := hs₂.extBut _ _ D.TOi1 (hs₁.extBut _ _ D.TOz hTO)
    refine wpAny_bind (wpAny_seqItems hTO₂ rfl ?_)
    refine wpAny_bind (wpAny_updateSeq_pair hTO₂ fun h₃ hTO₃ hs₃ => ?_)
    refine wpAny_bind (wpAny_letGo (wpAny_pure ?_))
    refine wpAny_bind (wpAny_bind (wpAny_onRaise ?_))
    show wpAny _ _ (Builtin.SmallTypes.nextOf (.ref i2) >>= _) _ _ _
    refine wpAny_bind (RZ.nextOf_tuple_end hh (((h2.extBut hs₁.extBut D.i2z).extBut hs₂.extBut D.i12.symm).extBut hs₃.extBut D.TOi2.symm)
      (((hl2.extBut hs₁.extBut D.l2z).extBut hs₂.extBut D.l2i1).extBut hs₃.extBut D.l2TO) hy fun h₄ e hs₄ he => ?_)
    obtain ⟨oe, hoe, hce⟩ := he
    have hz₄ : IsZip h₄ z TI TO .ellipsis := hs₄ _ _ D.i2z.symm (hs₃.extBut _ _ D.TOz.symm (hs₂.extBut _ _ D.i1z.symm hz₁))
    have hez : e ≠ z := fun x => by subst x; rw [hz₄] at hoe; cases hoe; simp at hce
    refine wpAny_setField_rec hz₄ (by simp) fun h₅ _ hs₅ => hE h₅ e (fun c o c1 c2 c3 c4 x => hs₅.extBut _ _ c1 (hs₄ _ _ c4 (hs₃.extBut _ _ c2 (hs₂.extBut _ _ c3 (hs₁.extBut _ _ c1 x))))) ⟨oe, hs₅.extBut _ _ hez hoe, hce⟩
theorem pyNext_zipM_item {z TI TO i1 i2 l1 l2 : Addr} {k1 k2 : Nat} {xs ys : Array Value} {x y a b : Value} {Q : Option Value → Shared → Prop} (D : ZipApart z TI TO i1 i2 l1 l2)
    (hz : IsZip s.heap z TI TO .none) (hTI : IsPair s.heap TI (.ref i1) (.ref i2)) (hTO : IsPair s.heap TO a b)
    (h1 : s.heap.IsListIter i1 l1 k1) (h2 : s.heap.IsTupleIter i2 l2 k2) (hl1 : s.heap.IsList l1 xs) (hl2 : s.heap.IsTuple l2 ys) (hx : xs[k1]? = some x) (hy : ys[k2]? = some y)
    (hQ : ∀ h', IsZip h' z TI TO (rawInt s.heap.objs.size) → IsPair h' TO x y → h'.IsListIter i1 l1 (k1 + 1) → h'.IsTupleIter i2 l2 (k2 + 1) → IsPair h' s.heap.objs.size x y → h'.objs.size = s.heap.objs.size + 1 →
      (∀ c o, c ≠ z → c ≠ TO → c ≠ i1 → c ≠ i2 → s.heap.get? c = some o → h'.get? c = some o) → Q (some (.ref s.heap.objs.size)) { s with heap := h' }) :
    wpAny (model prog w) A (pyNext (.ref z)) Q E s := by
  have hT : s.TypeIs (.ref z) "zip" := ⟨_, hz, rfl⟩
  unfold pyNext
  exact wpAny_bind (wpAny_attempt (wpAny_callSpecial?_slot (name := Str.ofString "__next__") hT F.slot_zip_next
    (wpAny_call_entry F.slot_zip_next hT F.entry_zip_next
      (zipM_next_item D hz hTI hTO h1 h2 hl1 hl2 hx hy fun h' a1 a2 a3 a4 a5 a6 a7 => wpAny_pure (hQ h' a1 a2 a3 a4 a5 a6 a7)) (F.args_zip_next_1 _))))
theorem pyNext_zipM_end {z TI TO i1 i2 l1 l2 : Addr} {k1 k2 : Nat} {xs ys : Array Value} {a b : Value} {Q : Option Value → Shared → Prop} (hh : A.handled = none) (D : ZipApart z TI TO i1 i2 l1 l2)
    (hz : IsZip s.heap z TI TO .none) (hTI : IsPair s.heap TI (.ref i1) (.ref i2)) (hTO : IsPair s.heap TO a b)
    (h1 : s.heap.IsListIter i1 l1 k1) (h2 : s.heap.IsTupleIter i2 l2 k2) (hl1 : s.heap.IsList l1 xs) (hl2 : s.heap.IsTuple l2 ys) (hend : xs[k1]? = none ∨ ys[k2]? = none)
    (hQ : ∀ h', (∀ c o, c ≠ z → c ≠ TO → c ≠ i1 → c ≠ i2 → s.heap.get? c = some o → h'.get? c = some o) → Q none { s with heap := h' }) : wpAny (model prog w) A (pyNext (.ref z)) Q E s := by
  have hT : s.TypeIs (.ref z) "zip" := ⟨_, hz, rfl⟩
  unfold pyNext
  refine wpAny_bind (wpAny_attempt (wpAny_callSpecial?_slot (name := Str.ofString "__next__") hT F.slot_zip_next
    (wpAny_call_entry F.slot_zip_next hT F.entry_zip_next (zipM_next_end hh D hz hTI hTO h1 h2 hl1 hl2 hend fun h' e hk he => ?_) (F.args_zip_next_1 _))))
  obtain ⟨o, ho, hc⟩ := he
  refine wpAny_bind (wpAny_isInstance (T := "StopIteration") (b := true) ⟨o, ho, hc⟩ isSubtype_stop ?_)
  exact wpAny_pure (hQ _ hk)
end
abbrev zipMH1 (h : Heap) (l1 : Addr) : Heap := h.push { cls := .type "list_iterator", data := .fields #[.ref l1, .int 0 0] }
abbrev zipMH2 (h : Heap) (l1 l2 : Addr) : Heap := (zipMH1 h l1).push { cls := .type "tuple_iterator", data := .fields #[.ref l2, .int 0 0] }
abbrev zipMH3 (h : Heap) (l1 l2 : Addr) : Heap := (zipMH2 h l1 l2).push { cls := .type "tuple", data := .seq #[.ref h.objs.size, .ref (zipMH1 h l1).objs.size] }
abbrev zipMH4 (h : Heap) (l1 l2 : Addr) : Heap := (zipMH3 h l1 l2).push { cls := .type "tuple", data := .seq #[.none, .none] }
abbrev zipMH5 (h : Heap) (l1 l2 : Addr) : Heap := (zipMH4 h l1 l2).push { cls := .type "zip", data := .fields #[.none, .bool false, .bool false, .ref (zipMH2 h l1 l2).objs.size, .ref (zipMH3 h l1 l2).objs.size] }
theorem meets_zipM_new (l1 l2 : Addr) (xs ys : Array Value) :
    Meets (Builtin.«zip.__new__» ⟨[.type "zip", .ref l1, .ref l2], []⟩) (fun _ R s => s.heap.IsList l1 xs ∧ s.heap.IsTuple l2 ys ∧
      R (.ok (.ret (.ref (zipMH4 s.heap l1 l2).objs.size))) { s with heap := zipMH5 s.heap l1 l2 }) :=
  .of_wp fun prog w A R s h => by
    obtain ⟨hp, g, d, tk, os⟩ := s; obtain ⟨hl1, hl2, h⟩ := h
    have hsub := sub_zip
    have hL1 : Heap.IsList (Shared.heap ⟨hp, g, d, tk, os⟩) l1 xs := hl1
    have hL2 : Heap.IsTuple (Shared.heap ⟨hp.push { cls := .type "list_iterator", data := .fields #[.ref l1, .int 0 0] }, g, d, tk, os⟩) l2 ys := Heap.IsTuple.push hl2 _
    wp_walk using wpAny_pyIter_list hL1, wpAny_pyIter_tuple hL2
    exact ⟨_, rfl, h⟩
section
variable {prog : Program} {w : World} {A : Around} {E : Value → Shared → Prop} {s : Shared}
theorem call_zipM {l1 l2 : Addr} {xs ys : Array Value} {Q : Value → Shared → Prop} (hl1 : s.heap.IsList l1 xs) (hl2 : s.heap.IsTuple l2 ys)
    (h : ∀ h', IsZip h' (s.heap.objs.size + 4) (s.heap.objs.size + 2) (s.heap.objs.size + 3) .none → IsPair h' (s.heap.objs.size + 2) (.ref s.heap.objs.size) (.ref (s.heap.objs.size + 1)) →
      IsPair h' (s.heap.objs.size + 3) .none .none → h'.IsListIter s.heap.objs.size l1 0 → h'.IsTupleIter (s.heap.objs.size + 1) l2 0 → h'.objs.size = s.heap.objs.size + 5 →
      (∀ c o, s.heap.get? c = some o → h'.get? c = some o) → Q (.ref (s.heap.objs.size + 4)) { s with heap := h' }) :
    wpAny (model prog w) A (call (.type "zip") [.ref l1, .ref l2]) Q E s := by
  refine callType_new F.called_zip (by decide) (F.typeCall_zip_2 _ _) (F.newCall_zip_2 _ _) (fun obj => F.args_object_init_3 obj _ _) F.entry_zip_new
    (meets_zipM_new l1 l2 xs ys) ⟨hl1, hl2, ?_⟩
  have z1 : (zipMH1 s.heap l1).objs.size = s.heap.objs.size + 1 := Heap.size_push ..
  have z2 : (zipMH2 s.heap l1 l2).objs.size = s.heap.objs.size + 2 := by rw [Heap.size_push, z1]
  have z3 : (zipMH3 s.heap l1 l2).objs.size = s.heap.objs.size + 3 := by rw [Heap.size_push, z2]
  have z4 : (zipMH4 s.heap l1 l2).objs.size = s.heap.objs.size + 4 := by rw [Heap.size_push, z3]
  have z5 : (zipMH5 s.heap l1 l2).objs.size = s.heap.objs.size + 5 := by rw [Heap.size_push, z4]
  have g5 : (zipMH5 s.heap l1 l2).get? (zipMH4 s.heap l1 l2).objs.size = some _ := Heap.get?_push_size _ rfl
  have g4 : (zipMH5 s.heap l1 l2).get? (zipMH3 s.heap l1 l2).objs.size = some _ := Heap.get?_push_of_some _ (Heap.get?_push_size _ rfl)
  have g3 : (zipMH5 s.heap l1 l2).get? (zipMH2 s.heap l1 l2).objs.size = some _ := Heap.get?_push_of_some _ (Heap.get?_push_of_some _ (Heap.get?_push_size _ rfl))
  have g2 : (zipMH5 s.heap l1 l2).get? (zipMH1 s.heap l1).objs.size = some _ := Heap.get?_push_of_some _ (Heap.get?_push_of_some _ (Heap.get?_push_of_some _ (Heap.get?_push_size _ rfl)))
  have g1 : (zipMH5 s.heap l1 l2).get? s.heap.objs.size = some _ := Heap.get?_push_of_some _ (Heap.get?_push_of_some _ (Heap.get?_push_of_some _ (Heap.get?_push_of_some _ (Heap.get?_push_size _ rfl))))
  show _ ∧ _
  rw [z2, z3, z4] at g5
  rw [z1, z2] at g3
  rw [z3] at g4
  rw [z1] at g2
  rw [z4]
  exact ⟨⟨_, g5, rfl⟩, h _ g5 g3 g4 ⟨_, g1, rfl, rfl⟩ ⟨_, g2, rfl, rfl⟩ z5 fun c o x =>
    Heap.get?_push_of_some _ (Heap.get?_push_of_some _ (Heap.get?_push_of_some _ (Heap.get?_push_of_some _ (Heap.get?_push_of_some _ x))))⟩
end
section
variable {prog : Program} {w : World} {A : Around} {E : Value → Shared → Prop} {s : Shared}
theorem zipM_next_item_held {z TI TO T i1 i2 l1 l2 : Addr} {f : Bool} {oT : Obj} {k1 k2 : Nat} {xs ys : Array Value} {x y : Value} {Q : Value → Shared → Prop} (D : ZipApart z TI TO i1 i2 l1 l2)
    (hz : IsZipHeld s.heap z TI TO T f) (hT : s.heap.get? T = some oT) (hTI : IsPair s.heap TI (.ref i1) (.ref i2))
    (h1 : s.heap.IsListIter i1 l1 k1) (h2 : s.heap.IsTupleIter i2 l2 k2) (hl1 : s.heap.IsList l1 xs) (hl2 : s.heap.IsTuple l2 ys) (hx : xs[k1]? = some x) (hy : ys[k2]? = some y)
    (hQ : ∀ h', IsZipHeld h' z TI TO T true → h'.IsListIter i1 l1 (k1 + 1) → h'.IsTupleIter i2 l2 (k2 + 1) → IsPair h' s.heap.objs.size x y → h'.objs.size = s.heap.objs.size + 1 →
      (∀ c o, c ≠ z → c ≠ i1 → c ≠ i2 → s.heap.get? c = some o → h'.get? c = some o) → Q (.ref s.heap.objs.size) { s with heap := h' }) :
    wpAny (model prog w) A (Builtin.«zip.__next__» ⟨[.ref z], []⟩) (fun fin s' => ∃ v, fin = .done (.ret v) ∧ Q v s') E s := by
  show wpAny _ _ (field (.ref z) 2 >>= _) _ _ _
  refine wpAny_bind (wpAny_field hz rfl (x := .bool false) rfl ?_)
  show wpAny _ _ (field (.ref z) 3 >>= _) _ _ _
  refine wpAny_bind (wpAny_field hz rfl (x := .ref TI) rfl ?_)
  refine wpAny_bind (wpAny_seqItems hTI rfl ?_)
  show wpAny _ _ (Builtin.SmallTypes.ownedTupleIsFree (.ref z) >>= _) _ _ _
  refine wpAny_bind (wpAny_tupleHeld_zip hz hT fun h₁ hz₁ hs₁ => ?_)
  simp only [Bool.false_eq_true, if_false]
  refine wpAny_bind ?_
  rw [← Array.forIn_toList]
  simp only [List.forIn_cons, List.forIn_nil]
  refine wpAny_bind (wpAny_bind (wpAny_holding ?_))
  show wpAny _ _ (Builtin.SmallTypes.nextOf (.ref i1) >>= _) _ _ _
  refine wpAny_bind (wpAny_nextOf_list_item (s := { s with heap := h₁ }) (h1.extBut hs₁.extBut D.i1z) (hl1.extBut hs₁.extBut D.l1z) hx fun h₂ h1₂ hs₂ => wpAny_pure ?_)
  refine wpAny_pure ?_
  refine wpAny_bind (wpAny_bind (wpAny_holding ?_))
  show wpAny _ _ (Builtin.SmallTypes.nextOf (.ref i2) >>= _) _ _ _
  refine wpAny_bind (RZ.nextOf_tuple_item (s := { s with heap := h₂ }) ((h2.extBut hs₁.extBut D.i2z).extBut hs₂.extBut D.i12.symm) ((hl2.extBut hs₁.extBut D.l2z).extBut hs₂.extBut D.l2i1) hy fun h₃ h2₃ hs₃ => wpAny_pure ?_)
  refine wpAny_pure (wpAny_pure ?_)
  show wpAny _ _ (newTuple [x, y] >>= _) _ _ _
  refine wpAny_bind (wpAny_newTuple ?_)
  have hsz : h₃.objs.size = s.heap.objs.size := by rw [hs₃.1, hs₂.1, hs₁.1]
  have hz₃ : IsZipHeld h₃ z TI TO T true := hs₃.extBut _ _ D.i2z.symm (hs₂.extBut _ _ D.i1z.symm hz₁)
  have hk : ∀ c o, c ≠ z → c ≠ i1 → c ≠ i2 → s.heap.get? c = some o → h₃.get? c = some o := fun c o c1 c2 c3 e => hs₃.extBut _ _ c3 (hs₂.extBut _ _ c2 (hs₁.extBut _ _ c1 e))
  have h1₃ : h₃.IsListIter i1 l1 (k1 + 1) := h1₂.extBut hs₃.extBut D.i12
  refine wpAny_pure ⟨_, rfl, ?_⟩
  show Q (.ref h₃.objs.size) _
  have hp : IsPair (h₃.push { cls := .type "tuple", data := .seq #[x, y] }) h₃.objs.size x y := Heap.get?_push_size _ rfl
  have hz4 : (h₃.push { cls := .type "tuple", data := .seq #[x, y] }).objs.size = h₃.objs.size + 1 := Heap.size_push ..
  rw [hsz] at hp hz4 ⊢
  exact hQ _ (Heap.get?_push_of_some _ hz₃) (h1₃.at fun o e => Heap.get?_push_of_some _ e) (h2₃.at fun o e => Heap.get?_push_of_some _ e) hp hz4 fun c o c1 c2 c3 e => Heap.get?_push_of_some _ (hk c o c1 c2 c3 e)
theorem zipM_next_end_held {z TI TO T i1 i2 l1 l2 : Addr} {f : Bool} {oT : Obj} {k1 k2 : Nat} {xs ys : Array Value} {Q : Fin → Shared → Prop} (hh : A.handled = none) (D : ZipApart z TI TO i1 i2 l1 l2)
    (hz : IsZipHeld s.heap z TI TO T f) (hT : s.heap.get? T = some oT) (hTI : IsPair s.heap TI (.ref i1) (.ref i2))
    (h1 : s.heap.IsListIter i1 l1 k1) (h2 : s.heap.IsTupleIter i2 l2 k2) (hl1 : s.heap.IsList l1 xs) (hl2 : s.heap.IsTuple l2 ys) (hend : xs[k1]? = none ∨ ys[k2]? = none)
    (hE : ∀ h' e, (∀ c o, c ≠ z → c ≠ i1 → c ≠ i2 → s.heap.get? c = some o → h'.get? c = some o) → (∃ o, h'.get? e = some o ∧ o.cls = .type "StopIteration") → E (.ref e) { s with heap := h' }) :
    wpAny (model prog w) A (Builtin.«zip.__next__» ⟨[.ref z], []⟩) Q E s := by
  show wpAny _ _ (field (.ref z) 2 >>= _) _ _ _
  refine wpAny_bind (wpAny_field hz rfl (x := .bool false) rfl ?_)
  show wpAny _ _ (field (.ref z) 3 >>= _) _ _ _
  refine wpAny_bind (wpAny_field hz rfl (x := .ref TI) rfl ?_)
  refine wpAny_bind (wpAny_seqItems hTI rfl ?_)
  show wpAny _ _ (Builtin.SmallTypes.ownedTupleIsFree (.ref z) >>= _) _ _ _
  refine wpAny_bind (wpAny_tupleHeld_zip hz hT fun h₁ hz₁ hs₁ => ?_)
  simp only [Bool.false_eq_true, if_false]
  refine wpAny_bind ?_
  rw [← Array.forIn_toList]
  simp only [List.forIn_cons, List.forIn_nil]
  refine wpAny_bind (wpAny_bind (wpAny_holding ?_))
  show wpAny _ _ (Builtin.SmallTypes.nextOf (.ref i1) >>= _) _ _ _
  cases hx : xs[k1]? with
  | none =>
    refine wpAny_bind (wpAny_nextOf_list_end (s := { s with heap := h₁ }) hh (h1.extBut hs₁.extBut D.i1z) (hl1.extBut hs₁.extBut D.l1z) hx fun h₂ e hs₂ he => ?_)
    exact hE h₂ e (fun c o c1 c2 _ x => hs₂ _ _ c2 (hs₁.extBut _ _ c1 x)) he
  | some x =>
    have hy : ys[k2]? = none := by rcases hend with h | h; rw [hx] at h; cases h; exact h
    refine wpAny_bind (wpAny_nextOf_list_item (s := { s with heap := h₁ }) (h1.extBut hs₁.extBut D.i1z) (hl1.extBut hs₁.extBut D.l1z) hx fun h₂ h1₂ hs₂ => wpAny_pure ?_)
    refine wpAny_pure ?_
    refine wpAny_bind (wpAny_bind (wpAny_holding ?_))
    show wpAny _ _ (Builtin.SmallTypes.nextOf (.ref i2) >>= _) _ _ _
    refine wpAny_bind (RZ.nextOf_tuple_end (s := { s with heap := h₂ }) hh ((h2.extBut hs₁.extBut D.i2z).extBut hs₂.extBut D.i12.symm) ((hl2.extBut hs₁.extBut D.l2z).extBut hs₂.extBut D.l2i1) hy fun h₃ e hs₃ he => ?_)
    exact hE h₃ e (fun c o c1 c2 c3 x => hs₃ _ _ c3 (hs₂.extBut _ _ c2 (hs₁.extBut _ _ c1 x))) he
theorem pyNext_zipM_item_held {z TI TO T i1 i2 l1 l2 : Addr} {f : Bool} {oT : Obj} {k1 k2 : Nat} {xs ys : Array Value} {x y : Value} {Q : Option Value → Shared → Prop} (D : ZipApart z TI TO i1 i2 l1 l2)
    (hz : IsZipHeld s.heap z TI TO T f) (hT : s.heap.get? T = some oT) (hTI : IsPair s.heap TI (.ref i1) (.ref i2))
    (h1 : s.heap.IsListIter i1 l1 k1) (h2 : s.heap.IsTupleIter i2 l2 k2) (hl1 : s.heap.IsList l1 xs) (hl2 : s.heap.IsTuple l2 ys) (hx : xs[k1]? = some x) (hy : ys[k2]? = some y)
    (hQ : ∀ h', IsZipHeld h' z TI TO T true → h'.IsListIter i1 l1 (k1 + 1) → h'.IsTupleIter i2 l2 (k2 + 1) → IsPair h' s.heap.objs.size x y → h'.objs.size = s.heap.objs.size + 1 →
      (∀ c o, c ≠ z → c ≠ i1 → c ≠ i2 → s.heap.get? c = some o → h'.get? c = some o) → Q (some (.ref s.heap.objs.size)) { s with heap := h' }) :
    wpAny (model prog w) A (pyNext (.ref z)) Q E s := by
  have hTy : s.TypeIs (.ref z) "zip" := ⟨_, hz, rfl⟩
  unfold pyNext
  exact wpAny_bind (wpAny_attempt (wpAny_callSpecial?_slot (name := Str.ofString "__next__") hTy F.slot_zip_next
    (wpAny_call_entry F.slot_zip_next hTy F.entry_zip_next
      (zipM_next_item_held D hz hT hTI h1 h2 hl1 hl2 hx hy fun h' a1 a3 a4 a5 a6 a7 => wpAny_pure (hQ h' a1 a3 a4 a5 a6 a7)) (F.args_zip_next_1 _))))
theorem pyNext_zipM_end_held {z TI TO T i1 i2 l1 l2 : Addr} {f : Bool} {oT : Obj} {k1 k2 : Nat} {xs ys : Array Value} {Q : Option Value → Shared → Prop} (hh : A.handled = none) (D : ZipApart z TI TO i1 i2 l1 l2)
    (hz : IsZipHeld s.heap z TI TO T f) (hT : s.heap.get? T = some oT) (hTI : IsPair s.heap TI (.ref i1) (.ref i2))
    (h1 : s.heap.IsListIter i1 l1 k1) (h2 : s.heap.IsTupleIter i2 l2 k2) (hl1 : s.heap.IsList l1 xs) (hl2 : s.heap.IsTuple l2 ys) (hend : xs[k1]? = none ∨ ys[k2]? = none)
    (hQ : ∀ h', (∀ c o, c ≠ z → c ≠ i1 → c ≠ i2 → s.heap.get? c = some o → h'.get? c = some o) → Q none { s with heap := h' }) : wpAny (model prog w) A (pyNext (.ref z)) Q E s := by
  have hTy : s.TypeIs (.ref z) "zip" := ⟨_, hz, rfl⟩
  unfold pyNext
  refine wpAny_bind (wpAny_attempt (wpAny_callSpecial?_slot (name := Str.ofString "__next__") hTy F.slot_zip_next
    (wpAny_call_entry F.slot_zip_next hTy F.entry_zip_next (zipM_next_end_held hh D hz hT hTI h1 h2 hl1 hl2 hend fun h' e hk he => ?_) (F.args_zip_next_1 _))))
  obtain ⟨o, ho, hc⟩ := he
  refine wpAny_bind (wpAny_isInstance (T := "StopIteration") (b := true) ⟨o, ho, hc⟩ isSubtype_stop ?_)
  exact wpAny_pure (hQ _ hk)
theorem pairArg_zipM (z TI TO i1 i2 l1 l2 : Addr) (D : ZipApart z TI TO i1 i2 l1 l2) (xs ys : Array Value) :
    PairArg prog w "zip" z [z, TI, TO, i1, i2, l1, l2] [z, TO, i1, i2] (min xs.size ys.size) (fun i k v => xs[i]? = some k ∧ ys[i]? = some v)
      (fun h => IsZip h z TI TO .none ∧ IsPair h TI (.ref i1) (.ref i2) ∧ (∃ a b, IsPair h TO a b) ∧ h.IsListIter i1 l1 0 ∧ h.IsTupleIter i2 l2 0 ∧ h.IsList l1 xs ∧ h.IsTuple l2 ys) where
  type := fun s ok => ⟨_, ok.1, rfl⟩
  notDict := by decide
  keep := fun h h' ok hk => by
    obtain ⟨hz, hTI, ⟨a, b, hTO⟩, h1, h2, hl1, hl2⟩ := ok
    exact ⟨hk _ _ hz, hk _ _ hTI, ⟨a, b, hk _ _ hTO⟩, h1.at fun o e => hk _ o e, h2.at fun o e => hk _ o e, hl1.at fun o e => hk _ o e, hl2.at fun o e => hk _ o e⟩
  there := fun h ok b hb => by
    obtain ⟨hz, hTI, ⟨a, c, hTO⟩, ⟨o1, h1, _⟩, ⟨o2, h2, _⟩, ⟨o3, hl1, _⟩, ⟨o4, hl2, _⟩⟩ := ok
    simp only [List.mem_cons, List.not_mem_nil, or_false] at hb
    rcases hb with rfl | rfl | rfl | rfl | rfl | rfl | rfl
    all_goals first | exact ⟨_, hz⟩ | exact ⟨_, hTI⟩ | exact ⟨_, hTO⟩ | exact ⟨_, h1⟩ | exact ⟨_, h2⟩ | exact ⟨_, hl1⟩ | exact ⟨_, hl2⟩
  sub := fun b hb => by simp at hb ⊢; rcases hb with rfl | rfl | rfl | rfl <;> simp
  noKeys := fun A s Q E hA ok h => getAttrOr_miss_zip ok.1 rfl rfl rfl zip_no_keys (by decide +kernel) hA h
  iter := fun A s d Q E hA ok hd hdf h => by
    obtain ⟨hz, hTI, ⟨a, b, hTO⟩, h1, h2, hl1, hl2⟩ := ok
    simp only [List.mem_cons, List.not_mem_nil, or_false, not_or] at hdf
    obtain ⟨dz, dTI, dTO, di1, di2, dl1, dl2⟩ := hdf
    refine wpAny_pyIter_zip hz (h z [z, TO, i1, i2] (fun i h => IsPair h TI (.ref i1) (.ref i2) ∧ h.IsListIter i1 l1 i ∧ h.IsTupleIter i2 l2 i ∧ h.IsList l1 xs ∧ h.IsTuple l2 ys ∧
      ((IsZip h z TI TO .none ∧ ∃ a b, IsPair h TO a b) ∨ ∃ T f oT, IsZipHeld h z TI TO T f ∧ h.get? T = some oT ∧ T ≠ z ∧ T ≠ i1 ∧ T ≠ i2 ∧ T ≠ d)) s.heap s.toks ?_
      ⟨hTI, h1, h2, hl1, hl2, .inl ⟨hz, a, b, hTO⟩⟩ (fun _ _ e => e) fun b hb => .inl hb)
    exact {
      off := fun hm => by
        simp only [List.mem_cons, List.not_mem_nil, or_false] at hm
        rcases hm with e | e | e | e
        · exact dz e
        · exact dTO e
        · exact di1 e
        · exact di2 e
      frame := fun i h₁ h₂ st hk => by
        obtain ⟨hTI, h1, h2, hl1, hl2, hz⟩ := st
        refine ⟨hk _ _ (Ne.symm dTI) hTI, h1.at fun o e => hk _ o (Ne.symm di1) e, h2.at fun o e => hk _ o (Ne.symm di2) e, hl1.at fun o e => hk _ o (Ne.symm dl1) e, hl2.at fun o e => hk _ o (Ne.symm dl2) e, ?_⟩
        rcases hz with ⟨hz, a, b, hTO⟩ | ⟨T, f, oT, hz, hT, r1, r2, r3, r4⟩
        · exact .inl ⟨hk _ _ (Ne.symm dz) hz, a, b, hk _ _ (Ne.symm dTO) hTO⟩
        · exact .inr ⟨T, f, oT, hk _ _ (Ne.symm dz) hz, hk _ _ r4 hT, r1, r2, r3, r4⟩
      item := fun i s₁ Q₁ E₁ hi st hds hQ => by
        obtain ⟨hTI, h1, h2, hl1, hl2, hz⟩ := st
        have hix : i < xs.size := Nat.lt_of_lt_of_le hi (Nat.min_le_left ..)
        have hiy : i < ys.size := Nat.lt_of_lt_of_le hi (Nat.min_le_right ..)
        have ex := Array.getElem?_eq_getElem hix
        have ey := Array.getElem?_eq_getElem hiy
        have lt : ∀ {c o}, s₁.heap.get? c = some o → s₁.heap.objs.size ≠ c := fun e => Nat.ne_of_gt (Heap.lt_size e)
        have n1 : s₁.heap.objs.size ≠ i1 := let ⟨_, e, _⟩ := h1; lt e
        have n2 : s₁.heap.objs.size ≠ i2 := let ⟨_, e, _⟩ := h2; lt e
        rcases hz with ⟨hz, a, b, hTO⟩ | ⟨T, f, oT, hz, hT, r1, r2, r3, r4⟩
        · refine pyNext_zipM_item D hz hTI hTO h1 h2 hl1 hl2 ex ey fun h' a1 a2 a3 a4 a5 a6 hk => ?_
          exact hQ s₁.heap.objs.size _ _ h' s₁.toks ⟨ex, ey⟩ (.inl ⟨_, a5, rfl, _, rfl⟩)
            ⟨hk _ _ D.TIz D.TITO D.TIi1 D.TIi2 hTI, a3, a4, hl1.at fun o e => hk _ o D.l1z D.l1TO D.l1i1 D.l1i2 e, hl2.at fun o e => hk _ o D.l2z D.l2TO D.l2i1 D.l2i2 e,
              .inr ⟨s₁.heap.objs.size, false, _, a1, a5, lt hz, n1, n2, Nat.ne_of_gt hds⟩⟩
            fun c o hc e => hk c o (fun x => hc (by simp [x])) (fun x => hc (by simp [x])) (fun x => hc (by simp [x])) (fun x => hc (by simp [x])) e
        · refine pyNext_zipM_item_held D hz hT hTI h1 h2 hl1 hl2 ex ey fun h' a1 a3 a4 a5 a6 hk => ?_
          exact hQ s₁.heap.objs.size _ _ h' s₁.toks ⟨ex, ey⟩ (.inl ⟨_, a5, rfl, _, rfl⟩)
            ⟨hk _ _ D.TIz D.TIi1 D.TIi2 hTI, a3, a4, hl1.at fun o e => hk _ o D.l1z D.l1i1 D.l1i2 e, hl2.at fun o e => hk _ o D.l2z D.l2i1 D.l2i2 e,
              .inr ⟨T, true, oT, a1, hk _ _ r1 r2 r3 hT, r1, r2, r3, r4⟩⟩
            fun c o hc e => hk c o (fun x => hc (by simp [x])) (fun x => hc (by simp [x])) (fun x => hc (by simp [x])) e
      done := fun s₁ Q₁ E₁ st hQ => by
        obtain ⟨hTI, h1, h2, hl1, hl2, hz⟩ := st
        have hend : xs[min xs.size ys.size]? = none ∨ ys[min xs.size ys.size]? = none := by
          rcases Nat.le_total xs.size ys.size with h | h
          · exact .inl (Array.getElem?_eq_none (by rw [Nat.min_eq_left h]; exact Nat.le_refl _))
          · exact .inr (Array.getElem?_eq_none (by rw [Nat.min_eq_right h]; exact Nat.le_refl _))
        rcases hz with ⟨hz, a, b, hTO⟩ | ⟨T, f, oT, hz, hT, r1, r2, r3, r4⟩
        · exact pyNext_zipM_end hA D hz hTI hTO h1 h2 hl1 hl2 hend fun h' hk => hQ h' s₁.toks fun c o hc e => hk c o (fun x => hc (by simp [x])) (fun x => hc (by simp [x])) (fun x => hc (by simp [x])) (fun x => hc (by simp [x])) e
        · exact pyNext_zipM_end_held hA D hz hT hTI h1 h2 hl1 hl2 hend fun h' hk => hQ h' s₁.toks fun c o hc e => hk c o (fun x => hc (by simp [x])) (fun x => hc (by simp [x])) (fun x => hc (by simp [x])) e }
end
end MP
namespace MP
open PySem PySem.Spec PyProof.Rows L2
/-- the tuples at a and b as they stand at each turn, the items in new pairs -/
def ItzM (K : PySem.W.Frag) (a b : Addr) : It :=
  ⟨fun i H => ∃ (xs ys : List V) (x y : V), SqL K H a xs ∧ SqT K H b ys ∧ xs[i]? = some x ∧ ys[i]? = some y,
    fun i H v H' => ∃ T x y, v = .ref T ∧ H T = none ∧ H' = upd H T (.tup [x, y]) ∧ (∀ xs, SqL K H a xs → xs[i]? = some x) ∧ ∀ ys, SqT K H b ys → ys[i]? = some y,
    fun i H => ∃ xs ys : List V, SqL K H a xs ∧ SqT K H b ys ∧ (xs.length ≤ i ∨ ys.length ≤ i)⟩
theorem turn_zipM {P : Program} {w : World} {K : PySem.W.Frag} {elts : List Expr} {kk : Nat} {tpos : Pos} {a b z TI TO i1 i2 : Addr} (D : ZipApart z TI TO i1 i2 a b) :
    Turn P w K (.Tuple elts kk tpos) (ItzM K a b) [z, TI, TO, i1, i2] z (fun i h => IsZip h z TI TO .none ∧ IsPair h TI (.ref i1) (.ref i2) ∧ (∃ x y, IsPair h TO x y) ∧ h.IsListIter i1 a i ∧ h.IsTupleIter i2 b i) where
  mem := by simp
  obj := fun i h st c hc => by
    obtain ⟨hz, hTI, ⟨x, y, hTO⟩, ⟨o1, e1, _, d1⟩, ⟨o2, e2, _, d2⟩⟩ := st
    have e' : c = z ∨ c = TI ∨ c = TO ∨ c = i1 ∨ c = i2 := by simpa using hc
    rcases e' with q | q | q | q | q
    · rw [q]; exact ⟨_, hz, fun v q => nomatch q⟩
    · rw [q]; exact ⟨_, hTI, fun v q => nomatch q⟩
    · rw [q]; exact ⟨_, hTO, fun v q => nomatch q⟩
    · rw [q]; exact ⟨o1, e1, fun v q => by rw [d1] at q; cases q⟩
    · rw [q]; exact ⟨o2, e2, fun v q => by rw [d2] at q; cases q⟩
  keep := fun i h h' st k => by
    obtain ⟨hz, hTI, ⟨x, y, hTO⟩, h1, h2⟩ := st
    exact ⟨k z (by simp) _ hz, k TI (by simp) _ hTI, ⟨x, y, k TO (by simp) _ hTO⟩, h1.at fun o q => k i1 (by simp) o q, h2.at fun o q => k i2 (by simp) o q⟩
  item := by
    intro X hP hw hK hc i pins s σ H E I hf st hg
    subst hP hw hK
    obtain ⟨hz, hTI, ⟨x0, y0, hTO⟩, h1, h2⟩ := st
    obtain ⟨xs, ys, x, y, hqx, hqy, hx, hy⟩ := hg
    obtain ⟨its, rv, p, _⟩ := I.list hqx
    obtain ⟨its2, rv2, p2, _⟩ := I.tuple hqy
    obtain ⟨u, hu, ru⟩ := rv.get hx
    obtain ⟨u2, hu2, ru2⟩ := rv2.get hy
    have hzl : z < s.heap.objs.size := Heap.lt_size hz
    refine pyNext_zipM_item D hz hTI hTO h1 h2 p.isList p2 (x := u) (y := u2) (by simpa using hu) (by simpa using hu2) fun h' z' TO' h1' h2' hT hsz hk => ?_
    refine ⟨_, rfl, wpAny_letOwnedTupleGo_zip (s := { s with heap := h' }) z' fun h'' z'' sb => ?_⟩
    have hT2 : h''.get? s.heap.objs.size = some { cls := .type "tuple", data := .seq #[u, u2] } := (sb.2 _ (Nat.ne_of_gt hzl)).trans hT
    have new : ObjOk X.prog X.w (upd H s.heap.objs.size (.tup [x, y])) h'' s.heap.objs.size (.tup [x, y]) :=
      ⟨by show 2 ≤ sizeLine; decide, [u, u2], .cons ru (.cons ru2 .nil), ⟨_, hT2, rfl, _, rfl⟩⟩
    have I1 : Inv X pins σ (upd H s.heap.objs.size (.tup [x, y])) { s with heap := h'' } :=
      I.turnedNew (t' := s.toks) (ch := [z, TI, TO, i1, i2]) (fun c o hb q => (sb.2 c (fun q' => hb (by simp [q']))).trans (hk c o (fun q' => hb (by simp [q'])) (fun q' => hb (by simp [q'])) (fun q' => hb (by simp [q'])) (fun q' => hb (by simp [q'])) q)) hf (Nat.le_refl _) new
    refine ⟨.ref s.heap.objs.size, _, I1, rfl, ⟨_, x, y, rfl, I.hok.fresh (Nat.le_refl _), rfl, fun l hl => by rw [I.list_inj hl hqx]; exact hx, fun l hl => by rw [I.tuple_inj hl hqy]; exact hy⟩, ⟨z'', ?_, ⟨u, u2, ?_⟩, ?_, ?_⟩, fun c hcm => ?_⟩
    · exact (sb.2 _ D.TIz).trans (hk _ _ D.TIz D.TITO D.TIi1 D.TIi2 hTI)
    · exact (sb.2 _ D.TOz).trans TO'
    · exact h1'.at fun o q => (sb.2 _ D.i1z).trans q
    · exact h2'.at fun o q => (sb.2 _ D.i2z).trans q
    · have hlt : c < s.heap.objs.size := by
        have e' : c = z ∨ c = TI ∨ c = TO ∨ c = i1 ∨ c = i2 := by simpa using hcm
        rcases e' with q | q | q | q | q
        · rw [q]; exact hzl
        · rw [q]; exact Heap.lt_size hTI
        · rw [q]; exact Heap.lt_size hTO
        · rw [q]; obtain ⟨_, e1, _⟩ := h1; exact Heap.lt_size e1
        · rw [q]; obtain ⟨_, e2, _⟩ := h2; exact Heap.lt_size e2
      rw [upd_ne (Nat.ne_of_lt hlt)]
      exact (hf c hcm).1
  done := by
    intro X hP hw hK hc i pins s σ H E I hf st hg
    subst hP hw hK
    obtain ⟨hz, hTI, ⟨x0, y0, hTO⟩, h1, h2⟩ := st
    obtain ⟨xs, ys, hqx, hqy, hend⟩ := hg
    obtain ⟨its, rv, p, _⟩ := I.list hqx
    obtain ⟨its2, rv2, p2, _⟩ := I.tuple hqy
    have l1 := rv.length
    have l2 := rv2.length
    have he : its.toArray[i]? = none ∨ its2.toArray[i]? = none := by
      rcases hend with q | q
      · exact .inl (by simp; omega)
      · exact .inr (by simp; omega)
    exact pyNext_zipM_end (I.ok.hd hc) D hz hTI hTO h1 h2 p.isList p2 he fun h' hk => ⟨rfl, I.turnedL (t' := s.toks) (ch := [z, TI, TO, i1, i2]) (fun c o hb q =>
      hk c o (fun q' => hb (by simp [q'])) (fun q' => hb (by simp [q'])) (fun q' => hb (by simp [q'])) (fun q' => hb (by simp [q'])) q) hf⟩
  self := fun A i s Q E st h => wpAny_pyIter_zip st.1 h
def iZipM (K : PySem.W.Frag) (ta : TA) : TI := fun σ H R => ta σ H fun vs H1 => ∃ a b xs ys, vs = [.ref a, .ref b] ∧ (SqL K H1 a xs ∧ SqT K H1 b ys ∧ R (ItzM K a b) H1)
theorem pi_zipM {X : Cx} {e e2 : Expr} {ta : TA} {p pos tpos : Pos} {elts : List Expr} {kk : Nat} (hg : Gl X "zip") (hm : X.mg "zip" = none) (ha : PA X [e, e2] ta)
    (hs : starEach [e, e2] X.env = (false, eval e X.env) :: starEach [e2] X.env := by rfl) (hpl : (backTo pos (starEach [e2] X.env)).any (·.1) = false := by rfl) :
    PI X (.Tuple elts kk tpos) (.Call (.Name "zip" p) [e, e2] [] pos) (iZipM X.K ta) := by
  refine ⟨fun pins s σ H R I h => ?_⟩
  refine Call_ (ld_blt I hg hm PyProof.Rows.boot_zip (PyProof.Rows.callWith_type1 (thn (ha.run pos pins s σ H _ I h) fun us s1 ⟨vs, H1, I1, r1, q1⟩ => ?_) hs hpl))
  obtain ⟨a, b, xs, ys, ex, q1⟩ := q1
  subst ex
  cases r1 with
  | cons r rr =>
    cases rr with
    | cons r' rr =>
      cases rr
      cases r
      cases r'
      have fresh5 : ∀ c, c ∈ [s1.heap.objs.size + 4, s1.heap.objs.size + 2, s1.heap.objs.size + 3, s1.heap.objs.size, s1.heap.objs.size + 1] → FpOk X pins H1 c := fun c hcm => by
        have e' : c = s1.heap.objs.size + 4 ∨ c = s1.heap.objs.size + 2 ∨ c = s1.heap.objs.size + 3 ∨ c = s1.heap.objs.size ∨ c = s1.heap.objs.size + 1 := by simpa using hcm
        have hle : s1.heap.objs.size ≤ c := by
          rcases e' with z | z | z | z | z
          · rw [z]; exact Nat.le_add_right _ _
          · rw [z]; exact Nat.le_add_right _ _
          · rw [z]; exact Nat.le_add_right _ _
          · rw [z]; exact Nat.le_refl _
          · rw [z]; exact Nat.le_add_right _ _
        exact I1.fpOk hle (I1.hok.fresh hle)
      obtain ⟨hqx, hqy, q⟩ := q1
      obtain ⟨its, rv, p1, _⟩ := I1.list hqx
      obtain ⟨its2, rv2, p2, _⟩ := I1.tuple hqy
      obtain ⟨o2, ho2, _⟩ := id p2
      refine call_zipM p1.isList (show s1.heap.IsTuple b its2.toArray from p2) fun h' hz hTI hTO h1 h2 hsz hk => wpAny_pyIter_zip hz ?_
      have I2 : Inv X pins σ H1 { s1 with heap := h' } := I1.kept (t' := s1.toks) hk
      exact ⟨s1.heap.objs.size + 4, [s1.heap.objs.size + 4, s1.heap.objs.size + 2, s1.heap.objs.size + 3, s1.heap.objs.size, s1.heap.objs.size + 1], _, _, H1, rfl, I2, turn_zipM (PySem.W.ktu_apart s1.heap.objs.size a b p1.lt (Heap.lt_size ho2)), ⟨hz, hTI, ⟨_, _, hTO⟩, h1, h2⟩, fresh5, q⟩
end MP
-- EN1
/-! enumerate of a tuple (turned from the proofs about a list). -/
namespace MP
open PySem
open PySem.Sem (wp)
open AutoSeq1 (wpAny_loadPart')
theorem meets_enumerate_newT (l : Addr) (items : Array Value) (n : Nat) (dct : Option Addr) (sl : Array (Option Value)) :
    Meets (Builtin.«enumerate.__new__» ⟨[.type "enumerate", .ref l], []⟩) (fun _ R s => s.heap.get? l = some { cls := .type "tuple", dict := dct, data := .seq items n, slots := sl } ∧
      R (.ok (.ret (.ref (s.heap.push { cls := .type "tuple_iterator", data := .fields #[.ref l, .int 0 0] }).objs.size)))
        { s with heap := (s.heap.push { cls := .type "tuple_iterator", data := .fields #[.ref l, .int 0 0] }).push { cls := .type "enumerate", data := .fields #[.none, .bool false, .ref s.heap.objs.size, rawInt 0, .none, .none] } }) :=
  .of_wp fun prog w A R s h => by
    obtain ⟨hp, g, d, tk, os⟩ := s; obtain ⟨hl, h⟩ := h
    have hsub := sub_enumerate
    have hL : Heap.IsTuple (Shared.heap ⟨hp, g, d, tk, os⟩) l items := ⟨_, hl, rfl, n, rfl⟩
    wp_walk using wpAny_loadPart' hl
    refine wpAny_stack_any fun st => wpAny_pure ?_
    split
    · rename_i c _ _ _ _ _
      cases (c == Value.type "enumerate")
      · wp_walk using wpAny_loadPart' hl, wpAny_pyIter_tuple hL
        exact ⟨_, rfl, h⟩
      · wp_walk using wpAny_loadPart' hl, wpAny_pyIter_tuple hL
        exact ⟨_, rfl, h⟩
    · wp_walk using wpAny_loadPart' hl, wpAny_pyIter_tuple hL
      exact ⟨_, rfl, h⟩
section
variable {prog : Program} {w : World} {A : Around} {E : Value → Shared → Prop} {s : Shared}
theorem call_enumerate_tuple {l : Addr} {items : Array Value} {Q : Value → Shared → Prop} (hL : s.heap.IsTuple l items)
    (h : ∀ h', IsEnum h' (s.heap.objs.size + 1) s.heap.objs.size 0 .none → h'.IsTupleIter s.heap.objs.size l 0 → h'.objs.size = s.heap.objs.size + 2 →
      (∀ b o, s.heap.get? b = some o → h'.get? b = some o) → Q (.ref (s.heap.objs.size + 1)) { s with heap := h' }) :
    wpAny (model prog w) A (call (.type "enumerate") [.ref l]) Q E s := by
  obtain ⟨⟨c, dct, dt, sl⟩, hl, hc, n, hd⟩ := hL
  replace hc : c = .type "tuple" := hc
  replace hd : dt = .seq items n := hd
  subst hc hd
  refine callType_new F.called_enumerate (by decide) (F.typeCall_enumerate_1 _) (F.newCall_enumerate_1 _) (fun obj => F.args_object_init_2 obj _) F.entry_enumerate_new
    (meets_enumerate_newT l items n dct sl) ⟨hl, ?_⟩
  have hz : (s.heap.push { cls := .type "tuple_iterator", data := .fields #[.ref l, .int 0 0] }).objs.size = s.heap.objs.size + 1 := Heap.size_push ..
  show _ ∧ _
  rw [hz]
  have he : IsEnum ((s.heap.push { cls := .type "tuple_iterator", data := .fields #[.ref l, .int 0 0] }).push
      { cls := .type "enumerate", data := .fields #[.none, .bool false, .ref s.heap.objs.size, rawInt 0, .none, .none] }) (s.heap.objs.size + 1) s.heap.objs.size 0 .none := by
    have := Heap.get?_push_size (s.heap.push { cls := .type "tuple_iterator", data := .fields #[.ref l, .int 0 0] })
      (o := { cls := .type "enumerate", data := .fields #[.none, .bool false, .ref s.heap.objs.size, rawInt 0, .none, .none] }) rfl
    rw [hz] at this; exact this
  refine ⟨⟨_, he, rfl⟩, h _ he ⟨_, Heap.get?_push_of_some _ (Heap.get?_push_size _ rfl), rfl, rfl⟩ (by rw [Heap.size_push, hz]) fun b o x => Heap.get?_push_of_some _ (Heap.get?_push_of_some _ x)⟩
theorem enumerate_next_itemT {e it l : Addr} {i : Nat} {items : Array Value} {x old : Value} {Q : Value → Shared → Prop}
    (he : IsEnum s.heap e it i old) (hit : s.heap.IsTupleIter it l i) (hl : s.heap.IsTuple l items) (hx : items[i]? = some x) (hne : e ≠ it)
    (hQ : ∀ h', IsEnumOut h' e it ((i : Int) + 1) x s.heap.objs.size → h'.IsTupleIter it l (i + 1) →
      h'.get? s.heap.objs.size = some { cls := .type "tuple", data := .seq #[.int i s.toks, x] } → h'.objs.size = s.heap.objs.size + 1 →
      (∀ b o, b ≠ e → b ≠ it → s.heap.get? b = some o → h'.get? b = some o) → Q (.ref s.heap.objs.size) { s with heap := h', toks := s.toks + 1 }) :
    wpAny (model prog w) A (Builtin.«enumerate.__next__» ⟨[.ref e], []⟩) (fun fin s' => ∃ v, fin = .done (.ret v) ∧ Q v s') E s := by
  obtain ⟨hp, g, d, tk, os⟩ := s
  show wpAny _ _ (field (.ref e) 2 >>= _) _ _ _
  refine wpAny_bind (wpAny_field he rfl (x := .ref it) rfl ?_)
  refine wpAny_bind (RZ.nextOf_tuple_item hit hl hx fun h₁ hit₁ hs₁ => ?_)
  replace hs₁ : Heap.SameBut it hp h₁ := hs₁
  have he₁ : IsEnum h₁ e it i old := (hs₁.2 e hne).trans he
  show wpAny _ _ (field (.ref e) 3 >>= _) _ _ ⟨h₁, g, d, tk, os⟩
  refine wpAny_bind (wpAny_field he₁ rfl (x := rawInt i) rfl ?_)
  show wpAny _ _ (field (.ref e) 4 >>= _) _ _ ⟨h₁, g, d, tk, os⟩
  refine wpAny_bind (wpAny_field he₁ rfl (x := .none) rfl ?_)
  show wpAny _ _ (mkInt i >>= _) _ _ ⟨h₁, g, d, tk, os⟩
  refine wpAny_bind (wpAny_mkInt ?_)
  show wpAny _ _ (setField (.ref e) 3 (rawInt ((i : Int) + 1)) >>= _) _ _ ⟨h₁, g, d, tk + 1, os⟩
  refine wpAny_bind (wpAny_setField_rec he₁ (by simp) fun h₂ he₂ hs₂ => ?_)
  replace hs₂ : Heap.SameBut e h₁ h₂ := hs₂
  replace he₂ : IsEnum h₂ e it ((i : Int) + 1) old := he₂
  show wpAny _ _ (setField (.ref e) 4 .none >>= _) _ _ ⟨h₂, g, d, tk + 1, os⟩
  refine wpAny_bind (wpAny_setField_rec he₂ (by simp) fun h₃ he₃ hs₃ => ?_)
  replace hs₃ : Heap.SameBut e h₂ h₃ := hs₃
  replace he₃ : IsEnum h₃ e it ((i : Int) + 1) old := he₃
  show wpAny _ _ (newTuple [.int i tk, x] >>= _) _ _ ⟨h₃, g, d, tk + 1, os⟩
  refine wpAny_bind (wpAny_newTuple ?_)
  have he₄ : IsEnum (h₃.push { cls := .type "tuple", data := .seq #[.int i tk, x] }) e it ((i : Int) + 1) old := Heap.get?_push_of_some _ he₃
  generalize hh₄ : h₃.push { cls := .type "tuple", data := .seq #[.int i tk, x] } = h₄ at he₄
  have hsz : h₃.objs.size = hp.objs.size := by rw [hs₃.1, hs₂.1, hs₁.1]
  have hel : e < hp.objs.size := Heap.lt_size he
  have ht₄ : h₄.get? hp.objs.size = some { cls := .type "tuple", data := .seq #[.int i tk, x] } := by rw [← hh₄, ← hsz]; exact Heap.get?_push_size _ rfl
  have hz₄ : h₄.objs.size = hp.objs.size + 1 := by rw [← hh₄, Heap.size_push, hsz]
  have hk₄ : ∀ b o, b ≠ e → b ≠ it → hp.get? b = some o → h₄.get? b = some o := fun b o hbe hbi hb => by
    rw [← hh₄]; exact Heap.get?_push_of_some _ (hs₃.extBut b o hbe (hs₂.extBut b o hbe (hs₁.extBut b o hbi hb)))
  have hit₄ : h₄.IsTupleIter it l (i + 1) := by
    rw [← hh₄]; obtain ⟨o, ho, r⟩ := (hit₁.extBut hs₂.extBut (Ne.symm hne)).extBut hs₃.extBut (Ne.symm hne); exact ⟨o, Heap.get?_push_of_some _ ho, r⟩
  show wpAny _ _ (Builtin.SmallTypes.ownedTupleIsFree (.ref e) >>= _) _ _ ⟨h₄, g, d, tk + 1, os⟩
  rw [hsz]
  clear hh₄ he₃ hs₃ he₂ hs₂ he₁ hs₁ hit₁ hsz h₃ h₂ h₁
  refine wpAny_bind ?_
  · unfold Builtin.SmallTypes.ownedTupleIsFree
    refine wpAny_bind (wpAny_field he₄ rfl (x := .none) rfl (wpAny_pure ?_))
    simp only [if_true]
    refine wpAny_bind (wpAny_rule ?_)
    refine wpAny_bind (wpAny_field he₄ rfl (x := old) rfl ?_)
    refine wpAny_bind (wpAny_setField_rec he₄ (by simp) fun h₅ he₅ hs₅ => ?_)
    replace hs₅ : Heap.SameBut e h₄ h₅ := hs₅
    replace he₅ : IsEnum h₅ e it ((i : Int) + 1) x := he₅
    show wpAny _ _ (Builtin.SmallTypes.ownedTupleHandOut (.ref e) (.ref hp.objs.size) >>= _) _ _ ⟨h₅, g, d, tk + 1, os⟩
    refine wpAny_bind ?_
    · unfold Builtin.SmallTypes.ownedTupleHandOut
      refine wpAny_bind (wpAny_setField_rec he₅ (by simp) fun h₆ he₆ hs₆ => ?_)
      replace hs₆ : Heap.SameBut e h₅ h₆ := hs₆
      replace he₆ : IsEnumOut h₆ e it ((i : Int) + 1) x hp.objs.size := he₆
      refine wpAny_setField_rec he₆ (by simp) fun h₇ he₇ hs₇ => ?_
      replace hs₇ : Heap.SameBut e h₆ h₇ := hs₇
      replace he₇ : IsEnumOut h₇ e it ((i : Int) + 1) x hp.objs.size := he₇
      refine wpAny_bind (wpAny_letGo (wpAny_pure ⟨_, rfl, hQ h₇ he₇ ?_ ?_ ?_ ?_⟩))
      · exact ((hit₄.extBut hs₅.extBut (Ne.symm hne)).extBut hs₆.extBut (Ne.symm hne)).extBut hs₇.extBut (Ne.symm hne)
      · exact hs₇.extBut _ _ (Nat.ne_of_gt hel) (hs₆.extBut _ _ (Nat.ne_of_gt hel) (hs₅.extBut _ _ (Nat.ne_of_gt hel) ht₄))
      · rw [hs₇.1, hs₆.1, hs₅.1, hz₄]
      · exact fun b o hbe hbi hb => hs₇.extBut b o hbe (hs₆.extBut b o hbe (hs₅.extBut b o hbe (hk₄ b o hbe hbi hb)))
theorem pyNext_enumT_item {e it l : Addr} {i : Nat} {items : Array Value} {x old : Value} {Q : Option Value → Shared → Prop}
    (he : IsEnum s.heap e it i old) (hit : s.heap.IsTupleIter it l i) (hl : s.heap.IsTuple l items) (hx : items[i]? = some x) (hne : e ≠ it)
    (hQ : ∀ h', IsEnumOut h' e it ((i : Int) + 1) x s.heap.objs.size → h'.IsTupleIter it l (i + 1) →
      h'.get? s.heap.objs.size = some { cls := .type "tuple", data := .seq #[.int i s.toks, x] } → h'.objs.size = s.heap.objs.size + 1 →
      (∀ b o, b ≠ e → b ≠ it → s.heap.get? b = some o → h'.get? b = some o) → Q (some (.ref s.heap.objs.size)) { s with heap := h', toks := s.toks + 1 }) :
    wpAny (model prog w) A (pyNext (.ref e)) Q E s := by
  have hT : s.TypeIs (.ref e) "enumerate" := ⟨_, he, rfl⟩
  unfold pyNext
  exact wpAny_bind (wpAny_attempt (wpAny_callSpecial?_slot (name := Str.ofString "__next__") hT F.slot_enumerate_next
    (wpAny_call_entry F.slot_enumerate_next hT F.entry_enumerate_next
      (enumerate_next_itemT he hit hl hx hne fun h' a b c d k => wpAny_pure (hQ h' a b c d k)) (F.args_enumerate_next_1 _))))
theorem pyNext_enumT_end {e it l : Addr} {i : Nat} {items : Array Value} {old : Value} {Q : Option Value → Shared → Prop} (hh : A.handled = none)
    (he : IsEnum s.heap e it i old) (hit : s.heap.IsTupleIter it l i) (hl : s.heap.IsTuple l items) (hx : items[i]? = none)
    (hQ : ∀ h', Heap.ExtBut it s.heap h' → Q none { s with heap := h' }) : wpAny (model prog w) A (pyNext (.ref e)) Q E s := by
  have hT : s.TypeIs (.ref e) "enumerate" := ⟨_, he, rfl⟩
  unfold pyNext
  refine wpAny_bind (wpAny_attempt (wpAny_callSpecial?_slot (name := Str.ofString "__next__") hT F.slot_enumerate_next
    (wpAny_call_entry F.slot_enumerate_next hT F.entry_enumerate_next ?_ (F.args_enumerate_next_1 _))))
  show wpAny _ _ (field (.ref e) 2 >>= _) _ _ _
  refine wpAny_bind (wpAny_field he rfl (x := .ref it) rfl ?_)
  refine wpAny_bind (RZ.nextOf_tuple_end hh hit hl hx fun h' x he' hx' => ?_)
  obtain ⟨o, ho, hc⟩ := hx'
  refine wpAny_bind (wpAny_isInstance (T := "StopIteration") (b := true) ⟨o, ho, hc⟩ isSubtype_stop ?_)
  exact wpAny_pure (hQ _ he')
end
end MP
namespace MP
open PySem PySem.Spec PyProof.Rows L2
def IteT (K : PySem.W.Frag) (a : Addr) : It :=
  ⟨fun i H => ∃ (xs : List V) (x : V), SqT K H a xs ∧ xs[i]? = some x, fun i H v H' => ∃ T x, v = .ref T ∧ H T = none ∧ H' = upd H T (.tup [.int (i : Nat), x]) ∧ ∀ xs, SqT K H a xs → xs[i]? = some x, fun i H => ∃ xs : List V, SqT K H a xs ∧ xs.length ≤ i⟩
theorem turn_enumT {P : Program} {w : World} {K : PySem.W.Frag} {elts : List Expr} {kk : Nat} {tpos : Pos} (a e it : Addr) :
    Turn P w K (.Tuple elts kk tpos) (IteT K a) [e, it] e (fun i h => (∃ old, IsEnum h e it ((i : Nat) : Int) old) ∧ h.IsTupleIter it a i ∧ e ≠ it) where
  mem := by simp
  obj := fun i h st b hb => by
    obtain ⟨⟨old, he⟩, ⟨o, ho, hc, hd⟩, _⟩ := st
    have e' : b = e ∨ b = it := by simpa using hb
    rcases e' with z | z
    · rw [z]; exact ⟨_, he, fun v q => nomatch q⟩
    · rw [z]; exact ⟨o, ho, fun v q => by rw [hd] at q; cases q⟩
  keep := fun i h h' st k => let ⟨⟨old, he⟩, hi, hne⟩ := st; ⟨⟨old, k e (by simp) _ he⟩, hi.at fun o q => k it (by simp) o q, hne⟩
  item := by
    intro X hP hw hK hc i pins s σ H E I hf st hg
    subst hP hw hK
    obtain ⟨⟨old, he⟩, hit, hne⟩ := st
    obtain ⟨xs, x, hq, hx⟩ := hg
    obtain ⟨its, rv, p, hz⟩ := I.tuple hq
    obtain ⟨u, hu, ru⟩ := rv.get hx
    have hel : e < s.heap.objs.size := Heap.lt_size he
    have hil : it < s.heap.objs.size := by obtain ⟨_, q, _⟩ := hit; exact Heap.lt_size q
    refine pyNext_enumT_item he hit p (x := u) (by simpa using hu) hne fun h' ho hit' hT hsz hk => ?_
    refine ⟨_, rfl, wpAny_letOwnedTupleGo_enum (s := { s with heap := h', toks := s.toks + 1 }) ho fun h'' he' sb => ?_⟩
    have hT2 : h''.get? s.heap.objs.size = some { cls := .type "tuple", data := .seq #[.int i s.toks, u] } := (sb.2 _ (Nat.ne_of_gt hel)).trans hT
    have new : ObjOk X.prog X.w (upd H s.heap.objs.size (.tup [.int (i : Nat), x])) h'' s.heap.objs.size (.tup [.int (i : Nat), x]) :=
      ⟨by show 2 ≤ sizeLine; decide, [.int i s.toks, u], .cons ⟨_, rfl⟩ (.cons ru .nil), ⟨_, hT2, rfl, _, rfl⟩⟩
    have I1 : Inv X pins σ (upd H s.heap.objs.size (.tup [.int (i : Nat), x])) { s with heap := h'', toks := s.toks + 1 } :=
      I.turnedNew (ch := [e, it]) (fun b ob hb q => (sb.2 b (fun z => hb (by simp [z]))).trans (hk b ob (fun z => hb (by simp [z])) (fun z => hb (by simp [z])) q)) hf (Nat.le_refl _) new
    refine ⟨.ref s.heap.objs.size, _, I1, rfl, ⟨_, x, rfl, I.hok.fresh (Nat.le_refl _), rfl, fun ys hy => by rw [I.tuple_inj hy hq]; exact hx⟩, ⟨⟨u, ?_⟩, hit'.at fun o q => (sb.2 it (Ne.symm hne)).trans q, hne⟩, fun b hb => ?_⟩
    · have e1 : ((i + 1 : Nat) : Int) = (i : Int) + 1 := by omega
      rw [e1]; exact he'
    · have hb' : b < s.heap.objs.size := by
        have e' : b = e ∨ b = it := by simpa using hb
        rcases e' with z | z
        · rw [z]; exact hel
        · rw [z]; exact hil
      rw [upd_ne (Nat.ne_of_lt hb')]
      exact (hf b hb).1
  done := by
    intro X hP hw hK hc i pins s σ H E I hf st hg
    subst hP hw hK
    obtain ⟨⟨old, he⟩, hit, hne⟩ := st
    obtain ⟨xs, hq, hx⟩ := hg
    obtain ⟨its, rv, p, hz⟩ := I.tuple hq
    obtain ⟨f0, f1, f2, f3, f4, f5⟩ := hf it (by simp)
    have hl := rv.length
    exact pyNext_enumT_end (I.ok.hd hc) he hit p (by simp; omega) fun h' eb => ⟨rfl, I.turned (t' := s.toks) (fun b o hb q => eb b o hb q) f0 f1 f3 f4 f5⟩
  self := fun A i s Q E st h => let ⟨⟨_, he⟩, _⟩ := st; wpAny_pyIter_enum he h
def iEnumT (K : PySem.W.Frag) (ta : TA) : TI := fun σ H R => ta σ H fun vs H1 => ∃ a xs, vs = [.ref a] ∧ SqT K H1 a xs ∧ R (IteT K a) H1
theorem pi_enumT {X : Cx} {e : Expr} {ta : TA} {p pos tpos : Pos} {elts : List Expr} {kk : Nat} (hg : Gl X "enumerate") (hm : X.mg "enumerate" = none) (ha : PA X [e] ta) (hs : starEach [e] X.env = [(false, eval e X.env)] := by rfl) :
    PI X (.Tuple elts kk tpos) (.Call (.Name "enumerate" p) [e] [] pos) (iEnumT X.K ta) := by
  refine ⟨fun pins s σ H R I h => ?_⟩
  refine Call_ (ld_blt I hg hm boot_enumerate (PyProof.Rows.callWith_type1 (thn (ha.run pos pins s σ H _ I h) fun us s1 ⟨vs, H1, I1, r1, q1⟩ => ?_) hs rfl))
  obtain ⟨a, xs, ex, hq, q⟩ := q1
  subst ex
  cases r1 with
  | cons r rr =>
    cases rr
    cases r
    obtain ⟨its, rv, p', hz⟩ := I1.tuple hq
    refine call_enumerate_tuple p' fun h' he hit hsz hk => wpAny_pyIter_enum he ?_
    have I2 : Inv X pins σ H1 { s1 with heap := h' } := I1.kept (t' := s1.toks) hk
    refine ⟨s1.heap.objs.size + 1, [s1.heap.objs.size + 1, s1.heap.objs.size], _, _, H1, rfl, I2, turn_enumT a (s1.heap.objs.size + 1) s1.heap.objs.size, ⟨⟨.none, he⟩, hit, Nat.succ_ne_self _⟩, fun b hb => ?_, q⟩
    have e' : b = s1.heap.objs.size + 1 ∨ b = s1.heap.objs.size := by simpa using hb
    have hle : s1.heap.objs.size ≤ b := by
      rcases e' with z | z
      · rw [z]; exact Nat.le_add_right _ _
      · rw [z]; exact Nat.le_refl _
    exact I1.fpOk hle (I1.hok.fresh hle)
end MP
-- DD1
/-! Dicts: sorted(d), dict(zip(names, row)), dicts keyed by rows. -/
namespace MP
open PySem PySem.Spec PyProof.Rows L2 LamX
/-! ### the keys of a dict, gathered; sorted -/
section
variable {P : Program} {w : World} {A : Around} {E : Value → Shared → Prop} {s : Shared} {T : String} {r d : Addr} {n : Nat} {Pv : Nat → Value → Prop} {OK : Heap → Prop}
theorem collect_code {R : Result → Shared → Prop} (K : PySem.W.KdlSrc P w T r d n Pv OK) (hh : A.handled = none) (hok : OK s.heap) (hn : n ≤ sizeLine)
    (hR : ∀ h' tk acc' c', (∀ b o, s.heap.get? b = some o → h'.get? b = some o) → h'.get? s.heap.objs.size = some { cls := .type "list", dict := none, data := .seq acc' c', slots := #[] } → ItemsOf Pv acc' n → R (.ok (.ret (.ref s.heap.objs.size))) { s with heap := h', toks := tk }) :
    codeAny (model P w) A (.builtin "proto.collect" ⟨[.ref r], []⟩) R s := by
  refine codeAny_builtin F.entry_proto_collect ?_
  rw [Around.under_plainId F.plain_proto_collect _]
  show wpAny _ A.in1 (newList [] >>= fun l => again (.builtin "list.__iadd__" ⟨[l, .ref r], []⟩)) _ _ s
  refine wpAny_bind (wpAny_newObj_type ?_)
  refine wpAny_pure ⟨plainId_quiet F.plain_list_iadd _, codeAny_builtin F.entry_list_iadd ?_⟩
  rw [Around.under_plainId F.plain_list_iadd _]
  have hS : (s.heap.push { cls := .type "list", data := .seq ([] : List Value).toArray }).get? s.heap.objs.size = some { cls := .type "list", data := .seq ([] : List Value).toArray } := Heap.get?_push_size _ rfl
  have hlt := K.there _ hok
  exact PySem.W.kdl_extend (A := A) (R := R) (s := { s with heap := s.heap.push { cls := .type "list", data := .seq ([] : List Value).toArray } }) K hh (K.keep _ _ hok fun b _ o e => Heap.get?_push_of_some _ e) s.heap.objs.size (Nat.ne_of_gt hlt.1) (Nat.ne_of_gt hlt.2) (.ref s.heap.objs.size) 0 hS
    (fun h' tk acc' c' hk hS' hacc => hR h' tk acc' c' (fun b o e => hk b o (Nat.ne_of_lt (Heap.lt_size e)) (Heap.get?_push_of_some _ e)) hS' hacc) hn
theorem collect_kdl {Q : List Value → Shared → Prop} (K : PySem.W.KdlSrc P w T r d n Pv OK) (hh : A.handled = none) (hok : OK s.heap) (hn : n ≤ sizeLine)
    (hQ : ∀ h' tk acc' c', (∀ b o, s.heap.get? b = some o → h'.get? b = some o) → h'.get? s.heap.objs.size = some { cls := .type "list", dict := none, data := .seq acc' c', slots := #[] } → ItemsOf Pv acc' n → Q acc'.toList { s with heap := h', toks := tk }) :
    wpAny (model P w) A (collect (.ref r)) Q E s := by
  unfold collect
  refine wpAny_bind (wpAny_runValue (collect_code K hh hok hn fun h' tk acc' c' hk hS' hacc => ?_))
  show wpAny _ A (load s.heap.objs.size >>= _) _ _ _
  refine wpAny_bind (wpAny_load hS' ?_)
  exact wpAny_pure (hQ h' tk acc' c' hk hS' hacc)
/-- sorted(d), the keys texts -/
theorem sorted_kdl {zs : List Str} {Q : Value → Shared → Prop} (K : PySem.W.KdlSrc P w T r d n Pv OK) (hh : A.handled = none) (hok : OK s.heap) (hn : n ≤ 4000) (hz : zs.length = n) (nd : zs.Nodup) (hP : ∀ i v, Pv i v → ∃ x t, zs[i]? = some x ∧ v = Value.str x t) (hu : A.units + 4 < cLine)
    (hQ : ∀ h' tk p (out : Array Value) (c : Nat), (∀ b o, s.heap.get? b = some o → h'.get? b = some o) → s.heap.objs.size ≤ p →
      h'.get? p = some (seqObj "list" out c) → PySem.W.EachIs (fun v x => ∃ t, v = Value.str x t) out.toList (sset zs) → Q (.ref p) { s with heap := h', toks := tk }) :
    wpAny (model P w) A (call (.builtin "sorted") [.ref r]) Q E s := by
  refine Calls.call_function_entry kind_sorted plain_sorted entry_sorted (args_sorted1 _) ?_
  unfold Builtin.«sorted»
  refine wpAny_bind (m := checkCount "sorted" 1 1 _) (wpAny_pure ?_)
  refine wpAny_bind (collect_kdl (A := A.in1) K hh hok (by rw [sizeLine_eq]; omega) fun h' tk acc c' k1 hl it => ?_)
  have hvl : acc.toList.length = zs.length := by rw [Array.length_toList, it.1, hz]
  have bound : acc.toList.length ≤ sizeLine := by rw [hvl, hz, sizeLine_eq]; omega
  have each : PySem.W.EachIs (fun v x => ∃ t, v = Value.str x t) acc.toList zs := by
    have key : ∀ (l : List Value) (ys : List Str), l.length = ys.length → (∀ (i : Nat) (v : Value), l[i]? = some v → ∃ x t, ys[i]? = some x ∧ v = Value.str x t) → PySem.W.EachIs (fun v x => ∃ t, v = Value.str x t) l ys := by
      intro l
      induction l with
      | nil =>
        intro ys hy _
        rw [List.eq_nil_of_length_eq_zero hy.symm]
        exact .nil
      | cons v l ih =>
        intro ys hy hi
        cases ys with
        | nil => simp at hy
        | cons y ys =>
          obtain ⟨x, t, e1, e2⟩ := hi 0 v rfl
          simp only [List.getElem?_cons_zero, Option.some.injEq] at e1
          exact .cons ⟨t, by rw [e1]; exact e2⟩ (ih ys (by simpa using hy) fun i u hu => by simpa using hi (i + 1) u (by simpa using hu))
    exact key _ _ hvl fun i v hv => hP i v (it.2 i v (by rw [← Array.getElem?_toList]; exact hv))
  refine wpAny_bind (wpAny_newList ?_ bound)
  have hoL : (h'.push (seqObj "list" acc.toList.toArray 0)).get? h'.objs.size = some (seqObj "list" acc.toList.toArray 0) := Heap.get?_push_size _ rfl
  refine wpAny_bind (wpAny_holding (PySem.W.list_sort_data (s := { s with heap := h'.push (seqObj "list" acc.toList.toArray 0), toks := tk }) (bs := zs) (enc := PyData.str) hoL each
    (each.mono fun v x ⟨t, e⟩ => ⟨[], by rw [e]; exact .str x t, by simp⟩) (PySem.W.AllAlike.of fun _ _ => rfl) (PySem.W.Sortable.others fun _ => ⟨(fun z => nomatch z), fun _ z => nomatch z⟩) (by rw [← hvl]; exact bound)
    (fun _ _ => by show A.units + 1 + 1 + 0 < cLine; omega) fun out hol heq => ?_))
  obtain ⟨c, hc⟩ := sortedHeap_at (vs := acc.toList) (out := out.toArray) hoL
  rw [PySem.W.dataLe_str] at heq
  have em : zs.mergeSort (fun a b => decide (a.cps.toList ≤ b.cps.toList)) = sset zs := by
    refine sset_eq (srt_of_sorted (List.pairwise_mergeSort (fun a b c => sLe_trans a b c) (fun a b => sLe_total a b) _) ?_) fun k => ?_
    · exact (List.mergeSort_perm _ _).nodup_iff.mpr nd
    · rw [(List.mergeSort_perm _ _).mem_iff]
  rw [em] at heq
  have hsz : s.heap.objs.size ≤ h'.objs.size := Nat.le_of_lt (Heap.lt_size hl)
  refine wpAny_pure ⟨_, rfl, hQ _ tk h'.objs.size out.toArray c (fun b u e => ?_) hsz hc (by simpa using heq)⟩
  have q := k1 b u e
  have hlt := Heap.lt_size q
  show (sortedHeap (h'.push (seqObj "list" acc.toList.toArray 0)) h'.objs.size acc.toList out.toArray).get? b = some u
  rw [sortedHeap_old (Nat.ne_of_lt hlt) (by rw [size_push']; exact Nat.lt_succ_of_lt hlt)]
  exact Heap.get?_push_of_some _ q
end
section
variable {X : Cx}
theorem kvs_keys {kvs : List (Key × V)} {vs : List (Key × Value)} (r : KV kvs vs) : kvs.map (·.1) = vs.map (·.1) := r.keys
/-- sorted(d) -/
def rSortD : List V → Hp → VK → Prop := fun vs H Q => ∃ (a : Addr) (kvs : List (Key × V)) (zs : List Str), vs = [V.ref a] ∧ H a = some (.dK kvs) ∧ kvs.map (·.1) = zs.map Sum.inr ∧ zs.Nodup ∧ zs.length ≤ 4000 ∧ ∀ p, H p = none → Q (.ref p) (upd H p (.lst ((sset zs).map V.str)))
theorem cr_sortD (hc : X.calm = true) (hu : X.A.units + 64 < cLine) : CallR X (.builtin "sorted") rSortD := by
  intro pins s σ H vs us Q I r h
  obtain ⟨a, kvs, zs, rfl, ha, hk, nd, hz, q⟩ := h
  rw [Vals.ref1 r]
  obtain ⟨hl, lo, ws, rel, dd⟩ := (show ObjOk X.prog X.w H s.heap a (.dK kvs) from I.hok a _ ha)
  have hkw : ws.map (·.1) = zs.map Sum.inr := by rw [← rel.keys, hk]
  have hlen : zs.length = ws.length := by
    have := congrArg List.length hkw
    simpa using this.symm
  obtain ⟨ep, hat⟩ := dd.dictAt
  refine sorted_kdl (PySem.W.kdl_dict (ep := ep) lo) (I.ok.hd hc) hat (by omega) hlen nd (fun i v ⟨k, x, e1, e2⟩ => ?_) (by omega) fun h' tk p out c k hp hg hout => ?_
  · have e3 : (ws.map (·.1))[i]? = some k := by rw [List.getElem?_map, e1] <;> rfl
    rw [hkw, List.getElem?_map] at e3
    cases hzi : zs[i]? with
    | none => rw [hzi] at e3; cases e3
    | some z =>
      rw [hzi] at e3
      have e4 : Sum.inr z = k := Option.some.inj e3
      subst e4
      obtain ⟨t, e5⟩ := Value.isStrOf_shape (show Value.isStrOf z v = true from e2)
      exact ⟨z, t, rfl, e5⟩
  · have hv := eachVals hout
    have hlen : ((sset zs).map V.str).length ≤ sizeLine := by
      rw [List.length_map, sizeLine_eq]
      have := sset_len zs
      omega
    have hn : H p = none := I.hok.fresh hp
    exact ⟨.ref p, upd H p (.lst ((sset zs).map V.str)), I.laid (t' := tk) k hp ⟨hlen, out.toList, c, hv, hg⟩, rfl, q p hn⟩
end
end MP
-- DD2
/-! dict(zip(names, row)); dicts keyed by rows. -/
namespace MP
open PySem PySem.Spec PyProof.Rows L2 LamX
section
variable {X : Cx}
theorem kv_zip : ∀ {zs : List Str} {ys : List V} {us : List Value}, Vals ys us → KV ((zs.map Sum.inr).zip ys) ((zs.map (Sum.inr : Str → Key)).zip us)
  | [], _, _, _ => .nil
  | z :: zs, [], _, .nil => .nil
  | z :: zs, y :: ys, _, .cons r t => .cons ⟨rfl, r⟩ (kv_zip t)
def tDictZip (K : PySem.W.Frag) (ta : TA) : TE := fun σ H Q => ta σ H fun vs H1 => ∃ (a b : Addr) (zs : List Str) (ys : List V), vs = [.ref a, .ref b] ∧ SqL K H1 a (zs.map V.str) ∧ SqT K H1 b ys ∧ zs.length = ys.length ∧ zs.length ≤ 1000 ∧
  ∀ p, H1 p = none → Q (.ref p) (upd H1 p (.dK (mergeK [] ((zs.map Sum.inr).zip ys))))
theorem strs_get : ∀ {zs : List Str} {us : List Value}, Vals (zs.map V.str) us → ∀ (i : Nat) (u : Value), us[i]? = some u → ∃ z t, zs[i]? = some z ∧ u = .str z t
  | [], _, .nil, i, u, h => by simp at h
  | z :: zs, _, .cons r t, 0, u, h => by
    simp only [List.getElem?_cons_zero, Option.some.injEq] at h
    obtain ⟨k, e⟩ := r
    exact ⟨z, k, rfl, by rw [← h]; exact e⟩
  | z :: zs, _, .cons r t, i + 1, u, h => by
    simp only [List.getElem?_cons_succ] at h
    obtain ⟨z', k, e1, e2⟩ := strs_get t i u h
    exact ⟨z', k, by simpa using e1, e2⟩
theorem pe_dictZip {e1 e2 : Expr} {ta : TA} {p p2 q pos : Pos} (hc : X.calm = true) (hg : Gl X "dict") (hm : X.mg "dict" = none) (hg2 : Gl X "zip") (hm2 : X.mg "zip" = none) (ha : PA X [e1, e2] ta)
    (hs : starEach [e1, e2] X.env = (false, eval e1 X.env) :: starEach [e2] X.env := by rfl) (hpl : (backTo q (starEach [e2] X.env)).any (·.1) = false := by rfl)
    (hs2 : starEach [.Call (.Name "zip" p2) [e1, e2] [] q] X.env = (false, eval (.Call (.Name "zip" p2) [e1, e2] [] q) X.env) :: starEach [] X.env := by rfl) :
    PE X (.Call (.Name "dict" p) [.Call (.Name "zip" p2) [e1, e2] [] q] [] pos) (tDictZip X.K ta) := by
  refine ⟨fun pins s σ H Q I h => ?_⟩
  refine Call_ (ld_blt I hg hm boot_dict ?_)
  refine PyProof.Rows.callWith_type1 (PyProof.Rows.args_cons ?_ hs2) hs2 rfl
  refine Call_ (ld_blt I hg2 hm2 PyProof.Rows.boot_zip (PyProof.Rows.callWith_type1 (thn (ha.run q pins s σ H _ I h) fun us s1 ⟨vs, H1, I1, r1, q1⟩ => ?_) hs hpl))
  obtain ⟨a, b, zs, ys, ex, hqx, hqy, hlen, hz, q1⟩ := q1
  subst ex
  cases r1 with
  | cons r rr =>
    cases rr with
    | cons r' rr =>
      cases rr
      cases r
      cases r'
      obtain ⟨its, rv, p1, _⟩ := I1.list hqx
      obtain ⟨its2, rv2, p2', _⟩ := I1.tuple hqy
      obtain ⟨o2, ho2, _⟩ := id p2'
      have l1 := rv.length
      have l2 := rv2.length
      rw [List.length_map] at l1
      refine call_zipM p1.isList (show s1.heap.IsTuple b its2.toArray from p2') fun h' hz' hTI hTO h1 h2 hsz hk => ?_
      refine PyProof.Rows.args_nil ?_
      have P := pairArg_zipM (prog := X.prog) (w := X.w) (s1.heap.objs.size + 4) (s1.heap.objs.size + 2) (s1.heap.objs.size + 3) s1.heap.objs.size (s1.heap.objs.size + 1) a b (PySem.W.ktu_apart s1.heap.objs.size a b p1.lt (Heap.lt_size ho2)) its.toArray its2.toArray
      have hmin : min its.toArray.size its2.toArray.size = zs.length := by
        rw [List.size_toArray, List.size_toArray, ← l1, ← l2, hlen, Nat.min_self]
      rw [hmin] at P
      have prsl : ((zs.map (Sum.inr : Str → Key)).zip its2).length = zs.length := by
        rw [List.length_zip, List.length_map, ← l2, hlen, Nat.min_self]
      refine PySem.call_dict_pairs (s := { s1 with heap := h' }) (knd := mixKind X.prog X.w) (kvs := (zs.map (Sum.inr : Str → Key)).zip its2) P (I1.ok.hd hc) ⟨hz', hTI, ⟨_, _, hTO⟩, h1, h2, p1.isList.at fun o e => hk _ o e, (show s1.heap.IsTuple b its2.toArray from p2').at fun o e => hk _ o e⟩
        ⟨prsl, fun i key v ⟨e1, e2⟩ => ?_⟩ (by rw [sizeLine_eq]; omega) fun h'' tk hd hk2 => ?_
      · have e1' : its[i]? = some key := by simpa using e1
        have e2' : its2[i]? = some v := by simpa using e2
        obtain ⟨z, t, e3, e4⟩ := strs_get rv i key e1'
        refine ⟨Sum.inr z, ?_, ?_⟩
        · rw [List.getElem?_zip_eq_some]
          exact ⟨by rw [List.getElem?_map, e3] <;> rfl, e2'⟩
        · subst e4
          exact kV_is (P := X.prog) (w := X.w) (k := .inr z) ⟨t, rfl⟩
      · have kk : ∀ c o, s1.heap.get? c = some o → h''.get? c = some o := fun c o e => by
          have hlt := Heap.lt_size e
          refine hk2 c o (fun z => ?_) (hk c o e)
          simp only [List.mem_cons, List.not_mem_nil, or_false] at z
          rcases z with z | z | z | z <;> subst z <;> first | exact absurd hlt (Nat.not_lt.mpr (Nat.le_add_right _ _)) | exact absurd hlt (Nat.lt_irrefl _)
        have rel : KV (mergeK [] ((zs.map Sum.inr).zip ys)) (merged [] ((zs.map (Sum.inr : Str → Key)).zip its2)) := KV.merge (kv_zip rv2) .nil
        have hm' : (h'.objs.size == sysModules) = false := beq_eq_false_iff_ne.mpr (Nat.ne_of_gt (Nat.lt_of_lt_of_le I1.big (by rw [hsz]; exact Nat.le_add_right _ _)))
        have hln : (mergeK [] ((zs.map Sum.inr).zip ys)).length ≤ sizeLine := by
          refine Nat.le_trans (length_mergeK _ []) ?_
          rw [List.length_nil, Nat.zero_add, List.length_zip, List.length_map, sizeLine_eq]
          omega
        have hfr : s1.heap.objs.size ≤ h'.objs.size := by rw [hsz]; exact Nat.le_add_right _ _
        exact ⟨.ref h'.objs.size, _, I1.laid (t' := tk) kk hfr (show ObjOk X.prog X.w _ _ _ (.dK (mergeK [] ((zs.map Sum.inr).zip ys))) from ⟨hln, hm', _, rel, hd⟩), rfl, q1 _ (I1.hok.fresh hfr)⟩
end
/-! ### dicts keyed by rows, every value True -/
def entD (P : Program) (w : World) (L : List RK) : List DictEntry := L.map fun p => entryOfKey (nestedKind P w) (p.2, p.1, Value.bool true)
def DictN (P : Program) (w : World) (d : Addr) (L : List RK) (h : Heap) : Prop := L.length ≤ sizeLine ∧ (d == sysModules) = false ∧ ∃ o es ep, h.get? d = some o ∧ o.ExactDict ∧ o.data = .dict es ep ∧ es.toList = entD P w L ∧ (L.map (·.2)).Nodup
def DictRO (P : Program) (w : World) (d : Addr) (L : List RK) : HO := .ext (DictN P w d L)
theorem dictRO_new {P : Program} {w : World} {H : Hp} {h : Heap} {d : Addr} {L : List RK} (R : DictN P w d L h) : ObjOk P w H h d (DictRO P w d L) := by
  obtain ⟨z, m, o, es, ep, ho, r⟩ := id R
  refine ⟨R, ⟨o, ho⟩, fun h1 h2 p k => ?_⟩
  obtain ⟨z, m, o', es', ep', ho', r'⟩ := id p
  exact ⟨z, m, o', es', ep', k o' ho', r'⟩
theorem noT_dictRO {P : Program} {w : World} {d : Addr} {L : List RK} : NoT d (DictRO P w d L) := noT_ext fun hp p => by
  obtain ⟨z, m, o, es, ep, ho, _, hd, _⟩ := p
  exact ⟨o, ho, fun vs z => by rw [hd] at z; cases z⟩
/-- one more -/
def addRK (L : List RK) (p : RK) : List RK := if p.2 ∈ L.map (·.2) then L else L ++ [p]
theorem dictN_of {P : Program} {w : World} {h : Heap} {d : Addr} {L : List RK} (R : DictN P w d L h) (hk : ∀ p ∈ L, (nestedKind P w).is h p.2 p.1) : h.DictOfH (nestedKind P w) d (L.map fun p => (p.2, p.1, Value.bool true)) := by
  obtain ⟨z, m, o, es, ep, ho, hx, hd, he, nd⟩ := R
  refine ⟨o, es, ep, ho, hx, hd, by rw [he]; unfold entD; rw [List.map_map] <;> rfl, fun x hx => ?_, ?_⟩
  · obtain ⟨p, hp, rfl⟩ := List.mem_map.mp hx
    exact hk p hp
  · rw [List.map_map]
    exact nd
theorem atKey_mem {L : List RK} {k : NestedKey} : (atKey (L.map fun p => (p.2, p.1, Value.bool true)) k).isSome = decide (k ∈ L.map (·.2)) := by
  unfold atKey
  rw [Option.isSome_map]
  induction L with
  | nil => rfl
  | cons p L ih =>
    rw [List.map_cons, List.find?_cons, List.map_cons]
    by_cases e : p.2 = k
    · simp [e]
    · simp only [e, decide_false]
      rw [ih]
      simp [List.mem_cons, Ne.symm e]
section
variable {X : Cx}
theorem storedH_true {L : List RK} {x : RK} : storedH (L.map fun p => (p.2, p.1, Value.bool true)) x.2 x.1 (Value.bool true) = (addRK L x).map fun p => (p.2, p.1, Value.bool true) := by
  unfold storedH addRK
  rw [atKey_mem]
  by_cases c : x.2 ∈ L.map (·.2)
  · rw [if_pos c, if_pos (by simpa using c), List.map_map]
    refine List.map_congr_left fun p _ => ?_
    show putAt x.2 (Value.bool true) (p.2, p.1, Value.bool true) = _
    unfold putAt
    split <;> rfl
  · rw [if_neg c, if_neg (by simpa using c), List.map_append] <;> rfl
/-- d[row] = True -/
theorem set_rowD {pins : List (Addr × Obj)} {σ : L2.St} {H : Hp} {s : Shared} {d : Addr} {L : List RK} {x : RK} {Q : Unit → Shared → Prop} {E : Value → Shared → Prop} {A : Around} (hu : A.units + 10 < cLine) (I : Inv X pins σ H s) (hd : H d = some (DictRO X.prog X.w d L)) (hL : ∀ p ∈ L, KeyAt H p) (hx : KeyAt H x) (hl : L.length < sizeLine)
    (h : ∀ s', Inv X pins σ (upd H d (DictRO X.prog X.w d (addRK L x))) s' → Q () s') : wpAny (model X.prog X.w) A (setItem (.ref d) (.ref x.1) (.bool true)) Q E s := by
  have R : DictN X.prog X.w d L s.heap := (I.hok d _ hd).1
  have D := dictN_of R fun p hp => ((hL p hp).isR I).nk
  refine wpAny_setItem_heap (knd := nestedKind X.prog X.w) (hsz := by rw [List.length_map]; omega) (show A.in1.units + 8 < cLine by show A.units + 1 + 8 < cLine; omega) (hx.isR I).nk D fun h' dd hs => h _ ?_
  rw [storedH_true] at dd
  obtain ⟨o, es, ep, ho, hx', hdt, he, _, nd⟩ := dd
  have hln : (addRK L x).length ≤ sizeLine := by
    unfold addRK
    split
    · exact R.1
    · rw [List.length_append, List.length_singleton]
      exact hl
  refine d_write I (by rw [hd]; exact True.intro) hs ⟨o, ho⟩ (dictRO_new ⟨hln, R.2.1, o, es, ep, ho, hx', hdt, ?_, ?_⟩)
  · rw [he]
    unfold entD
    rw [List.map_map] <;> rfl
  · rw [List.map_map] at nd
    exact nd
def tDNewR (P : Program) (w : World) : TE := fun _ H Q => ∀ p, H p = none → Q (.ref p) (upd H p (DictRO P w p []))
theorem pe_dnewR {pos : Pos} : PE X (.Dict [] [] pos) (tDNewR X.prog X.w) := ⟨fun pins s σ H Q I h =>
  wpAny_Dict_empty ⟨.ref s.heap.objs.size, _, I.laid (a := s.heap.objs.size) (o := DictRO X.prog X.w s.heap.objs.size []) (t' := s.toks) (fun _ _ q => Heap.get?_push_of_some _ q) (Nat.le_refl _)
    (dictRO_new ⟨Nat.zero_le _, beq_eq_false_iff_ne.mpr (Ne.symm (Nat.ne_of_lt I.big)), _, #[], 0, Heap.get?_push_size _ rfl, ⟨rfl, rfl, rfl⟩, rfl, rfl, List.nodup_nil⟩), rfl, h _ (I.hok.fresh (Nat.le_refl _))⟩⟩
/-- list(d) -/
def rListR (P : Program) (w : World) : List V → Hp → VK → Prop := fun xs H Q => ∃ (d : Addr) (L : List RK), xs = [V.ref d] ∧ H d = some (DictRO P w d L) ∧ ∀ p, H p = none → Q (.ref p) (upd H p (.lst (L.map fun q => V.ref q.1)))
theorem cr_listR (hc : X.calm = true) : CallR X (.type "list") (rListR X.prog X.w) := by
  intro pins s σ H xs us Q I r h
  obtain ⟨d, L, rfl, hd, q⟩ := h
  obtain ⟨u, rfl, rx⟩ := r.one
  cases rx
  obtain ⟨z, hs, o, es, ep, ho, hx, hdt, he, hn⟩ := (I.hok d _ hd).1
  have l1 : es.size = L.length := by
    have := congrArg List.length he
    unfold entD at this
    rw [Array.length_toList, List.length_map] at this
    exact this
  refine PySem.W.kdl_call (kdl_raw hs hx hdt) (I.ok.hd hc) ho (by omega) fun h' tk acc' c' kp e it => ?_
  have ea : acc'.toList = L.map fun x => Value.ref x.1 := by
    have hl : acc'.toList.length = L.length := by rw [Array.length_toList, it.1]; exact l1
    apply List.ext_getElem?
    intro j
    rw [List.getElem?_map]
    cases hj : acc'.toList[j]? with
    | none =>
      have h1 := List.getElem?_eq_none_iff.mp hj
      rw [List.getElem?_eq_none (by omega)]
      rfl
    | some v =>
      obtain ⟨en, hen, hv⟩ := it.2 j v (by rw [← Array.getElem?_toList]; exact hj)
      have qe : es.toList[j]? = some en := by rw [Array.getElem?_toList]; exact hen
      rw [he] at qe
      unfold entD at qe
      rw [List.getElem?_map] at qe
      cases hb : L[j]? with
      | none =>
        rw [hb] at qe
        cases qe
      | some b =>
        rw [hb] at qe
        have e2 : _ = en := Option.some.inj qe
        rw [hv, ← e2]
        rfl
  have rv : Vals (L.map fun q => V.ref q.1) acc'.toList := by
    rw [ea]
    clear ea it he hd q hn l1
    induction L with
    | nil => exact .nil
    | cons p L ih => exact .cons rfl (ih (Nat.le_trans (Nat.le_succ _) z))
  have hz : (L.map fun q => V.ref q.1).length ≤ sizeLine := by rw [List.length_map]; omega
  refine ⟨.ref s.heap.objs.size, _, I.laid (t' := tk) (o := .lst (L.map fun q => V.ref q.1)) kp (Nat.le_refl _) ?_, rfl, q _ (I.hok.fresh (Nat.le_refl _))⟩
  exact ⟨hz, acc'.toList, c', rv, by rw [Array.toArray_toList]; exact e⟩
end
end MP
-- DL6
/-! DATA LAYER 6: more rules. -/
namespace MP
open PySem PySem.Spec PyProof.Rows L2 LamX
section
variable {X : Cx} {e e2 elt tg iter : Expr} {ifs : List Expr} {te te2 : TE} {we we2 : WE} {tt : TT} {wt : WT} {pos p p2 pos2 : Pos}
/-! ### - e -/
def fNeg : F1 := fun a Φ => ∃ i, a = .int i ∧ Φ (.int (-i))
theorem rd_neg : R1D (rU fun i => .int (-i)) fNeg := fun G H x a Φ Q s dn ⟨i, e, h⟩ k => by
  subst e
  cases dn
  exact ⟨i, rfl, k _ _ G H (.refl s) (.int _) h⟩
theorem de_neg (h : DE X e te we) : DE X (.UnaryOp .USub e pos) (tUn (rU fun i => .int (-i)) te) (w1 fNeg we) := ⟨pe_un un_neg h.pe, rd_1 rd_neg h.rd⟩
/-! ### x = [..], data from now on -/
theorem ds_setLcD {i : Nat} {y : Str} {py spos : Pos} {scope : Scope} {own : List (Str × Nat)} {ix : List Nat} {wi : TI} {wI : WI} {g : TG} {wg : WG} (hc : X.calm = true) (hN : X.N.Nodup) (hy : X.N[i]? = some y) (hyl : X.env.scope.names.lookup y = some .local)
    (hsw : swapsWith (.ListComp elt [⟨tg, iter, ifs, 0⟩] scope pos) (some (.Name y py)) spos.line X.env = pure true) (hi : DI X tg iter wi wI) (ok : BlkOk X.N X.env.scope scope own)
    (hg : ∀ (s : Shared) (H : Hp) (C : Addr) (cl : List (Str × Addr)) (fp : List Addr), DG (X.blk s H scope (compEnvC scope cl C X.env) fp) ix tg g wg) (ht : ∀ (s : Shared) (H : Hp) (C : Addr) (cl : List (Str × Addr)) (fp : List Addr), DTs (X.blk s H scope (compEnvC scope cl C X.env) fp) ifs tt wt)
    (he : ∀ (s : Shared) (H : Hp) (C : Addr) (cl : List (Str × Addr)) (fp : List Addr), DE (X.blk s H scope (compEnvC scope cl C X.env) fp) elt te we) (hix : ∀ i ∈ ix, i ∈ own.map (·.2) := by decide) (hs : ∀ x, foldedSetIterable iter X.env x = pure x := by intro _; rfl) :
    DS X (.Assign [.Name y py] (.ListComp elt [⟨tg, iter, ifs, 0⟩] scope pos) spos) (tAsg (tLc wi g tt te (own.map (·.2))) (gName i)) (wSet i (wPub (fun ρ Φ => wI ρ fun ds ρ1 => ds.length ≤ 1000000 ∧ wLc wg wt we (own.map (·.2)) ds (wipeE ρ1 (own.map (·.2))) Φ))) :=
  ⟨ps_setLc hc hN hy hyl hsw hi.pi ok (fun s H C cl fp => (hg s H C cl fp).pg) (fun s H C cl fp => (ht s H C cl fp).pt) (fun s H C cl fp => (he s H C cl fp).pe) hs,
    rd_set i (rd_pub (rd_lc hi.rd (hg {} (fun _ => none) 0 [] []).rd (ht {} (fun _ => none) 0 [] []).rd (he {} (fun _ => none) 0 [] []).rd hix))⟩
/-! ### enumerate, zip -/
def enumD : Nat → List Dt → List Dt
  | _, [] => []
  | n, d :: ds => .tuple [.int (n : Nat), d] :: enumD (n + 1) ds
theorem enumD_len : ∀ (n : Nat) (ds : List Dt), (enumD n ds).length = ds.length
  | _, [] => rfl
  | n, d :: ds => by rw [enumD, List.length_cons, enumD_len (n + 1) ds, List.length_cons]
theorem enumD_get : ∀ (n : Nat) (ds : List Dt) (i : Nat) (d : Dt), ds[i]? = some d → (enumD n ds)[i]? = some (.tuple [.int ((n + i : Nat) : Int), d])
  | _, [], i, d, h => by simp at h
  | n, x :: ds, 0, d, h => by
    simp only [List.getElem?_cons_zero, Option.some.injEq] at h
    subst h
    rfl
  | n, x :: ds, i + 1, d, h => by
    simp only [List.getElem?_cons_succ] at h
    rw [enumD, List.getElem?_cons_succ, enumD_get (n + 1) ds i d h, show n + 1 + i = n + (i + 1) by omega]
theorem its_enumT {K : PySem.W.Frag} {a : Addr} {vs : List V} {ds : List Dt} {G : Hp} (h : G a = some (.tup vs)) (r : Dns G vs ds) : Its (IteT K a) (enumD 0 ds) G where
  goes := fun i H hi s => by
    rw [enumD_len] at hi
    exact ⟨vs, vs[i]'(by rw [r.len]; exact hi), SqT.of (s _ _ h), List.getElem?_eq_getElem _⟩
  stops := fun H s => ⟨vs, SqT.of (s _ _ h), by rw [enumD_len, r.len]; exact Nat.le_refl _⟩
  yields := fun i H x H' hi s ⟨T, y, ex, hT, eH, hy⟩ => by
    rw [enumD_len] at hi
    have hv := hy vs (SqT.of (s _ _ h))
    obtain ⟨d, e1, dn⟩ := r.get' hv
    refine ⟨_, enumD_get 0 ds i d e1, fun G1 s1 s2 => ?_⟩
    subst eH ex
    have gT : G1 T = none := free_of s2 hT
    refine ⟨upd G1 T (.tup [.int (i : Nat), y]), Post.new s2 hT _, .tup upd_same (.cons (by rw [Nat.zero_add]; exact .int _) (.one (dn.gr (s1.trans (same_new gT _)))))⟩
def wiEnumT (we : WE) : WI := fun ρ Φ => we ρ fun d ρ1 => ∃ ds, d = .tuple ds ∧ Φ (enumD 0 ds) ρ1
theorem di_enumT {elts : List Expr} {kk : Nat} {tpos : Pos} (hm : X.mg "enumerate" = none) (h : DE X e te we) (hg : Gl X "enumerate" := by rfl) (hs : starEach [e] X.env = [(false, eval e X.env)] := by rfl) :
    DI X (.Tuple elts kk tpos) (.Call (.Name "enumerate" p) [e] [] pos) (iEnumT X.K (tCons te tNil)) (wiEnumT we) := by
  refine ⟨pi_enumT hg hm (pa_cons h.pe pa_nil hs) hs, fun B G H σ ρ xs Φ R Rp q k => ?_⟩
  refine h.rd B G H σ ρ xs _ (fun v H1 => ∃ a xs, [v] = [V.ref a] ∧ SqT X.K H1 a xs ∧ R (IteT X.K a) H1) Rp q fun v d G1 H1 ρ1 s1 R1 d1 ⟨ds, e, h1⟩ => ?_
  subst e
  cases d1 with
  | tup q dn => exact ⟨_, _, rfl, SqT.of (R1.sub _ _ q), k _ _ G1 H1 ρ1 s1 R1 h1 (its_enumT q dn)⟩
def zipD (xs ys : List Dt) : List Dt := (xs.zip ys).map fun p => .tuple [p.1, p.2]
theorem zipD_len (xs ys : List Dt) : (zipD xs ys).length = min xs.length ys.length := by
  unfold zipD
  rw [List.length_map, List.length_zip]
theorem zipD_get {xs ys : List Dt} {i : Nat} {x y : Dt} (h : xs[i]? = some x) (g : ys[i]? = some y) : (zipD xs ys)[i]? = some (.tuple [x, y]) := by
  unfold zipD
  rw [List.getElem?_map, show (xs.zip ys)[i]? = some (x, y) from List.getElem?_zip_eq_some.mpr ⟨h, g⟩] <;> rfl
theorem its_zipLL {K : PySem.W.Frag} {a b : Addr} {vs us : List V} {ds es : List Dt} {G : Hp} (h : G a = some (.lst vs)) (r : Dns G vs ds) (g : G b = some (.lst us)) (q : Dns G us es) : Its (Itz K a b) (zipD ds es) G where
  goes := fun i H hi s => by
    rw [zipD_len, ← r.len, ← q.len] at hi
    exact ⟨vs, us, vs[i]'(by omega), us[i]'(by omega), SqL.of (s _ _ h), SqL.of (s _ _ g), List.getElem?_eq_getElem _, List.getElem?_eq_getElem _⟩
  stops := fun H s => ⟨vs, us, SqL.of (s _ _ h), SqL.of (s _ _ g), by rw [zipD_len, ← r.len, ← q.len]; omega⟩
  yields := fun i H x H' hi s ⟨T, y, z, ex, hT, eH, hy, hz⟩ => by
    obtain ⟨d, e1, dn⟩ := r.get' (hy vs (SqL.of (s _ _ h)))
    obtain ⟨d2, e2, dn2⟩ := q.get' (hz us (SqL.of (s _ _ g)))
    refine ⟨_, zipD_get e1 e2, fun G1 s1 s2 => ?_⟩
    subst eH ex
    have gT : G1 T = none := free_of s2 hT
    have sn := s1.trans (same_new gT (.tup [y, z]))
    exact ⟨upd G1 T (.tup [y, z]), Post.new s2 hT _, .tup upd_same (.cons (dn.gr sn) (.one (dn2.gr sn)))⟩
theorem its_zipLT {K : PySem.W.Frag} {a b : Addr} {vs us : List V} {ds es : List Dt} {G : Hp} (h : G a = some (.lst vs)) (r : Dns G vs ds) (g : G b = some (.tup us)) (q : Dns G us es) : Its (ItzM K a b) (zipD ds es) G where
  goes := fun i H hi s => by
    rw [zipD_len, ← r.len, ← q.len] at hi
    exact ⟨vs, us, vs[i]'(by omega), us[i]'(by omega), SqL.of (s _ _ h), SqT.of (s _ _ g), List.getElem?_eq_getElem _, List.getElem?_eq_getElem _⟩
  stops := fun H s => ⟨vs, us, SqL.of (s _ _ h), SqT.of (s _ _ g), by rw [zipD_len, ← r.len, ← q.len]; omega⟩
  yields := fun i H x H' hi s ⟨T, y, z, ex, hT, eH, hy, hz⟩ => by
    obtain ⟨d, e1, dn⟩ := r.get' (hy vs (SqL.of (s _ _ h)))
    obtain ⟨d2, e2, dn2⟩ := q.get' (hz us (SqT.of (s _ _ g)))
    refine ⟨_, zipD_get e1 e2, fun G1 s1 s2 => ?_⟩
    subst eH ex
    have gT : G1 T = none := free_of s2 hT
    have sn := s1.trans (same_new gT (.tup [y, z]))
    exact ⟨upd G1 T (.tup [y, z]), Post.new s2 hT _, .tup upd_same (.cons (dn.gr sn) (.one (dn2.gr sn)))⟩
def wiZipLL (we we2 : WE) : WI := fun ρ Φ => we ρ fun d ρ1 => we2 ρ1 fun d2 ρ2 => ∃ ds es, d = .list ds ∧ d2 = .list es ∧ Φ (zipD ds es) ρ2
def wiZipLT (we we2 : WE) : WI := fun ρ Φ => we ρ fun d ρ1 => we2 ρ1 fun d2 ρ2 => ∃ ds es, d = .list ds ∧ d2 = .tuple es ∧ Φ (zipD ds es) ρ2
theorem di_zipLL {elts : List Expr} {kk : Nat} {tpos : Pos} (hm : X.mg "zip" = none) (h : DE X e te we) (g : DE X e2 te2 we2) (hg : Gl X "zip" := by rfl) (hs : starEach [e, e2] X.env = (false, eval e X.env) :: starEach [e2] X.env := by rfl) (hs2 : starEach [e2] X.env = (false, eval e2 X.env) :: starEach [] X.env := by rfl)
    (hpl : (backTo pos (starEach [e2] X.env)).any (·.1) = false := by rfl) :
    DI X (.Tuple elts kk tpos) (.Call (.Name "zip" p) [e, e2] [] pos) (iZip X.K (tCons te (tCons te2 tNil))) (wiZipLL we we2) := by
  refine ⟨pi_zip hg hm (pa_cons h.pe (pa_cons g.pe pa_nil hs2) hs) hs hpl, fun B G H σ ρ xs Φ R Rp q k => ?_⟩
  refine h.rd B G H σ ρ xs _ (fun v H1 => te2 σ H1 fun u H2 => ∃ a b xs ys, [v, u] = [V.ref a, V.ref b] ∧ SqL X.K H2 a xs ∧ SqL X.K H2 b ys ∧ R (Itz X.K a b) H2) Rp q fun v d G1 H1 ρ1 s1 R1 d1 h1 => ?_
  refine g.rd B G1 H1 σ ρ1 xs _ _ R1 h1 fun u d2 G2 H2 ρ2 s2 R2 dn2 ⟨ds, es, e1, e2, h2⟩ => ?_
  subst e1 e2
  have d1' := d1.gr s2
  cases d1' with
  | lst q dn =>
    cases dn2 with
    | lst q2 dn2 => exact ⟨_, _, _, _, rfl, SqL.of (R2.sub _ _ q), SqL.of (R2.sub _ _ q2), k _ _ G2 H2 ρ2 (s1.trans s2) R2 h2 (its_zipLL q dn q2 dn2)⟩
theorem di_zipLT {elts : List Expr} {kk : Nat} {tpos : Pos} (hm : X.mg "zip" = none) (h : DE X e te we) (g : DE X e2 te2 we2) (hg : Gl X "zip" := by rfl) (hs : starEach [e, e2] X.env = (false, eval e X.env) :: starEach [e2] X.env := by rfl) (hs2 : starEach [e2] X.env = (false, eval e2 X.env) :: starEach [] X.env := by rfl)
    (hpl : (backTo pos (starEach [e2] X.env)).any (·.1) = false := by rfl) :
    DI X (.Tuple elts kk tpos) (.Call (.Name "zip" p) [e, e2] [] pos) (iZipM X.K (tCons te (tCons te2 tNil))) (wiZipLT we we2) := by
  refine ⟨pi_zipM hg hm (pa_cons h.pe (pa_cons g.pe pa_nil hs2) hs) hs hpl, fun B G H σ ρ xs Φ R Rp q k => ?_⟩
  refine h.rd B G H σ ρ xs _ (fun v H1 => te2 σ H1 fun u H2 => ∃ a b xs ys, [v, u] = [V.ref a, V.ref b] ∧ SqL X.K H2 a xs ∧ SqT X.K H2 b ys ∧ R (ItzM X.K a b) H2) Rp q fun v d G1 H1 ρ1 s1 R1 d1 h1 => ?_
  refine g.rd B G1 H1 σ ρ1 xs _ _ R1 h1 fun u d2 G2 H2 ρ2 s2 R2 dn2 ⟨ds, es, e1, e2, h2⟩ => ?_
  subst e1 e2
  have d1' := d1.gr s2
  cases d1' with
  | lst q dn =>
    cases dn2 with
    | tup q2 dn2 => exact ⟨_, _, _, _, rfl, SqL.of (R2.sub _ _ q), SqT.of (R2.sub _ _ q2), k _ _ G2 H2 ρ2 (s1.trans s2) R2 h2 (its_zipLT q dn q2 dn2)⟩
/-! ### x[i] = e, x the frame's own list -/
def wSetIx (i : Nat) (we wi : WE) : WS := fun D ρ => we ρ fun d ρ1 => (∃ ds, ρ1[i]? = some (.ow ds)) ∧ wi ρ1 fun k ρ2 => ∃ ds j n, ρ2[i]? = some (.ow ds) ∧ k = .int j ∧ ixN ds.length j = some n ∧ D.nx (ρ2.set i (.ow (ds.set n d)))
theorem Dns.set {G : Hp} {d : Dt} {v : V} (hv : Dn G v d) : ∀ {vs : List V} {ds : List Dt} (n : Nat), Dns G vs ds → Dns G (vs.set n v) (ds.set n d)
  | _, _, _, .nil => .nil
  | _, _, 0, .cons _ t => .cons hv t
  | _, _, n + 1, .cons h t => .cons h (Dns.set hv n t)
theorem ds_setIx {i : Nat} {x : Str} {idx : Expr} {ti : TE} {wi : WE} {px ps pa : Pos} (h : DE X e te we) (g : DE X idx ti wi) (hN : X.N[i]? = some x := by rfl) (hv : Vis X.env.scope x := by first | exact Or.inl rfl | exact Or.inr (Or.inl rfl) | exact Or.inr (Or.inr rfl))
    (hd : (x == ("__debug__" : Str)) = false := by decide) (hcd : (x == ("__classdict__" : Str)) = false := by decide)
    (ha : ∀ v, assign (.Subscript (.Name x px) idx ps) X.env v = (do
      let ov ← holding [v] (eval (.Name x px) X.env)
      let iv ← holding [v, ov] (eval idx X.env)
      standAt ps
      holding [v, ov, iv] (setItem ov iv v)
      release [v, ov, iv] []) := by intro _; rfl)
    (hs : swapsWithSole [.Subscript (.Name x px) idx ps] e pa.line X.env = pure false := by rfl) (hw : swappedStores [.Subscript (.Name x px) idx ps] e X.env = pure none := by rfl)
    (h1 : (assignEach [.Subscript (.Name x px) idx ps] X.env).map (·.2) = [assign (.Subscript (.Name x px) idx ps) X.env] := by rfl) :
    DS X (.Assign [.Subscript (.Name x px) idx ps] e pa) (tAsg te (gSub (tVar i) ti rSetL)) (wSetIx i we wi) := by
  refine ⟨ps_asg h.pe (pg_sub (pe_var hN hv hd hcd) g.pe set_list ha) hs hw h1, fun B G H σ ρ D E R q k1 _ => ?_⟩
  refine h.rd B G H σ ρ [] _ _ R q fun v d G1 H1 ρ1 s1 R1 d1 ⟨⟨ds0, e0⟩, q1⟩ => ?_
  obtain ⟨l, vs0, hl, _, _⟩ := R1.owAt e0
  refine ⟨.ref l, hl, ?_⟩
  refine g.rd B G1 H1 σ ρ1 [] _ _ R1 q1 fun u k G2 H2 ρ2 s2 R2 d2 ⟨ds, j, n, e1, ek, hn, h2⟩ => ?_
  subst ek
  cases d2
  obtain ⟨l1, vs1, hl1, hu1, r1⟩ := R2.owAt e1
  rw [hl] at hl1
  cases hl1
  exact ⟨l, vs1, j, n, rfl, rfl, hu1, by rw [r1.len]; exact hn, k1 G2 _ σ _ (s1.trans s2) (R2.writeL e1 hl ((d1.gr s2 |> Dns.set) n r1)) h2⟩
/-! ### text in text -/
def inS (x y : Str) : Bool := !(Builtin.Str.occurrences y x 0 y.length 1).isEmpty
def fInS : F2 := fun a b Φ => ∃ x y, a = .str x ∧ b = .str y ∧ Φ (.bool (inS x y))
theorem rd_inS : R2D (fun x y H Q => ∃ i j, x = .str i ∧ y = .str j ∧ Q (.bl (!(Builtin.Str.occurrences j i 0 j.length 1).isEmpty)) H) fInS := fun G H x y a b Φ Q s dx dy ⟨i, j, e1, e2, h⟩ k => by
  subst e1 e2
  cases dx
  cases dy
  exact ⟨i, j, rfl, rfl, k _ _ G H (.refl s) (.bl _) h⟩
end
end MP
-- DL7
/-! DATA LAYER 7: sorted lists, dicts keyed by texts, dicts keyed by rows. -/
namespace MP
open PySem PySem.Spec PyProof.Rows L2 LamX
/-! ### sorted(xs) of data -/
def leD : Dt → Dt → Bool := PySem.W.dataLe false (fun d : Dt => d)
def sortD (ds : List Dt) : List Dt := ds.mergeSort leD
theorem sortD_perm (ds : List Dt) : (sortD ds).Perm ds := List.mergeSort_perm _ _
def vls (ps : List (V × Dt)) : List V := ps.map (·.1)
def dls (ps : List (V × Dt)) : List Dt := ps.map (·.2)
theorem dns_pairs {G : Hp} : ∀ {vs : List V} {ds : List Dt}, Dns G vs ds → ∃ ps : List (V × Dt), vs = vls ps ∧ ds = dls ps ∧ ∀ p ∈ ps, Dn G p.1 p.2
  | _, _, .nil => ⟨[], rfl, rfl, fun p h => by cases h⟩
  | _, _, .cons (v := v) (d := d) h t => by
    obtain ⟨ps, e1, e2, e3⟩ := dns_pairs t
    refine ⟨(v, d) :: ps, by rw [e1]; rfl, by rw [e2]; rfl, fun p hp => ?_⟩
    rcases List.mem_cons.mp hp with e | hp
    · rw [e]; exact h
    · exact e3 p hp
theorem pairs_dns {G : Hp} : ∀ {ps : List (V × Dt)}, (∀ p ∈ ps, Dn G p.1 p.2) → Dns G (vls ps) (dls ps)
  | [], _ => .nil
  | p :: ps, h => .cons (h p List.mem_cons_self) (pairs_dns fun q hq => h q (List.mem_cons_of_mem _ hq))
theorem sort_pairs (ps : List (V × Dt)) : dls (ps.mergeSort (PySem.W.dataLe false (·.2))) = sortD (dls ps) :=
  List.map_mergeSort (r := PySem.W.dataLe false (fun p : V × Dt => p.2)) (s := leD) (f := (·.2)) (l := ps) fun a _ b _ => rfl
theorem each_vals {h : Heap} {ps : List (V × Dt)} {us : List Value} (r : PySem.W.EachIs (fun u (p : V × Dt) => RelV p.1 u) us ps) : Vals (vls ps) us := by
  induction r with
  | nil => exact .nil
  | cons h t ih => exact .cons h ih
theorem vals_each : ∀ {ps : List (V × Dt)} {us : List Value}, Vals (vls ps) us → PySem.W.EachIs (fun u (p : V × Dt) => RelV p.1 u) us ps
  | [], _, .nil => .nil
  | p :: ps, _, .cons h t => .cons h (vals_each t)
/-- data that sorted can order -/
def SortOk (ds : List Dt) : Prop := PySem.W.AllAlike ds ∧ PySem.W.Sortable ds ∧ ∀ d ∈ ds, d.depth ≤ 20
section
variable {X : Cx}
theorem each_reads {pins : List (Addr × Obj)} {σ : L2.St} {H G : Hp} {s : Shared} (I : Inv X pins σ H s) (sg : Same G H) : ∀ {ps : List (V × Dt)} {us : List Value}, (∀ p ∈ ps, Dn G p.1 p.2) → Vals (vls ps) us →
    PySem.W.EachIs (fun v (b : V × Dt) => ∃ as, Reads s.heap v b.2 as) us ps
  | [], _, _, .nil => .nil
  | p :: ps, _, h, .cons r t => .cons (Dp.reads I _ _ _ ((h p List.mem_cons_self).dp X.K sg) r) (each_reads I sg (fun q hq => h q (List.mem_cons_of_mem _ hq)) t)
/-- sorted(xs), a list or a tuple -/
def rSortDat (K : PySem.W.Frag) : List V → Hp → VK → Prop := fun vs H Q => ∃ (G : Hp) (a : Addr) (ps : List (V × Dt)), vs = [V.ref a] ∧ Same G H ∧ (SqL K H a (vls ps) ∨ SqT K H a (vls ps)) ∧ (∀ p ∈ ps, Dn G p.1 p.2) ∧ SortOk (dls ps) ∧ ps.length ≤ 100000 ∧
  ∀ (p : Addr), H p = none → Q (.ref p) (upd H p (.lst (vls (ps.mergeSort (PySem.W.dataLe false (·.2))))))
theorem cr_sortDat (hc : X.calm = true) (hu : X.A.units + 64 < cLine) : CallR X (.builtin "sorted") (rSortDat X.K) := by
  intro pins s σ H vs us Q I r h
  obtain ⟨G, a, ps, rfl, sg, hq, hd, ⟨al, so, dp⟩, hz, q⟩ := h
  rw [Vals.ref1 r]
  have seq : ∃ (its : List Value) (T : String) (o : Obj) (n : Nat), (T = "list" ∨ T = "tuple") ∧ Vals (vls ps) its ∧ s.heap.get? a = some o ∧ o.cls = .type T ∧ o.data = .seq its.toArray n := by
    rcases hq with hq | hq
    · obtain ⟨its, rv, pl, _⟩ := I.list hq
      obtain ⟨o, ho, hcl, n, hd⟩ := pl.isList
      exact ⟨its, "list", o, n, .inl rfl, rv, ho, hcl, hd⟩
    · obtain ⟨its, rv, pl, _⟩ := I.tuple hq
      obtain ⟨o, ho, hcl, n, hd⟩ := pl
      exact ⟨its, "tuple", o, n, .inr rfl, rv, ho, hcl, hd⟩
  obtain ⟨its, T, o, n, hT, rv, ho, hcl, hdt⟩ := seq
  have hl : its.length = ps.length := by
    have := rv.length
    unfold vls at this
    rw [List.length_map] at this
    exact this.symm
  have bound : its.length ≤ sizeLine := by rw [hl, sizeLine_eq]; omega
  refine Calls.call_function_entry kind_sorted plain_sorted entry_sorted (args_sorted1 _) ?_
  unfold Builtin.«sorted»
  refine wpAny_bind (m := checkCount "sorted" 1 1 _) (wpAny_pure ?_)
  refine wpAny_bind (wpAny_collect_seq a hT ho hcl hdt (fun h' k => ?_) (by simpa using bound))
  refine wpAny_bind (wpAny_newList ?_ (by simpa using bound))
  have hoL : (h'.push (seqObj "list" its.toArray.toList.toArray 0)).get? h'.objs.size = some (seqObj "list" its.toArray.toList.toArray 0) := Heap.get?_push_size _ rfl
  have I2 : Inv X pins σ H { s with heap := h'.push (seqObj "list" its.toArray.toList.toArray 0) } := I.kept (t' := s.toks) fun b o e => Heap.get?_push_of_some _ (k b o e)
  have rv' : Vals (vls ps) its.toArray.toList := by simpa using rv
  have er := each_reads I2 sg hd rv'
  have nin : PySem.W.EachIs (fun v (b : V × Dt) => ∃ as, Reads (h'.push (seqObj "list" its.toArray.toList.toArray 0)) v b.2 as ∧ h'.objs.size ∉ as) its.toArray.toList ps := by
    have I1 : Inv X pins σ H { s with heap := h' } := I.kept (t' := s.toks) k
    have er1 := each_reads I1 sg hd rv'
    refine er1.mono fun v b ⟨as, r1⟩ => ⟨as, ?_, fun z => ?_⟩
    · exact PyProof.Rows.Reads.keeps (fun c o e => Heap.get?_push_of_some _ e) r1
    · obtain ⟨o, ho⟩ := PyProof.On.reads_mem_get r1 _ z
      exact Nat.lt_irrefl _ (Heap.lt_size ho)
  refine wpAny_bind (wpAny_holding (PySem.W.list_sort_data (s := { s with heap := h'.push (seqObj "list" its.toArray.toList.toArray 0) }) (bs := ps) (enc := (·.2)) hoL (vals_each rv') nin
    al so (by rw [← hl]; exact bound) (fun b hb => by
      have := dp b.2 (List.mem_map.mpr ⟨b, hb, rfl⟩)
      show X.A.units + 1 + 1 + b.2.depth < cLine
      omega) fun out hol heq => ?_))
  obtain ⟨c, hc'⟩ := sortedHeap_at (vs := its.toArray.toList) (out := out.toArray) hoL
  have I1 : Inv X pins σ H { s with heap := h' } := I.kept (t' := s.toks) k
  have kk : ∀ b u, h'.get? b = some u → (sortedHeap (h'.push (seqObj "list" its.toArray.toList.toArray 0)) h'.objs.size its.toArray.toList out.toArray).get? b = some u := fun b u q => by
    have hlt := Heap.lt_size q
    rw [sortedHeap_old (Nat.ne_of_lt hlt) (by rw [size_push']; exact Nat.lt_succ_of_lt hlt)]
    exact Heap.get?_push_of_some _ q
  have hn : H h'.objs.size = none := I1.hok.fresh (Nat.le_refl _)
  have ob : ObjOk X.prog X.w (upd H h'.objs.size (.lst (vls (ps.mergeSort (PySem.W.dataLe false (·.2)))))) (sortedHeap (h'.push (seqObj "list" its.toArray.toList.toArray 0)) h'.objs.size its.toArray.toList out.toArray) h'.objs.size (.lst (vls (ps.mergeSort (PySem.W.dataLe false (·.2))))) := by
    refine ⟨?_, out.toArray.toList, c, by simpa using each_vals (h := h') heq, hc'⟩
    unfold vls
    rw [List.length_map, List.length_mergeSort, ← hl]
    exact bound
  exact wpAny_pure ⟨_, rfl, .ref h'.objs.size, _, I1.laid (t' := s.toks) kk (Nat.le_refl _) ob, rfl, q _ hn⟩
end
end MP
-- DL8
/-! DATA LAYER 8: sorted of data; dicts keyed by texts (.od), by rows (.ob), set(..) == set(..). -/
namespace MP
open PySem PySem.Spec PyProof.Rows L2 LamX
section
variable {X : Cx} {e e2 elt tg iter : Expr} {ifs : List Expr} {te te2 : TE} {we we2 : WE} {tt : TT} {wt : WT} {pos p p2 pos2 apos cpos : Pos}
/-! ### sorted -/
def fSort : List Dt → (List Dt → Prop) → Prop := fun as Φ => ∃ d ds, as = [d] ∧ itemsD d = some ds ∧ SortOk ds ∧ ds.length ≤ 100000 ∧ Φ (sortD ds)
theorem rd_sortDat {K : PySem.W.Frag} : RAF (rSortDat K) fSort := fun G H vs as Φ Q s dn ⟨d, ds, e, hi, ok, hz, h⟩ k => by
  subst e
  obtain ⟨v, ev, dv⟩ := dns1 dn
  subst ev
  have key : ∀ {a : Addr} {xs : List V}, v = .ref a → (SqL K H a xs ∨ SqT K H a xs) → Dns G xs ds → rSortDat K [v] H Q := fun {a xs} e1 hq dd => by
    subst e1
    obtain ⟨ps, e2, e3, e4⟩ := dns_pairs dd
    subst e2 e3
    refine ⟨G, a, ps, rfl, s, hq, e4, ok, by simpa [dls] using hz, fun q hq => ?_⟩
    refine k q _ _ G H (.refl s) hq (pairs_dns fun z hz => e4 z ((List.mergeSort_perm _ _).mem_iff.mp hz)) ?_
    rw [sort_pairs]
    exact h
  cases d with
  | list xs =>
    cases hi
    cases dv with
    | lst q dd => exact key rfl (.inl (SqL.of (s _ _ q))) dd
  | tuple xs =>
    cases hi
    cases dv with
    | tup q dd => exact key rfl (.inr (SqT.of (s _ _ q))) dd
  | _ => cases hi
theorem fe_sorted (hc : X.calm = true) (hu : X.A.units + 64 < cLine) (hm : X.mg "sorted" = none) (h : DE X e te we) (hg : Gl X "sorted" := by rfl) (he : starEach [e] X.env = (false, eval e X.env) :: starEach [] X.env := by rfl) :
    FE X (.Call (.Name "sorted" p) [e] [] pos) (tCB (rSortDat X.K) (tCons te tNil)) (wArF fSort (wCons we wNil)) :=
  fe_callB (cr_sortDat hc hu) rd_sortDat hg hm boot_sorted (da_cons h da_nil he) (by decide) (by decide) he (by rfl)
/-! ### dicts keyed by texts -/
def lkD (kvs : List (Str × Dt)) (x : Str) : Option Dt := (kvs.find? fun kv => decide (kv.1 = x)).map (·.2)
def ptD (kvs : List (Str × Dt)) (x : Str) (d : Dt) : List (Str × Dt) := if (kvs.any fun kv => decide (kv.1 = x)) = true then kvs.map (fun kv => if kv.1 = x then (kv.1, d) else kv) else kvs ++ [(x, d)]
def mgD (kvs more : List (Str × Dt)) : List (Str × Dt) := more.foldl (fun acc kv => ptD acc kv.1 kv.2) kvs
theorem kvd_lk {G : Hp} {ps : List (Key × V)} {kvs : List (Str × Dt)} (h : KvD G ps kvs) (x : Str) : (∀ d, lkD kvs x = some d → ∃ v, valV ps (Sum.inr x) = some v ∧ Dn G v d) ∧ (lkD kvs x = none → valV ps (Sum.inr x) = none) := by
  unfold KvD at h
  induction h with
  | nil => exact ⟨(fun d h => by cases h), fun _ => rfl⟩
  | @cons p q ps qs h t ih =>
    obtain ⟨h1, h2⟩ := h
    by_cases e : q.1 = x
    · have e2 : p.1 = Sum.inr x := by rw [h1, e]
      refine ⟨fun d hd => ⟨p.2, by rw [valV_pos e2], ?_⟩, fun hd => ?_⟩
      · unfold lkD at hd
        rw [List.find?_cons_of_pos (by simpa using e)] at hd
        have : q.2 = d := Option.some.inj hd
        rw [← this]
        exact h2
      · unfold lkD at hd
        rw [List.find?_cons_of_pos (by simpa using e)] at hd
        cases hd
    · have e2 : ¬ p.1 = Sum.inr x := fun z => e (by rw [h1] at z; exact Sum.inr.inj z)
      have e3 : lkD (q :: qs) x = lkD qs x := by
        unfold lkD
        rw [List.find?_cons_of_neg (by simpa using e)]
      rw [valV_neg e2, e3]
      exact ih
theorem kvd_any {G : Hp} {ps : List (Key × V)} {kvs : List (Str × Dt)} (h : KvD G ps kvs) (x : Str) : (ps.any fun kv => decide (kv.1 = Sum.inr x)) = kvs.any fun kv => decide (kv.1 = x) := by
  unfold KvD at h
  induction h with
  | nil => rfl
  | @cons p q ps qs h t ih =>
    rw [List.any_cons, List.any_cons, ih, h.1]
    congr 1
    exact decide_eq_decide.mpr ⟨fun z => Sum.inr.inj z, fun z => by rw [z]⟩
theorem kvd_map {G : Hp} {x : Str} {v : V} {d : Dt} (hv : Dn G v d) : ∀ {ps : List (Key × V)} {kvs : List (Str × Dt)}, Paired (fun p q => p.1 = Sum.inr q.1 ∧ Dn G p.2 q.2) ps kvs →
    Paired (fun (p : Key × V) (q : Str × Dt) => p.1 = Sum.inr q.1 ∧ Dn G p.2 q.2) (ps.map (fun kv => if kv.1 = Sum.inr x then (kv.1, v) else kv)) (kvs.map (fun kv => if kv.1 = x then (kv.1, d) else kv)) := by
  intro ps kvs h
  induction h with
  | nil => exact .nil
  | @cons p q ps qs h t ih =>
    rw [List.map_cons, List.map_cons]
    refine .cons ?_ ih
    by_cases e : q.1 = x
    · rw [if_pos e, if_pos (by rw [h.1, e])]
      exact ⟨h.1, hv⟩
    · rw [if_neg e, if_neg (fun z => e (by rw [h.1] at z; exact Sum.inr.inj z))]
      exact h
theorem kvd_app {G : Hp} {x : Str} {v : V} {d : Dt} (hv : Dn G v d) : ∀ {ps : List (Key × V)} {kvs : List (Str × Dt)}, Paired (fun p q => p.1 = Sum.inr q.1 ∧ Dn G p.2 q.2) ps kvs →
    Paired (fun (p : Key × V) (q : Str × Dt) => p.1 = Sum.inr q.1 ∧ Dn G p.2 q.2) (ps ++ [(Sum.inr x, v)]) (kvs ++ [(x, d)]) := by
  intro ps kvs h
  induction h with
  | nil => exact .cons ⟨rfl, hv⟩ .nil
  | cons h t ih => exact .cons h ih
theorem kvd_put {G : Hp} {ps : List (Key × V)} {kvs : List (Str × Dt)} (h : KvD G ps kvs) (x : Str) {v : V} {d : Dt} (hv : Dn G v d) : KvD G (putK ps (Sum.inr x) v) (ptD kvs x d) := by
  unfold putK ptD
  rw [kvd_any h x]
  split
  · exact kvd_map hv h
  · exact kvd_app hv h
theorem kvd_merge {G : Hp} {qs : List (Key × V)} {more : List (Str × Dt)} (h : KvD G qs more) : ∀ {ps : List (Key × V)} {kvs : List (Str × Dt)}, KvD G ps kvs → KvD G (mergeK ps qs) (mgD kvs more) := by
  unfold KvD at h
  induction h with
  | nil => exact fun h => h
  | @cons q m qs ms h t ih =>
    intro ps kvs g
    have g2 := kvd_put g m.1 h.2
    rw [← h.1] at g2
    exact ih g2
theorem ptD_len (kvs : List (Str × Dt)) (x : Str) (d : Dt) : (ptD kvs x d).length ≤ kvs.length + 1 := by
  unfold ptD
  split
  · rw [List.length_map]; exact Nat.le_succ _
  · rw [List.length_append, List.length_singleton]; exact Nat.le_refl _
theorem KvD.len {G : Hp} {ps : List (Key × V)} {kvs : List (Str × Dt)} (h : KvD G ps kvs) : ps.length = kvs.length := Paired.length h
theorem paired_sq {K : PySem.W.Frag} {G H : Hp} (sg : Same G H) {as : List Addr} {ps : List (Key × V)} (h : Paired (fun a (kv : Key × V) => G a = some (.tup [kV kv.1, kv.2])) as ps) : Paired (fun p kv => SqT K H p [kV kv.1, kv.2]) as ps := by
  induction h with
  | nil => exact .nil
  | cons h t ih => exact .cons (SqT.of (sg _ _ h)) ih
theorem dns_rks {G : Hp} : ∀ {L : List RK}, (∀ p ∈ L, KeyAt G p) → Dns G (L.map fun p => V.ref p.1) ((L.map (·.2)).map NestedKey.data)
  | [], _ => .nil
  | q :: L, h => .cons (h q List.mem_cons_self).1 (dns_rks fun p hp => h p (List.mem_cons_of_mem _ hp))
theorem kvd_keys {G : Hp} {ps : List (Key × V)} {kvs : List (Str × Dt)} (h : KvD G ps kvs) : ps.map (·.1) = (kvs.map (·.1)).map Sum.inr := by
  unfold KvD at h
  induction h with
  | nil => rfl
  | cons h t ih => rw [List.map_cons, List.map_cons, List.map_cons, ih, h.1]
/-- d.get(e) -/
def wOdGet (i : Nat) (we : WE) : WE := fun ρ Φ => (∃ kvs, ρ[i]? = some (.od kvs)) ∧ we ρ fun d ρ1 => ∃ kvs x, ρ1[i]? = some (.od kvs) ∧ d = .str x ∧ Φ ((lkD kvs x).getD .none) ρ1
theorem de_odGet {i : Nat} {x : Str} {px : Pos} (hu : X.A.units + 64 < cLine) (h : DE X e te we) (hN : X.N[i]? = some x := by rfl) (hv : Vis X.env.scope x := by first | exact Or.inl rfl | exact Or.inr (Or.inl rfl) | exact Or.inr (Or.inr rfl))
    (hd : (x == ("__debug__" : Str)) = false := by decide) (hcd : (x == ("__classdict__" : Str)) = false := by decide)
    (m : M1 X (.Name x px) "get" apos e cpos := by exact ⟨rfl, rfl, rfl, rfl⟩) : DE X (.Call (.Attribute (.Name x px) "get" apos) [e] [] cpos) (tDGet1 (tVar i) te) (wOdGet i we) := by
  refine ⟨pe_dget1 (by omega) (pe_var hN hv hd hcd) h.pe m, fun B G H σ ρ xs Φ Q R ⟨⟨kvs0, e0⟩, q⟩ k => ?_⟩
  obtain ⟨l, ps0, hl, hu0, _⟩ := R.odAt e0
  refine ⟨.ref l, hl, l, rfl, .inl ⟨ps0, .inl hu0⟩, ?_⟩
  refine h.rd B G H σ ρ xs _ _ R q fun v d G1 H1 ρ1 s1 R1 d1 ⟨kvs, y, e1, ed, h1⟩ => ?_
  subst ed
  cases d1
  obtain ⟨l1, ps, hl1, hu1, kv⟩ := R1.odAt e1
  rw [hl] at hl1
  cases hl1
  refine ⟨valV ps (Sum.inr y), DGet.k (k := Sum.inr y) hu1, ?_⟩
  obtain ⟨k1, k2⟩ := kvd_lk kv y
  cases hk : lkD kvs y with
  | none =>
    rw [hk] at h1
    rw [k2 hk]
    exact k _ _ G1 H1 ρ1 s1 R1 .non h1
  | some d =>
    rw [hk] at h1
    obtain ⟨v, ev, dv⟩ := k1 d hk
    rw [ev]
    exact k _ _ G1 H1 ρ1 s1 R1 dv h1
/-- d[e] -/
def wOdIx (i : Nat) (we : WE) : WE := fun ρ Φ => (∃ kvs, ρ[i]? = some (.od kvs)) ∧ we ρ fun d ρ1 => ∃ kvs x d', ρ1[i]? = some (.od kvs) ∧ d = .str x ∧ lkD kvs x = some d' ∧ Φ d' ρ1
theorem de_odIx {i : Nat} {x : Str} {px : Pos} (hu : X.A.units + 64 < cLine) (h : DE X e te we) (hN : X.N[i]? = some x := by rfl) (hv : Vis X.env.scope x := by first | exact Or.inl rfl | exact Or.inr (Or.inl rfl) | exact Or.inr (Or.inr rfl))
    (hd : (x == ("__debug__" : Str)) = false := by decide) (hcd : (x == ("__classdict__" : Str)) = false := by decide) (hs : NoSl e := by exact fun _ _ => rfl) : DE X (.Subscript (.Name x px) e pos) (tDGet (tVar i) te) (wOdIx i we) := by
  refine ⟨pe_dget (by omega) (pe_var hN hv hd hcd) h.pe hs, fun B G H σ ρ xs Φ Q R ⟨⟨kvs0, e0⟩, q⟩ k => ?_⟩
  obtain ⟨l, ps0, hl, hu0, _⟩ := R.odAt e0
  refine ⟨.ref l, hl, ?_⟩
  refine h.rd B G H σ ρ xs _ _ R q fun v d G1 H1 ρ1 s1 R1 d1 ⟨kvs, y, d', e1, ed, hk, h1⟩ => ?_
  subst ed
  cases d1
  obtain ⟨l1, ps, hl1, hu1, kv⟩ := R1.odAt e1
  rw [hl] at hl1
  cases hl1
  obtain ⟨v, ev, dv⟩ := (kvd_lk kv y).1 d' hk
  exact ⟨l, v, rfl, by rw [← ev]; exact DGet.k (k := Sum.inr y) hu1, k _ _ G1 H1 ρ1 s1 R1 dv h1⟩
/-- e in d -/
def wOdIn (i : Nat) (we : WE) : WE := fun ρ Φ => we ρ fun d ρ1 => ∃ kvs x, ρ1[i]? = some (.od kvs) ∧ d = .str x ∧ Φ (.bool (lkD kvs x).isSome) ρ1
theorem rd_odIn {i : Nat} (h : RdE te we) : RdE (tDIn te (tVar i)) (wOdIn i we) := fun B G H σ ρ xs Φ Q R q k => by
  refine h B G H σ ρ xs _ _ R q fun v d G1 H1 ρ1 s1 R1 d1 ⟨kvs, y, e1, ed, h1⟩ => ?_
  subst ed
  cases d1
  obtain ⟨l1, ps, hl1, hu1, kv⟩ := R1.odAt e1
  refine ⟨.ref l1, hl1, l1, valV ps (Sum.inr y), rfl, DGet.k (k := Sum.inr y) hu1, ?_⟩
  have e2 : (valV ps (Sum.inr y)).isSome = (lkD kvs y).isSome := by
    obtain ⟨k1, k2⟩ := kvd_lk kv y
    cases hk : lkD kvs y with
    | none => rw [k2 hk] <;> rfl
    | some d =>
      obtain ⟨v, ev, dv⟩ := k1 d hk
      rw [ev] <;> rfl
  rw [e2]
  exact k _ _ G1 H1 ρ1 s1 R1 (.bl _) h1
theorem de_odIn {i : Nat} {x : Str} {px : Pos} (hu : X.A.units + 64 < cLine) (h : DE X e te we) (hN : X.N[i]? = some x := by rfl) (hv : Vis X.env.scope x := by first | exact Or.inl rfl | exact Or.inr (Or.inl rfl) | exact Or.inr (Or.inr rfl))
    (hd : (x == ("__debug__" : Str)) = false := by decide) (hcd : (x == ("__classdict__" : Str)) = false := by decide) : DE X (.Compare e [.In] [.Name x px] pos) (tDIn te (tVar i)) (wOdIn i we) :=
  ⟨pe_cmp (pc_din (by omega) h.pe (pe_var hN hv hd hcd)), rd_odIn h.rd⟩
/-- as a test -/
theorem dt_of {e : Expr} {te : TE} {we : WE} (h : DE X e te we) (ht : PT X e (tTest te)) : DT X e (tTest te) (wTest we) := ⟨ht, rd_test h.rd⟩
/-- d[e] = e2 -/
def wOdSet (i : Nat) (wi we : WE) : WS := fun D ρ => we ρ fun d ρ1 => (∃ kvs, ρ1[i]? = some (.od kvs)) ∧ wi ρ1 fun k ρ2 => ∃ kvs x, ρ2[i]? = some (.od kvs) ∧ k = .str x ∧ kvs.length < 10000 ∧ D.nx (ρ2.set i (.od (ptD kvs x d)))
theorem ds_odSet {i : Nat} {x : Str} {px ps : Pos} (hu : X.A.units + 64 < cLine) (hi : DE X e te we) (hw : DE X e2 te2 we2) (hN : X.N[i]? = some x := by rfl) (hv : Vis X.env.scope x := by first | exact Or.inl rfl | exact Or.inr (Or.inl rfl) | exact Or.inr (Or.inr rfl))
    (hd : (x == ("__debug__" : Str)) = false := by decide) (hcd : (x == ("__classdict__" : Str)) = false := by decide) (hs : swapsWith e2 (some (.Subscript (.Name x px) e ps)) pos.line X.env = pure false := by rfl) :
    DS X (.Assign [.Subscript (.Name x px) e ps] e2 pos) (sDPut (tVar i) te te2) (wOdSet i we we2) := by
  refine ⟨ps_dput (by omega) (pe_var hN hv hd hcd) hi.pe hw.pe hs, fun B G H σ ρ D E R q k1 _ => ?_⟩
  refine hw.rd B G H σ ρ [] _ _ R q fun v d G1 H1 ρ1 s1 R1 d1 ⟨⟨kvs0, e0⟩, q1⟩ => ?_
  obtain ⟨l, ps0, hl, hu0, _⟩ := R1.odAt e0
  refine ⟨.ref l, hl, ?_⟩
  refine hi.rd B G1 H1 σ ρ1 [] _ _ R1 q1 fun u k G2 H2 ρ2 s2 R2 d2 ⟨kvs, y, e1, ek, hz, h2⟩ => ?_
  subst ek
  cases d2
  obtain ⟨l1, ps, hl1, hu1, kv⟩ := R2.odAt e1
  rw [hl] at hl1
  cases hl1
  have hz' : ps.length < sizeLine := by
    rw [kv.len, sizeLine_eq]
    omega
  exact ⟨l, _, rfl, .inl ⟨ps, Sum.inr y, hu1, rfl, hz', rfl⟩, k1 G2 _ σ _ (s1.trans s2) (R2.writeD e1 hl (kvd_put kv y (d1.gr s2))) h2⟩
/-- d = dict(zip(names, row)) -/
def wSetDZ (i : Nat) (wa wb : WE) : WS := fun D ρ => wa ρ fun x ρ1 => wb ρ1 fun y ρ2 => ∃ (zs : List Str) (ds : List Dt), x = .list (stsD zs) ∧ y = .tuple ds ∧ zs.length = ds.length ∧ zs.length ≤ 1000 ∧ D.nx (ρ2.set i (.od (mgD [] (zs.zip ds))))
theorem kvd_zip {G : Hp} : ∀ {zs : List Str} {ys : List V} {ds : List Dt}, Dns G ys ds → KvD G ((zs.map Sum.inr).zip ys) (zs.zip ds)
  | [], _, _, _ => .nil
  | z :: zs, _, _, .nil => .nil
  | z :: zs, _, _, .cons h t => .cons ⟨rfl, h⟩ (kvd_zip t)
theorem ds_setDZ {i : Nat} {x : Str} {px q : Pos} (hc : X.calm = true) (hN : X.N.Nodup) (hm : X.mg "dict" = none) (hm2 : X.mg "zip" = none) (ha : DE X e te we) (hb : DE X e2 te2 we2) (hi : X.N[i]? = some x := by rfl) (hx : Loc X.env.scope x := by first | exact Or.inl rfl | exact Or.inr rfl)
    (hg : Gl X "dict" := by rfl) (hg2 : Gl X "zip" := by rfl)
    (hs1 : starEach [e, e2] X.env = (false, eval e X.env) :: starEach [e2] X.env := by rfl) (hs2 : starEach [e2] X.env = (false, eval e2 X.env) :: starEach [] X.env := by rfl) (hpl : (backTo q (starEach [e2] X.env)).any (·.1) = false := by rfl)
    (hs3 : starEach [.Call (.Name "zip" p2) [e, e2] [] q] X.env = (false, eval (.Call (.Name "zip" p2) [e, e2] [] q) X.env) :: starEach [] X.env := by rfl)
    (hs : swapsWith (.Call (.Name "dict" p) [.Call (.Name "zip" p2) [e, e2] [] q] [] pos2) (some (.Name x px)) pos.line X.env = pure false := by rfl) (hf : X.fn x = true ∨ X.env.scope.names.lookup x = some .local := by first | exact .inl rfl | exact .inr rfl | assumption) :
    DS X (.Assign [.Name x px] (.Call (.Name "dict" p) [.Call (.Name "zip" p2) [e, e2] [] q] [] pos2) pos) (tAsg (tDictZip X.K (tCons te (tCons te2 tNil))) (gName i)) (wSetDZ i we we2) := by
  refine ⟨ps_set hN hi hx (pe_dictZip hc hg hm hg2 hm2 (pa_cons ha.pe (pa_cons hb.pe pa_nil hs2) hs1) hs1 hpl hs3) hs hf, fun B G H σ ρ D E R h k1 _ => ?_⟩
  refine ha.rd B G H σ ρ [] _ (fun v H1 => te2 σ H1 fun u H2 => ∃ (a b : Addr) (zs : List Str) (ys : List V), [v, u] = [V.ref a, V.ref b] ∧ SqL X.K H2 a (zs.map V.str) ∧ SqT X.K H2 b ys ∧ zs.length = ys.length ∧ zs.length ≤ 1000 ∧
    ∀ p, H2 p = none → gName i (.ref p) σ (upd H2 p (.dK (mergeK [] ((zs.map Sum.inr).zip ys)))) E.nx) R h fun v d G1 H1 ρ1 s1 R1 d1 h1 => ?_
  refine hb.rd B G1 H1 σ ρ1 [] _ _ R1 h1 fun u d2 G2 H2 ρ2 s2 R2 dn2 ⟨zs, ds, e1, e2, hl, hz, h2⟩ => ?_
  subst e1 e2
  have d1' := d1.gr s2
  cases d1' with
  | lst q1 dd =>
    cases dn2 with
    | tup q2 dd2 =>
      rw [dns_strs dd] at q1
      refine ⟨_, _, zs, _, rfl, SqL.of (R2.sub _ _ q1), SqT.of (R2.sub _ _ q2), by rw [hl, dd2.len], hz, fun p hp => ?_⟩
      exact k1 G2 _ _ _ (s1.trans s2) ((R2.newX hp noT_dK).setD i fun G' s' => kvd_merge ((kvd_zip dd2).gr s') .nil) h2
/-- d = dict([(key, value), ..]) -/
def wSetDP (i : Nat) (we : WE) : WS := fun D ρ => we ρ fun x ρ1 => ∃ (kvs : List (Str × Dt)), x = .list (kvs.map fun p => .tuple [.str p.1, p.2]) ∧ D.nx (ρ1.set i (.od (mgD [] kvs)))
theorem dns_kvs {G : Hp} : ∀ {vs : List V} {kvs : List (Str × Dt)}, Dns G vs (kvs.map fun p => .tuple [.str p.1, p.2]) → ∃ (as : List Addr) (ps : List (Key × V)), vs = as.map V.ref ∧ Paired (fun a kv => G a = some (.tup [kV kv.1, kv.2])) as ps ∧ KvD G ps kvs
  | _, [], h => by
    cases h
    exact ⟨[], [], rfl, .nil, .nil⟩
  | _, kv :: kvs, h => by
    cases h with
    | cons h t =>
      obtain ⟨as, ps, e1, e2, e3⟩ := dns_kvs t
      cases h with
      | tup q dd =>
        cases dd with
        | cons d1 dd =>
          cases dd with
          | cons d2 dd =>
            cases dd
            cases d1
            exact ⟨_ :: as, (Sum.inr kv.1, _) :: ps, by rw [e1]; rfl, .cons q e2, .cons ⟨rfl, d2⟩ e3⟩
theorem ds_setDP {i : Nat} {x : Str} {px : Pos} (hc : X.calm = true) (hN : X.N.Nodup) (hm : X.mg "dict" = none) (ha : DE X e te we) (hi : X.N[i]? = some x := by rfl) (hx : Loc X.env.scope x := by first | exact Or.inl rfl | exact Or.inr rfl)
    (hg : Gl X "dict" := by rfl) (hs1 : starEach [e] X.env = (false, eval e X.env) :: starEach [] X.env := by rfl)
    (hs : swapsWith (.Call (.Name "dict" p) [e] [] pos2) (some (.Name x px)) pos.line X.env = pure false := by rfl) (hf : X.fn x = true ∨ X.env.scope.names.lookup x = some .local := by first | exact .inl rfl | exact .inr rfl | assumption) :
    DS X (.Assign [.Name x px] (.Call (.Name "dict" p) [e] [] pos2) pos) (tAsg (tCB (fun xs H Q => ∃ (a : Addr) (ps : List Addr) (kvs : List (Key × V)), xs = [.ref a] ∧ SqL X.K H a (ps.map V.ref) ∧ Paired (fun p kv => SqT X.K H p [kV kv.1, kv.2]) ps kvs ∧ ∀ p, H p = none → Q (.ref p) (upd H p (.dK (mergeK [] kvs)))) (tCons te tNil)) (gName i)) (wSetDP i we) := by
  refine ⟨ps_set hN hi hx (pe_callTy (call_dictP hc) hg hm boot_dict (pa_cons ha.pe pa_nil hs1) (by decide) (by decide) hs1) hs hf, fun B G H σ ρ D E R h k1 _ => ?_⟩
  refine ha.rd B G H σ ρ [] _ (fun v H1 => ∃ (a : Addr) (ps : List Addr) (kvs : List (Key × V)), [v] = [V.ref a] ∧ SqL X.K H1 a (ps.map V.ref) ∧ Paired (fun p kv => SqT X.K H1 p [kV kv.1, kv.2]) ps kvs ∧ ∀ p, H1 p = none → gName i (.ref p) σ (upd H1 p (.dK (mergeK [] kvs))) E.nx) R h fun v d G1 H1 ρ1 s1 R1 d1 ⟨kvs, e1, h1⟩ => ?_
  subst e1
  cases d1 with
  | lst q dd =>
    obtain ⟨as, ps, e2, e3, e4⟩ := dns_kvs dd
    rw [e2] at q
    refine ⟨_, as, ps, rfl, SqL.of (R1.sub _ _ q), ?_, fun p hp => ?_⟩
    · exact paired_sq R1.sub e3
    · exact k1 G1 _ _ _ s1 ((R1.newX hp noT_dK).setD i fun G' s' => kvd_merge (e4.gr s') .nil) h1
/-- sorted(d) -/
def wOdSort (i : Nat) : WA := fun ρ Φ => ∃ kvs, ρ[i]? = some (.od kvs) ∧ (kvs.map (·.1)).Nodup ∧ kvs.length ≤ 4000 ∧ Φ (stsD (sset (kvs.map (·.1)))) ρ
theorem fe_odSort {i : Nat} {x : Str} {px : Pos} (hc : X.calm = true) (hu : X.A.units + 64 < cLine) (hm : X.mg "sorted" = none) (hN : X.N[i]? = some x := by rfl) (hv : Vis X.env.scope x := by first | exact Or.inl rfl | exact Or.inr (Or.inl rfl) | exact Or.inr (Or.inr rfl))
    (hd : (x == ("__debug__" : Str)) = false := by decide) (hcd : (x == ("__classdict__" : Str)) = false := by decide) (hg : Gl X "sorted" := by rfl)
    (he : starEach [.Name x px] X.env = (false, eval (.Name x px) X.env) :: starEach [] X.env := by rfl) : FE X (.Call (.Name "sorted" p) [.Name x px] [] pos) (tCB rSortD (tCons (tVar i) tNil)) (wOdSort i) := by
  refine ⟨pe_callB (cr_sortD hc hu) hg hm boot_sorted (pa_cons (pe_var hN hv hd hcd) pa_nil he) (by decide) (by decide) he, fun B G H σ ρ xs Φ Q R ⟨kvs, e0, nd, hz, h⟩ k => ?_⟩
  obtain ⟨l, ps, hl, hu0, kv⟩ := R.odAt e0
  refine ⟨.ref l, hl, l, ps, kvs.map (·.1), rfl, hu0, kvd_keys kv, nd, by simpa using hz, fun p hp => ?_⟩
  exact k p _ _ G _ ρ (Same.refl G) (R.newX hp noT_lst) (strs_dns _) h
/-! ### dicts keyed by rows -/
def OwR (P : Program) (w : World) (ks : List NestedKey) : Hp → Addr → HO → Prop := fun G l u => ∃ L : List RK, u = DictRO P w l L ∧ L.map (·.2) = ks ∧ ∀ p ∈ L, KeyAt G p
def addK (ks : List NestedKey) (k : NestedKey) : List NestedKey := if k ∈ ks then ks else ks ++ [k]
/-- d = {} -/
theorem ds_setR {i : Nat} {x : Str} {px : Pos} (hN : X.N.Nodup) (hi : X.N[i]? = some x := by rfl) (hx : Loc X.env.scope x := by first | exact Or.inl rfl | exact Or.inr rfl)
    (hs : swapsWith (.Dict [] [] pos2) (some (.Name x px)) pos.line X.env = pure false := by rfl) (hf : X.fn x = true ∨ X.env.scope.names.lookup x = some .local := by first | exact .inl rfl | exact .inr rfl | assumption) :
    DS X (.Assign [.Name x px] (.Dict [] [] pos2) pos) (tAsg (tDNewR X.prog X.w) (gName i)) (fun D ρ => D.nx (ρ.set i (.ob (OwR X.prog X.w [])))) := by
  refine ⟨ps_set hN hi hx pe_dnewR hs hf, fun B G H σ ρ D E R h k1 _ => ?_⟩
  exact fun p hp => k1 G _ _ _ (Same.refl G) ((R.newX hp noT_dictRO).setR i fun G' _ => ⟨[], rfl, rfl, fun p h => by cases h⟩) h
/-- d[e] = True -/
def wRdSet (P : Program) (w : World) (i : Nat) (we : WE) : WS := fun D ρ => (∃ ks, ρ[i]? = some (.ob (OwR P w ks))) ∧ we ρ fun d ρ1 => ∃ ks k, ρ1[i]? = some (.ob (OwR P w ks)) ∧ d = k.data ∧ RowK k ∧ ks.length < 10000 ∧ D.nx (ρ1.set i (.ob (OwR P w (addK ks k))))
theorem Rep.rdAt {B : Bs} {G H : Hp} {σ : L2.St} {ρ : Ev} {xs : List (Addr × HO)} (R : Rep B G H σ ρ xs) {P : Program} {w : World} {i : Nat} {ks : List NestedKey} (h : ρ[i]? = some (.ob (OwR P w ks))) :
    ∃ l L, σ[i]? = some (some (.ref l)) ∧ H l = some (DictRO P w l L) ∧ L.map (·.2) = ks ∧ ∀ p ∈ L, KeyAt G p := by
  obtain ⟨l, u, e1, e2, r, _⟩ := R.obAt (Ro := OwR P w ks) h fun _ z => z
  obtain ⟨L, rfl, e3, e4⟩ := r
  exact ⟨l, L, e1, e2, e3, e4⟩
def tRdSet (P : Program) (w : World) (i : Nat) (te : TE) : TS := fun D σ H => ∃ d, σ[i]? = some (some (.ref d)) ∧ te σ H fun y H1 => ∃ (x : RK) (L : List RK), y = .ref x.1 ∧ H1 d = some (DictRO P w d L) ∧ (∀ p ∈ L, KeyAt H1 p) ∧ KeyAt H1 x ∧ L.length < sizeLine ∧ D.nx σ (upd H1 d (DictRO P w d (addRK L x)))
theorem ds_rdSet {i : Nat} {x : Str} {px ps : Pos} {jc pc} (hu : X.A.units + 64 < cLine) (hi : DE X e te we) (hN : X.N[i]? = some x := by rfl) (hv : Vis X.env.scope x := by first | exact Or.inl rfl | exact Or.inr (Or.inl rfl) | exact Or.inr (Or.inr rfl))
    (hd : (x == ("__debug__" : Str)) = false := by decide) (hcd : (x == ("__classdict__" : Str)) = false := by decide) (hs : swapsWith (.Constant (.bool true) jc pc) (some (.Subscript (.Name x px) e ps)) pos.line X.env = pure false := by rfl) :
    DS X (.Assign [.Subscript (.Name x px) e ps] (.Constant (.bool true) jc pc) pos) (tRdSet X.prog X.w i te) (wRdSet X.prog X.w i we) := by
  refine ⟨⟨fun pins s σ H D I h => ?_⟩, fun B G H σ ρ D E R ⟨⟨ks0, e0⟩, q⟩ k1 _ => ?_⟩
  · obtain ⟨d, hd0, h⟩ := h
    refine wpAny_Assign_Subscript (thn ((pe_bl (X := X) (b := true) (j := jc) (pos := pc)).run pins s σ H (fun v H' => v = .bl true ∧ H' = H) I ⟨rfl, rfl⟩) fun r s1 ⟨v, H1, I1, rv, ev, eH⟩ => ?_) hs
    subst ev eH
    refine thn ((pe_var hN hv hd hcd).run pins s1 σ H1 (fun x H' => x = .ref d ∧ H' = H1) I1 ⟨.ref d, hd0, rfl, rfl⟩) fun u s2 ⟨x', H2, I2, rx, ex, eH⟩ => ?_
    subst ex eH
    refine thn (hi.pe.run pins s2 σ H2 _ I2 h) fun iv s3 ⟨y, H3, I3, ry, x2, L, ey, hd3, hL, hx2, hl, q3⟩ => ?_
    subst ey
    obtain rfl : u = Value.ref d := rx
    obtain rfl : iv = Value.ref x2.1 := ry
    obtain rfl : r = Value.bool true := rv
    exact set_rowD (by omega) I3 hd3 hL hx2 hl fun s4 I4 => ⟨σ, _, I4, q3⟩
  · obtain ⟨l, L0, hl, hu0, _, _⟩ := R.rdAt e0
    refine ⟨l, hl, ?_⟩
    refine hi.rd B G H σ ρ [] _ _ R q fun v d G1 H1 ρ1 s1 R1 d1 ⟨ks, k, e1, ed, hk, hz, h1⟩ => ?_
    subst ed
    obtain ⟨l1, L, hl1, hu1, ek, hL⟩ := R1.rdAt e1
    rw [hl] at hl1
    cases hl1
    obtain ⟨⟨js, ej⟩, _⟩ := id hk
    have hv : ∃ a, v = .ref a := by
      subst ej
      cases d1 with
      | tup q dd => exact ⟨_, rfl⟩
    obtain ⟨a, rfl⟩ := hv
    have hlen : L.length = ks.length := by rw [← ek, List.length_map]
    refine ⟨(a, k), L, rfl, hu1, fun p hp => (hL p hp).gr R1.sub, ⟨d1.gr R1.sub, hk⟩, by rw [hlen, sizeLine_eq]; omega, ?_⟩
    refine k1 G1 _ σ _ s1 (R1.write (Ro := OwR X.prog X.w ks) e1 (fun _ z => z) hl noT_dictRO fun h0 => ?_) h1
    refine ⟨l, _, rfl, rfl, upd_same, noT_dictRO, h0, fun G' s' => ⟨addRK L (a, k), rfl, ?_, fun p hp => ?_⟩⟩
    · unfold addRK addK
      rw [← ek]
      by_cases c : k ∈ L.map (·.2)
      · rw [if_pos c, if_pos c]
      · rw [if_neg c, if_neg c, List.map_append] <;> rfl
    · unfold addRK at hp
      split at hp
      · exact (hL p hp).gr s'
      · rcases List.mem_append.mp hp with z | z
        · exact (hL p z).gr s'
        · rw [List.mem_singleton.mp z]
          exact ⟨d1.gr s', hk⟩
/-- list(d) -/
def wRdList (P : Program) (w : World) (i : Nat) : WA := fun ρ Φ => ∃ ks, ρ[i]? = some (.ob (OwR P w ks)) ∧ Φ (ks.map NestedKey.data) ρ
theorem fe_rdList {i : Nat} {x : Str} {px : Pos} (hc : X.calm = true) (hm : X.mg "list" = none) (hN : X.N[i]? = some x := by rfl) (hv : Vis X.env.scope x := by first | exact Or.inl rfl | exact Or.inr (Or.inl rfl) | exact Or.inr (Or.inr rfl))
    (hd : (x == ("__debug__" : Str)) = false := by decide) (hcd : (x == ("__classdict__" : Str)) = false := by decide) (hg : Gl X "list" := by rfl)
    (he : starEach [.Name x px] X.env = (false, eval (.Name x px) X.env) :: starEach [] X.env := by rfl) : FE X (.Call (.Name "list" p) [.Name x px] [] pos) (tCB (rListR X.prog X.w) (tCons (tVar i) tNil)) (wRdList X.prog X.w i) := by
  refine ⟨pe_callTy (cr_listR hc) hg hm PyProof.Rows.boot_list (pa_cons (pe_var hN hv hd hcd) pa_nil he) (by decide) (by decide) he, fun B G H σ ρ xs Φ Q R ⟨ks, e0, h⟩ k => ?_⟩
  obtain ⟨l, L, hl, hu0, ek, hL⟩ := R.rdAt e0
  refine ⟨.ref l, hl, l, L, rfl, hu0, fun p hp => ?_⟩
  refine k p _ _ G _ ρ (Same.refl G) (R.newX hp noT_lst) ?_ h
  rw [← ek]
  exact dns_rks hL
/-! ### set(e) == set(e2) -/
theorem de_setEq {q : Pos} (hc : X.calm = true) (hu : X.A.units + 64 < cLine) (hm : X.mg "set" = none) (h : DE X e te we) (g : DE X e2 te2 we2) (hg : Gl X "set" := by rfl)
    (he : starEach [e] X.env = (false, eval e X.env) :: starEach [] X.env := by rfl) (he2 : starEach [e2] X.env = (false, eval e2 X.env) :: starEach [] X.env := by rfl)
    (hmk : behindInMarks .Eq (.Call (.Name "set" p2) [e2] [] pos2) = false := by first | exact nomark _ | rfl) :
    DE X (.Compare (.Call (.Name "set" p) [e] [] q) [.Eq] [.Call (.Name "set" p2) [e2] [] pos2] pos) (tOp (rEqS X.w) (tCB (rSetR X.K X.w) (tCons te tNil)) (tCB (rSetR X.K X.w) (tCons te2 tNil))) (wSetEq we we2) :=
  ⟨pe_cmpR (op_eqS hu) (pe_callTy (cr_setR hc hu) hg hm boot_set (pa_cons h.pe pa_nil he) (by decide) (by decide) he) (pe_callTy (cr_setR hc hu) hg hm boot_set (pa_cons g.pe pa_nil he2) (by decide) (by decide) he2) hmk, rd_setEq h.rd g.rd⟩
end
end MP
-- DL9
/-! DATA LAYER 9: first, *rest = t; functions in names. -/
namespace MP
open PySem PySem.Spec PySem.Calls PyProof.Rows L2 LamX
section
variable {prog : Program} {w : World} {A : Around} {E : Value → Shared → Prop} {s : Shared}
/-- x, *rest of a tuple -/
theorem unpack_star {l : Addr} {items : Array Value} {Q : List Value → Shared → Prop} (hl : IsTup s.heap l items) (hh : A.handled = none) (hn : 1 ≤ items.size) (hz : items.size ≤ 16384)
    (h : ∀ (h' : Heap) (tk : Nat), (∀ b o, s.heap.get? b = some o → h'.get? b = some o) → Q (items.toList.take 1 ++ [.ref h'.objs.size]) { s with heap := h'.push { cls := .type "list", data := .seq (items.toList.drop 1).toArray }, toks := tk }) :
    wpAny (model prog w) A (unpackItems (.ref l) 2 (some 1)) Q E s := by
  have hlt : l ≠ s.heap.objs.size := by obtain ⟨o, ho, _⟩ := hl; exact Nat.ne_of_lt (Heap.lt_size ho)
  unfold unpackItems
  refine wpAny_bind ?_
  unfold notIterableAtAll
  refine wpAny_bind (wpAny_specialOf hl.typeIs slot_tuple_iter.lookup ?_)
  refine wpAny_pure ?_
  simp only [Bool.false_eq_true, if_false]
  refine wpAny_bind (wpAny_holding (iter_tuple hl ?_))
  refine wpAny_bind (wpAny_holding (draw_tuple hlt 1 0 _ _ ⟨_, Heap.get?_push_size _ rfl, rfl, rfl⟩ (hl.push _) (by omega) fun h₁ hit₁ hs₁ => ?_))
  have hl₁ : IsTup h₁ l items := (hl.push _).extBut hs₁.extBut hlt
  rw [Nat.zero_add] at hit₁
  have hit₁' := hit₁
  obtain ⟨oi, hoi, _⟩ := hit₁'
  have hl₁' := hl₁
  obtain ⟨ol, hol, _⟩ := hl₁'
  rw [List.drop_zero]
  have hfl : (items.toList.take 1).length = 1 := by rw [List.length_take, Array.length_toList]; omega
  rw [if_neg (show ¬ ((items.toList.take 1).length < 1) by rw [hfl]; omega)]
  refine wpAny_bind (wpAny_holding (PySem.W.kun_collect (s := { s with heap := h₁ }) (T := "tuple_iterator") (.inr (.inr (.inr rfl))) (Walks.tuple (A := A.in1) hh s.heap.objs.size l hlt items) (fun j u st => st.1.typeIs) (k := 1) (by omega) ⟨hit₁, hl₁⟩ (Heap.lt_size hoi) (Heap.lt_size hol) (fun h₂ tk hk => ?_) (by rw [sizeLine_eq]; omega)))
  have hrl : (items.toList.drop 1).length = items.size - 1 := by rw [List.length_drop, Array.length_toList]
  have hmid : (items.toList.drop 1).length - (2 - 1 - 1) = items.size - 1 := by rw [hrl]; omega
  show wpAny _ _ (if (items.toList.drop 1).length < 2 - 1 - 1 then _ else _) _ _ _
  rw [if_neg (by rw [hrl]; omega)]
  show wpAny _ _ (newList ((items.toList.drop 1).take ((items.toList.drop 1).length - (2 - 1 - 1))) >>= fun d => pure (items.toList.take 1 ++ [d] ++ (items.toList.drop 1).drop ((items.toList.drop 1).length - (2 - 1 - 1)))) _ _ _
  rw [show (items.toList.drop 1).length - (2 - 1 - 1) = (items.toList.drop 1).length by omega, List.take_length, List.drop_length]
  have he : ∀ b o, s.heap.get? b = some o → h₂.get? b = some o := fun b o e => hk b o (Nat.ne_of_lt (Heap.lt_size e)) (hs₁.extBut b o (Nat.ne_of_lt (Heap.lt_size e)) (Heap.get?_push_of_some _ e))
  refine wpAny_bind (wpAny_newList (wpAny_pure ?_) (by rw [hrl, sizeLine_eq]; omega))
  rw [List.append_nil]
  exact h h₂ tk he
end
section
variable {X : Cx} {e : Expr} {te : TE} {we : WE} {pos : Pos}
def gStar (K : PySem.W.Frag) (i j : Nat) : TG := fun v σ H Q => ∃ a x xs, v = .ref a ∧ SqT K H a (x :: xs) ∧ xs.length ≤ 10000 ∧ ∀ D, H D = none → Q ((σ.set i (some x)).set j (some (.ref D))) (upd H D (.lst xs))
theorem pg_star {i j : Nat} {x y : Str} {k : Nat} {px py ps : Pos} (hc : X.calm = true) (hN : X.N.Nodup) (hi : X.N[i]? = some x) (hj : X.N[j]? = some y) (hx : Loc X.env.scope x) (hy : Loc X.env.scope y)
    (hfx : X.fn x = true ∨ X.env.scope.names.lookup x = some .local) (hfy : X.fn y = true ∨ X.env.scope.names.lookup y = some .local)
    (hn : (assignEach [.Name x px, .Starred (.Name y py) ps] X.env).length = 2 := by rfl) (hst : (assignEach [.Name x px, .Starred (.Name y py) ps] X.env).findIdx? (·.1) = some 1 := by rfl)
    (ha : (assignEach [.Name x px, .Starred (.Name y py) ps] X.env).map (·.2) = [assign (.Name x px) X.env, assign (.Name y py) X.env] := by rfl) :
    PG X (.Tuple [.Name x px, .Starred (.Name y py) ps] k pos) (gStar X.K i j) := by
  refine ⟨fun pins s σ H v u Q I r hw => ?_⟩
  obtain ⟨a, z, zs, e1, hq, hz, hw⟩ := hw
  subst e1
  cases r
  obtain ⟨its, rv, ht, _⟩ := I.tuple hq
  rw [arm_assign_Tuple]
  refine wpAny_bind (wpAny_standAt ?_)
  unfold unpack
  rw [hn, hst, ha]
  have hl := rv.length
  rw [List.length_cons] at hl
  refine wpAny_bind (wpAny_holding (unpack_star ht (I.ok.hd hc) (by simp; omega) (by simp; omega) fun h' tk kk => ?_))
  cases rv with
  | cons r0 rv =>
    rename_i u0 us
    have e2 : (u0 :: us).toArray.toList.take 1 ++ [Value.ref h'.objs.size] = [u0, Value.ref h'.objs.size] := by simp
    have e3 : (u0 :: us).toArray.toList.drop 1 = us := by simp
    rw [e2, e3]
    have I1 : Inv X pins σ H { s with heap := h', toks := tk } := I.kept kk
    have hD : H h'.objs.size = none := I1.hok.fresh (Nat.le_refl _)
    have I2 : Inv X pins σ (upd H h'.objs.size (.lst zs)) { s with heap := h'.push { cls := .type "list", data := .seq us.toArray }, toks := tk } := by
      refine I1.laid (t' := tk) (fun b o q => Heap.get?_push_of_some _ q) (Nat.le_refl _) ⟨by rw [sizeLine_eq]; omega, us, 0, rv, Heap.get?_push_size _ rfl⟩
    refine assignInOrder_cons (thn ((pg_name (X := X) (pos := px) hN hi hx hfx).run pins _ σ _ z u0 (fun σ' H' => σ' = σ.set i (some z) ∧ H' = upd H h'.objs.size (.lst zs)) I2 r0 ⟨rfl, rfl⟩) fun _ s2 ⟨σ2, H2, I3, eσ, eH⟩ => ?_)
    subst eσ eH
    refine assignInOrder_cons (thn ((pg_name (X := X) (pos := py) hN hj hy hfy).run pins _ _ _ (.ref h'.objs.size) (.ref h'.objs.size) Q I3 rfl (hw _ hD)) fun _ s3 q => assignInOrder_nil q)
/-- first, *rest = e -/
def wStar (i j : Nat) (we : WE) : WS := fun D ρ => we ρ fun d ρ1 => ∃ x xs, d = .tuple (x :: xs) ∧ xs.length ≤ 10000 ∧ D.nx ((ρ1.set i (.da x)).set j (.da (.list xs)))
theorem ds_star {i j : Nat} {x y : Str} {k : Nat} {px py ps pt : Pos} (h : DE X e te we) (hc : X.calm = true) (hN : X.N.Nodup) (hi : X.N[i]? = some x := by rfl) (hj : X.N[j]? = some y := by rfl) (hx : Loc X.env.scope x := by first | exact Or.inl rfl | exact Or.inr rfl) (hy : Loc X.env.scope y := by first | exact Or.inl rfl | exact Or.inr rfl)
    (hfx : X.fn x = true ∨ X.env.scope.names.lookup x = some .local := by first | exact .inl rfl | exact .inr rfl) (hfy : X.fn y = true ∨ X.env.scope.names.lookup y = some .local := by first | exact .inl rfl | exact .inr rfl)
    (hn : (assignEach [.Name x px, .Starred (.Name y py) ps] X.env).length = 2 := by rfl) (hst : (assignEach [.Name x px, .Starred (.Name y py) ps] X.env).findIdx? (·.1) = some 1 := by rfl)
    (ha : (assignEach [.Name x px, .Starred (.Name y py) ps] X.env).map (·.2) = [assign (.Name x px) X.env, assign (.Name y py) X.env] := by rfl)
    (hs : swapsWithSole [.Tuple [.Name x px, .Starred (.Name y py) ps] k pt] e pos.line X.env = pure false := by rfl) (hw : swappedStores [.Tuple [.Name x px, .Starred (.Name y py) ps] k pt] e X.env = pure none := by rfl)
    (h1 : (assignEach [.Tuple [.Name x px, .Starred (.Name y py) ps] k pt] X.env).map (·.2) = [assign (.Tuple [.Name x px, .Starred (.Name y py) ps] k pt) X.env] := by rfl) :
    DS X (.Assign [.Tuple [.Name x px, .Starred (.Name y py) ps] k pt] e pos) (tAsg te (gStar X.K i j)) (wStar i j we) := by
  refine ⟨ps_asg h.pe (pg_star hc hN hi hj hx hy hfx hfy hn hst ha) hs hw h1, fun B G H σ ρ D E R q k1 _ => ?_⟩
  refine h.rd B G H σ ρ [] _ _ R q fun v d G1 H1 ρ1 s1 R1 d1 ⟨x, xs, e1, hz, h1⟩ => ?_
  subst e1
  cases d1 with
  | tup q dd =>
    cases dd with
    | cons dx dd =>
      refine ⟨_, _, _, rfl, SqT.of (R1.sub _ _ q), by rw [dd.len]; exact hz, fun D hD => ?_⟩
      obtain ⟨R3, s3⟩ := (R1.newX hD noT_lst).pub
      exact k1 _ _ _ _ (s1.trans s3) ((R3.set i (dx.gr s3)).set j (.lst upd_same (dd.gr s3))) h1
/-! ### functions in names -/
abbrev WV := Ev → (V → Ev → Prop) → Prop
def RdV (te : TE) (w : WV) : Prop := ∀ (B : Bs) (G H : Hp) (σ : L2.St) (ρ : Ev) (xs : List (Addr × HO)) (Φ : V → Ev → Prop) (Q : VK), Rep B G H σ ρ xs → w ρ Φ →
  (∀ v G' H' ρ', Same G G' → Rep B G' H' σ ρ' xs → Φ v ρ' → Q v H') → te σ H Q
structure DV (X : Cx) (e : Expr) (te : TE) (w : WV) : Prop where
  pe : PE X e te
  rd : RdV te w
/-- T[e], T a module's tuple -/
def wVIx (us : List V) (we : WE) : WV := fun ρ Φ => we ρ fun d ρ1 => ∃ k v, d = .int k ∧ atI us k = some v ∧ Φ v ρ1
theorem dv_ix {t : Str} {a : Addr} {us : List V} {pt p2 : Pos} (h : DE X e te we) (hm : X.mg t = some (.ref a)) (hq : ∀ H, SqT X.K H a us) (hg : Gl X t := by rfl) (hd : (t == ("__debug__" : Str)) = false := by decide) (hpx : PlainIx e := by exact fun _ _ => rfl) :
    DV X (.Subscript (.Name t pt) e p2) (tOp (rIx X.K) (tC (.ref a)) te) (wVIx us we) := by
  refine ⟨pe_ix ix_seq (pe_glob (v := .ref a) hg hm rfl hd) h.pe hpx, fun B G H σ ρ xs Φ Q R q k1 => ?_⟩
  refine h.rd B G H σ ρ xs _ (fun y H1 => rIx X.K (.ref a) y H1 Q) R q fun v d G1 H1 ρ1 s1 R1 d1 ⟨k, u, e1, e2, h1⟩ => ?_
  subst e1
  cases d1
  exact .inr (.inl ⟨a, us, k, u, rfl, rfl, hq H1, e2, k1 u G1 H1 ρ1 s1 R1 h1⟩)
def wVIf (u : WT) (wa wb : WV) : WV := fun ρ Φ => u ρ fun k ρ1 => if k = true then wa ρ1 Φ else wb ρ1 Φ
theorem dv_if {c a b : Expr} {ta tb : TE} {tA : TT} {wA : WT} {wa wb : WV} (hc : DT X c tA wA) (ha : DV X a ta wa) (hb : DV X b tb wb) : DV X (.IfExp c a b pos) (tIf tA ta tb) (wVIf wA wa wb) := by
  refine ⟨pe_ifExp hc.pt ha.pe hb.pe, fun B G H σ ρ xs Φ Q R q k1 => ?_⟩
  refine hc.rd B G H σ ρ xs _ _ R q fun b G1 H1 ρ1 s1 R1 h1 => ?_
  cases b with
  | true => exact iteT (ha.rd B G1 H1 σ ρ1 xs _ _ R1 h1 fun v G2 H2 ρ2 s2 R2 h2 => k1 v G2 H2 ρ2 (s1.trans s2) R2 h2)
  | false => exact iteF (hb.rd B G1 H1 σ ρ1 xs _ _ R1 h1 fun v G2 H2 ρ2 s2 R2 h2 => k1 v G2 H2 ρ2 (s1.trans s2) R2 h2)
/-- x = a function -/
def wSetV (i : Nat) (w : WV) : WS := fun D ρ => w ρ fun v ρ1 => D.nx (ρ1.set i (.vl v))
theorem Rep.setV {B : Bs} {G H : Hp} {σ : L2.St} {ρ : Ev} {xs : List (Addr × HO)} (R : Rep B G H σ ρ xs) (i : Nat) (v : V) : Rep B G H (σ.set i (some v)) (ρ.set i (.vl v)) xs :=
  R.put (l := []) ⟨rfl, rfl⟩ (fun _ h => h) (fun zs h => h) fun a h => by cases h
theorem ds_setV {i : Nat} {x : Str} {px : Pos} {w : WV} (h : DV X e te w) (hN : X.N.Nodup) (hi : X.N[i]? = some x := by rfl) (hx : Loc X.env.scope x := by first | exact Or.inl rfl | exact Or.inr rfl)
    (hs : swapsWith e (some (.Name x px)) pos.line X.env = pure false := by rfl) (hf : X.fn x = true ∨ X.env.scope.names.lookup x = some .local := by first | exact .inl rfl | exact .inr rfl | assumption) :
    DS X (.Assign [.Name x px] e pos) (tAsg te (gName i)) (wSetV i w) := by
  refine ⟨ps_set hN hi hx h.pe hs hf, fun B G H σ ρ D E R q k1 _ => ?_⟩
  exact h.rd B G H σ ρ [] _ _ R q fun v G1 H1 ρ1 s1 R1 h1 => k1 G1 H1 _ _ s1 (R1.setV i v) h1
/-- f is None -/
theorem Rep.vlAt {B : Bs} {G H : Hp} {σ : L2.St} {ρ : Ev} {xs : List (Addr × HO)} (R : Rep B G H σ ρ xs) {i : Nat} {v : V} (h : ρ[i]? = some (.vl v)) : σ[i]? = some (some v) := by
  obtain ⟨ass, hl, hs, _, _⟩ := R.own
  have hi : i < ass.length := by
    rw [hl]
    exact (List.getElem?_eq_some_iff.mp h).1
  exact (hs i _ ass[i] h (List.getElem?_eq_getElem hi)).2
def wVlIs (i : Nat) : WE := fun ρ Φ => ∃ v, ρ[i]? = some (.vl v) ∧ Φ (.bool (decide (v = .non))) ρ
theorem de_vlIs {i : Nat} {x : Str} {px p2 : Pos} {jc} (hN : X.N[i]? = some x := by rfl) (hv : Vis X.env.scope x := by first | exact Or.inl rfl | exact Or.inr (Or.inl rfl) | exact Or.inr (Or.inr rfl))
    (hd : (x == ("__debug__" : Str)) = false := by decide) (hcd : (x == ("__classdict__" : Str)) = false := by decide) :
    DE X (.Compare (.Name x px) [.Is] [.Constant .none jc p2] pos) (tOp (fun x y H Q => y = .non ∧ Q (.bl (decide (x = .non))) H) (tVar i) (tC .non)) (wVlIs i) := by
  refine ⟨pe_cmpR op_isN (pe_var hN hv hd hcd) pe_non (by first | exact nomark _ | rfl), fun B G H σ ρ xs Φ Q R ⟨v, e1, h⟩ k => ?_⟩
  exact ⟨v, R.vlAt e1, rfl, k _ _ G H ρ (Same.refl G) R (.bl _) h⟩
theorem dt_vlIs {i : Nat} {x : Str} {px p2 : Pos} {jc} (hN : X.N[i]? = some x := by rfl) (hv : Vis X.env.scope x := by first | exact Or.inl rfl | exact Or.inr (Or.inl rfl) | exact Or.inr (Or.inr rfl))
    (hd : (x == ("__debug__" : Str)) = false := by decide) (hcd : (x == ("__classdict__" : Str)) = false := by decide) :
    DT X (.Compare (.Name x px) [.Is] [.Constant .none jc p2] pos) (tTest (tOp (fun x y H Q => y = .non ∧ Q (.bl (decide (x = .non))) H) (tVar i) (tC .non))) (wTest (wVlIs i)) :=
  ⟨pt_cmpR op_isN (pe_var hN hv hd hcd) pe_non (by first | exact nomark _ | rfl), rd_test (de_vlIs (X := X) (pos := pos) (px := px) (p2 := p2) (jc := jc) hN hv hd hcd).rd⟩
/-- f(e), f one of several defs -/
def tCallV (i : Nat) (dom : List Nat) (fr : Nat → Addr) (W : Nat → List Dt → (Dt → Prop) → Prop) (t : TA) : TE := fun σ H Q => ∃ r, r ∈ dom ∧ σ[i]? = some (some (.ref (fr r))) ∧ t σ H fun vs H1 => spP 1 (W r) (vs ++ []) H1 Q E0
def wCallV (i : Nat) (dom : List Nat) (fr : Nat → Addr) (W : Nat → List Dt → (Dt → Prop) → Prop) (w : WA) : WE := fun ρ Φ => ∃ r, r ∈ dom ∧ ρ[i]? = some (.vl (.ref (fr r))) ∧ w ρ fun ds ρ1 => W r ds fun d => Φ d ρ1
theorem de_callV {i k : Nat} {x : Str} {px : Pos} {dom : List Nat} {fr : Nat → Addr} {nm : Nat → Str} {W : Nat → List Dt → (Dt → Prop) → Prop} {t : TA} {w : WA} (C : ∀ r ∈ dom, Con X.prog X.w X.K X.mg X.base (nm r) k (spP 1 (W r))) (hfr : ∀ r ∈ dom, X.mg (nm r) = some (.ref (fr r))) (hr : Room k X.A) (ha : DA X [e] t w)
    (hN : X.N[i]? = some x := by rfl) (hv : Vis X.env.scope x := by first | exact Or.inl rfl | exact Or.inr (Or.inl rfl) | exact Or.inr (Or.inr rfl))
    (hd : (x == ("__debug__" : Str)) = false := by decide) (hcd : (x == ("__classdict__" : Str)) = false := by decide)
    (he : starEach [e] X.env = (false, eval e X.env) :: starEach [] X.env := by rfl) :
    DE X (.Call (.Name x px) [e] [] pos) (tCallV i dom fr W t) (wCallV i dom fr W w) := by
  refine ⟨⟨fun pins s σ H Q I ⟨r, hr', hs, h⟩ => ?_⟩, fun B G H σ ρ xs Φ Q R ⟨r, hr', e1, h⟩ k => ?_⟩
  · obtain ⟨f, fd, ps, h1, h2, h3, h4⟩ := (C r hr').ex
    have ef : f = fr r := by
      rw [hfr r hr'] at h1
      injection h1 with h1
      injection h1 with h1
      exact h1.symm
    subst ef
    exact (pe_callL (i := i) (f := fr r) (sp := spP 1 (W r)) (dvs := []) (E := E0) h4 hr hN hv h2 h3 .nil pass0 ha.pa hd hcd he (by rfl)).run pins s σ H Q I ⟨hs, h⟩
  · refine ⟨r, hr', R.vlAt e1, ?_⟩
    exact rd_call (n := 1) (W := W r) ha.rd rfl B G H σ ρ xs Φ Q R h k
end
end MP
-- DL10
/-! DATA LAYER 10: comprehensions with two for's. -/
namespace MP
open PySem PySem.Spec PyProof.Rows L2 LamX
theorem wipe_sub (σ : L2.St) {vs vs1 : List Nat} (h : ∀ i ∈ vs1, i ∈ vs) : wipe (wipe σ vs1) vs = wipe σ vs := by
  apply wipe_ext
  · intro j hj
    rw [wipe_get, if_neg (fun z => hj (h j z))]
  · rw [wipe_length]
theorem wipeE_len (ρ : Ev) (vs : List Nat) : (wipeE ρ vs).length = ρ.length := by
  have e : ∀ i : Nat, (wipeE ρ vs)[i]? = none ↔ ρ[i]? = none := fun i => by
    rw [wipeE_get]
    by_cases c : i ∈ vs
    · rw [if_pos c]
      cases ρ[i]? <;> simp
    · rw [if_neg c]
  have h1 : (wipeE ρ vs).length ≤ ρ.length := by
    have := (e ρ.length).mpr (by simp)
    simpa using this
  have h2 : ρ.length ≤ (wipeE ρ vs).length := by
    have := (e (wipeE ρ vs).length).mp (by simp)
    simpa using this
  omega
/-- the inner loop -/
def wLc1 (wg : WG) (we : WE) (vs : List Nat) : List Dt → Ev → (List Dt → Ev → Prop) → Prop
  | [], ρ, k => k [] ρ
  | d :: ds, ρ, k => wg d ρ fun ρ1 => we ρ1 fun x ρ3 => wLc1 wg we vs ds (wipeE ρ3 vs) fun xs ρ4 => k (x :: xs) ρ4
def wLc2 (wg : WG) (wI1 : WI) (wg1 : WG) (we : WE) (vs vs1 : List Nat) : List Dt → Ev → (List Dt → Ev → Prop) → Prop
  | [], ρ, k => k [] ρ
  | d :: ds, ρ, k => wg d ρ fun ρ1 => wI1 ρ1 fun es ρ2 => es.length ≤ 1000 ∧ wLc1 wg1 we vs1 es (wipeE ρ2 vs1) fun xs ρ3 => wLc2 wg wI1 wg1 we vs vs1 ds (wipeE ρ3 vs) fun ys ρ4 => k (xs ++ ys) ρ4
theorem rd_lc2 {ix ix1 vs vs1 : List Nat} {wi wi1 : TI} {wI wI1 : WI} {g g1 : TG} {wg wg1 : WG} {te : TE} {we : WE} (hi : RdI wi wI) (hg : RdG ix g wg) (hi1 : RdI wi1 wI1) (hg1 : RdG ix1 g1 wg1) (he : RdE te we) (hix : ∀ i ∈ ix, i ∈ vs) (hix1 : ∀ i ∈ ix1, i ∈ vs1) (hv : ∀ i ∈ vs1, i ∈ vs) :
    RdF (tLc2 wi g tYes wi1 g1 tYes te vs vs1) (fun ρ Φ => wI ρ fun ds ρ1 => ds.length ≤ 1000 ∧ wLc2 wg wI1 wg1 we vs vs1 ds (wipeE ρ1 vs) Φ) := fun B G H σ ρ xs Φ Q R q k => by
  refine hi B G H σ ρ xs _ _ R q fun J ds G1 H1 ρ1 s1 R1 ⟨hz, h1⟩ hj => ?_
  intro D hD
  have R2 : Rep B G1 (upd H1 D (.lst [])) (wipe σ vs) (wipeE ρ1 vs) ((D, .lst []) :: xs) := (R1.newX hD noT_lst).wipe vs
  let Pv : Nat → Hp → Prop := fun i H' => ∃ G' ρ' acc es, Same G1 G' ∧ Rep B G' H' (wipe σ vs) ρ' ((D, .lst acc) :: xs) ∧ wipeE ρ' vs = ρ' ∧ Dns G' acc es ∧ es.length ≤ 1000 * i ∧ wLc2 wg wI1 wg1 we vs vs1 (ds.drop i) ρ' (fun more ρ4 => Φ (es ++ more) ρ4)
  refine ⟨fun i m H' => m = ds.length - i ∧ i ≤ ds.length ∧ Pv i H', ⟨ds.length, by simp, Nat.zero_le _, ⟨G1, wipeE ρ1 vs, [], [], Same.refl G1, R2, wipeE_wipe ρ1 vs, .nil, Nat.le_refl 0, h1⟩⟩, ?_⟩
  rintro i m H' ⟨rfl, hi', G', ρ', acc, es, s', R', wp, dn, hl, h'⟩
  by_cases hlt : i < ds.length
  · refine .inr ⟨hj.goes i H' hlt (s'.trans R'.sub), Pv (i + 1), fun H2 p2 => ⟨ds.length - (i + 1), by omega, rfl, hlt, p2⟩, fun x H2 y => ?_⟩
    obtain ⟨d, e, y⟩ := hj.yields i H' x H2 hlt (s'.trans R'.sub) y
    obtain ⟨G3, p3, dx⟩ := y G' s' R'.sub
    have e2 : ds.drop i = d :: ds.drop (i + 1) := by
      rw [List.drop_eq_getElem_cons hlt]
      rw [List.getElem?_eq_getElem hlt] at e
      rw [Option.some.inj e]
    rw [e2] at h'
    have s3 := p3.same R'.sub
    refine hg B G3 H2 (wipe σ vs) ρ' _ x d _ _ (R'.grow p3) dx h' fun σ4 ρ4 R4 ws h4 => ?_
    have ws' : wipe σ4 vs = wipe σ vs := (ws vs hix).trans (wipe_wipe σ vs)
    refine ⟨ws', ?_⟩
    unfold tYes
    refine iteT ?_
    refine hi1 B G3 H2 σ4 ρ4 _ _ _ R4 h4 fun J1 es1 G5 H5 ρ5 s5 R5 ⟨hz1, h5⟩ hj1 => ?_
    have sG : Same G' G5 := s3.trans s5
    let P1 : Nat → Hp → Prop := fun j H6 => ∃ G6 ρ6 acc6 es6, Same G5 G6 ∧ Rep B G6 H6 (wipe σ4 vs1) ρ6 ((D, .lst acc6) :: xs) ∧ wipeE ρ6 vs1 = ρ6 ∧ Dns G6 acc6 (es ++ es6) ∧ es6.length ≤ j ∧
      wLc1 wg1 we vs1 (es1.drop j) ρ6 (fun xs1 ρ7 => wLc2 wg wI1 wg1 we vs vs1 (ds.drop (i + 1)) (wipeE ρ7 vs) fun ys ρ8 => Φ (es ++ (es6 ++ xs1 ++ ys)) ρ8)
    refine ⟨fun j m H6 => m = es1.length - j ∧ j ≤ es1.length ∧ P1 j H6, ⟨es1.length, by simp, Nat.zero_le _, ⟨G5, wipeE ρ5 vs1, acc, [], Same.refl G5, R5.wipe vs1, wipeE_wipe ρ5 vs1, by rw [List.append_nil]; exact dn.gr sG, Nat.le_refl 0, ?_⟩⟩, ?_⟩
    · exact h5
    · rintro j m H6 ⟨rfl, hj', G6, ρ6, acc6, es6, s6, R6, wp6, dn6, hl6, h6⟩
      by_cases hlt1 : j < es1.length
      · refine .inr ⟨hj1.goes j H6 hlt1 (s6.trans R6.sub), P1 (j + 1), fun H7 p7 => ⟨es1.length - (j + 1), by omega, rfl, hlt1, p7⟩, fun x1 H7 y1 => ?_⟩
        obtain ⟨d1, e1, y1⟩ := hj1.yields j H6 x1 H7 hlt1 (s6.trans R6.sub) y1
        obtain ⟨G8, p8, dx1⟩ := y1 G6 s6 R6.sub
        have e3 : es1.drop j = d1 :: es1.drop (j + 1) := by
          rw [List.drop_eq_getElem_cons hlt1]
          rw [List.getElem?_eq_getElem hlt1] at e1
          rw [Option.some.inj e1]
        rw [e3] at h6
        have s8 := p8.same R6.sub
        refine hg1 B G8 H7 (wipe σ4 vs1) ρ6 _ x1 d1 _ _ (R6.grow p8) dx1 h6 fun σ9 ρ9 R9 ws9 h9 => ?_
        have ws9' : wipe σ9 vs1 = wipe σ4 vs1 := (ws9 vs1 hix1).trans (wipe_wipe σ4 vs1)
        refine ⟨ws9', ?_⟩
        refine iteT ?_
        refine he B G8 H7 σ9 ρ9 _ _ _ R9 h9 fun y dy G10 H10 ρ10 s10 R10 d10 h10 => ?_
        have dn10 := dn6.gr (s8.trans s10)
        refine ⟨acc6, (R10.ext _ List.mem_cons_self).1, ?_, ?_⟩
        · rw [dn10.len, List.length_append, sizeLine_eq]
          have : 1000 * i ≤ 1000 * 1000 := Nat.mul_le_mul_left _ (by omega)
          omega
        · refine ⟨G10, wipeE ρ10 vs1, acc6 ++ [y], es6 ++ [dy], s6.trans (s8.trans s10), ?_, wipeE_wipe ρ10 vs1, ?_, ?_, ?_⟩
          · rw [← ws9']
            exact (R10.extW noT_lst).wipe vs1
          · rw [← List.append_assoc]
            exact dn10.app (.one d10)
          · rw [List.length_append, List.length_singleton]
            omega
          · have e7 : (fun (xs1 : List Dt) (ρ7 : Ev) => wLc2 wg wI1 wg1 we vs vs1 (ds.drop (i + 1)) (wipeE ρ7 vs) fun ys ρ8 => Φ (es ++ (es6 ++ [dy] ++ xs1 ++ ys)) ρ8) = fun xs1 ρ7 => wLc2 wg wI1 wg1 we vs vs1 (ds.drop (i + 1)) (wipeE ρ7 vs) fun ys ρ8 => Φ (es ++ (es6 ++ dy :: xs1 ++ ys)) ρ8 := by
              funext xs1 ρ7
              congr 1
              funext ys ρ8
              simp
            rw [e7]
            exact h10
      · have e : j = es1.length := by omega
        subst e
        refine .inl ⟨hj1.stops H6 (s6.trans R6.sub), ?_⟩
        rw [List.drop_length] at h6
        refine ⟨G6, wipeE ρ6 vs, acc6, es ++ es6, s'.trans (sG.trans s6), ?_, wipeE_wipe ρ6 vs, dn6, ?_, ?_⟩
        · rw [← ws', ← wipe_sub σ4 hv]
          exact R6.wipe vs
        · rw [List.length_append]
          have : es6.length ≤ 1000 := by omega
          omega
        · have h6' : wLc2 wg wI1 wg1 we vs vs1 (ds.drop (i + 1)) (wipeE ρ6 vs) fun ys ρ8 => Φ (es ++ (es6 ++ [] ++ ys)) ρ8 := h6
          have e8 : (fun (ys : List Dt) (ρ8 : Ev) => Φ (es ++ (es6 ++ [] ++ ys)) ρ8) = fun ys ρ8 => Φ (es ++ es6 ++ ys) ρ8 := by
            funext ys ρ8
            simp
          rw [e8] at h6'
          exact h6'
  · have e : i = ds.length := by omega
    subst e
    refine .inl ⟨hj.stops H' (s'.trans R'.sub), ?_⟩
    rw [List.drop_length] at h'
    have h'' : Φ es ρ' := by
      have : Φ (es ++ []) ρ' := h'
      rw [List.append_nil] at this
      exact this
    refine k D acc es G' H' ρ' (s1.trans s') (R'.sig (fun i => ?_) (by rw [wipe_length])) dn h''
    rw [← wp, wipeE_get]
    by_cases c : i ∈ vs
    · rw [if_pos c]
      cases q : ρ'[i]? with
      | none =>
        right
        have hi3 : ¬ i < (wipe σ vs).length := by
          rw [R'.len]
          intro z
          rw [List.getElem?_eq_getElem z] at q
          cases q
        have wl := wipe_length σ vs
        rw [List.getElem?_eq_none (by omega), List.getElem?_eq_none (by omega)]
      | some s => exact .inl rfl
    · right
      rw [wipe_get, if_neg c]
section
variable {X : Cx} {elt tg iter tg1 iter1 : Expr} {te : TE} {we : WE} {pos : Pos}
/-- x = [elt for tg in iter for tg1 in iter1], the frame's own -/
theorem ds_setLc2 {i : Nat} {y : Str} {py spos : Pos} {scope : Scope} {own : List (Str × Nat)} {vs1 ix ix1 : List Nat} {wi wi1 : TI} {wI wI1 : WI} {g g1 : TG} {wg wg1 : WG} (hc : X.calm = true) (hN : X.N.Nodup) (hy : X.N[i]? = some y) (hyl : X.env.scope.names.lookup y = some .local)
    (hsw : swapsWith (.ListComp elt [⟨tg, iter, [], 0⟩, ⟨tg1, iter1, [], 0⟩] scope pos) (some (.Name y py)) spos.line X.env = pure true) (hi : DI X tg iter wi wI) (ok : BlkOk X.N X.env.scope scope own) (hv : ∀ i ∈ vs1, i ∈ own.map (·.2))
    (hg : ∀ (s : Shared) (H : Hp) (C : Addr) (cl : List (Str × Addr)) (fp : List Addr), DG (X.blk s H scope (compEnvC scope cl C X.env) fp) ix tg g wg)
    (hi1 : ∀ (s : Shared) (H : Hp) (C : Addr) (cl : List (Str × Addr)) (fp : List Addr), DI (X.blk s H scope (compEnvC scope cl C X.env) fp) tg1 iter1 wi1 wI1)
    (hg1 : ∀ (s : Shared) (H : Hp) (C : Addr) (cl : List (Str × Addr)) (fp : List Addr), DG (X.blk s H scope (compEnvC scope cl C X.env) fp) ix1 tg1 g1 wg1)
    (he : ∀ (s : Shared) (H : Hp) (C : Addr) (cl : List (Str × Addr)) (fp : List Addr), DE (X.blk s H scope (compEnvC scope cl C X.env) fp) elt te we) (hix : ∀ i ∈ ix, i ∈ own.map (·.2) := by decide) (hix1 : ∀ i ∈ ix1, i ∈ vs1 := by decide)
    (hs : ∀ x, foldedSetIterable iter X.env x = pure x := by intro _; rfl) (hs1 : ∀ env x, foldedSetIterable iter1 env x = pure x := by intro _ _; rfl) :
    DS X (.Assign [.Name y py] (.ListComp elt [⟨tg, iter, [], 0⟩, ⟨tg1, iter1, [], 0⟩] scope pos) spos) (tAsg (tLc2 wi g tYes wi1 g1 tYes te (own.map (·.2)) vs1) (gName i)) (wSetO i (fun ρ Φ => wI ρ fun ds ρ1 => ds.length ≤ 1000 ∧ wLc2 wg wI1 wg1 we (own.map (·.2)) vs1 ds (wipeE ρ1 (own.map (·.2))) Φ)) :=
  ⟨ps_setLc2 hc hN hy hyl hsw hi.pi ok hv (fun s H C cl fp => (hg s H C cl fp).pg) (fun s H C cl fp => pts_nil) (fun s H C cl fp => (hi1 s H C cl fp).pi) (fun s H C cl fp => (hg1 s H C cl fp).pg) (fun s H C cl fp => pts_nil) (fun s H C cl fp => (he s H C cl fp).pe) hs hs1,
    rd_setO i (rd_lc2 hi.rd (hg {} (fun _ => none) 0 [] []).rd (hi1 {} (fun _ => none) 0 [] []).rd (hg1 {} (fun _ => none) 0 [] []).rd (he {} (fun _ => none) 0 [] []).rd hix hix1 hv)⟩
end
end MP
-- SK1
/-! sorted(xs, key=f), f a def or a lambda whose calls make what they like: its keys are data. -/
namespace MP
open PySem PySem.Spec PyProof.Rows L2 LamX
section
variable {prog : Program} {w : World} {A : Around} {E : Value → Shared → Prop} {s : Shared} {a kS : Addr} {vs : List Value} {e1 : Nat} {P : PySem.Fin → Shared → Prop}
theorem keyG_rest {f : Value} (I : List Value → Shared → Prop) (hZ : vs.length ≤ sizeLine) (h0 : I [] s) (nk : s.heap.get? kS = some (seqObj "list" #[] 0)) (na : s.heap.get? a = some (seqObj "list" #[] e1)) (hka : kS ≠ a)
    (kp : ∀ ks s' kA e h', I ks s' → s'.heap.get? kS = some (seqObj "list" kA e) → Heap.SameBut kS s'.heap h' → (∃ o, h'.get? kS = some o) → I ks { s' with heap := h' })
    (turn : ∀ (i : Nat) (v : Value), vs[i]? = some v → ∀ ks s' kA e, ks.length = i → I ks s' → s'.heap.get? kS = some (seqObj "list" kA e) → s'.heap.get? a = some (seqObj "list" #[] e1) →
      wpAny (model prog w) A (call f [v]) (fun u s'' => I (ks ++ [u]) s'' ∧ s''.heap.get? kS = some (seqObj "list" kA e) ∧ s''.heap.get? a = some (seqObj "list" #[] e1)) (fun _ _ => False) s')
    (done : ∀ s' kA e, I kA.toList s' → kA.size = vs.length → s'.heap.get? kS = some (seqObj "list" kA e) → s'.heap.get? a = some (seqObj "list" #[] e1) → wpAny (model prog w) A (ksk_end a false vs.toArray e1 (.ref kS) kA) P E s') :
    wpAny (model prog w) A (ksk_rest a f false vs.toArray e1 (.ref kS)) P E s := by
  unfold ksk_rest
  refine wpAny_bind (wpAny_rule ?_)
  first
    | rw [List.forIn_toArray]
    | (rw [← Array.forIn_toList]; simp only [List.toList_toArray])
    | rw [← Array.forIn_toList]
  refine wpAny_bind (ksk_fold (fun i s' => ∃ kA e, kA.size = i ∧ I kA.toList s' ∧ s'.heap.get? kS = some (seqObj "list" kA e) ∧ s'.heap.get? a = some (seqObj "list" #[] e1)) vs 0 s
    ⟨#[], 0, rfl, h0, nk, na⟩ ?step ?done)
  case step =>
    rintro j x s' hx ⟨kA, e, hz, hI, nk', na'⟩
    simp only [Nat.zero_add] at hz ⊢
    have hj : j < vs.length := (List.getElem?_eq_some_iff.mp hx).1
    refine wpAny_bind (wpAny_attempt (wpAny_mono (turn j x hx kA.toList s' kA e (by rw [Array.length_toList]; exact hz) hI nk' na') (fun v s'' he => ?_) fun _ _ hF => hF.elim))
    obtain ⟨hI2, nk2, na2⟩ := he
    try dsimp only
    have s1 := Heap.SameBut.update s''.heap kS (Obj.mapSeq (·.push v))
    obtain ⟨c2, hc2⟩ : ∃ c2, (s''.heap.update kS (Obj.mapSeq (·.push v))).get? kS = some (seqObj "list" (kA.push v) c2) := ⟨_, get?_update_seq nk2 (·.push v)⟩
    have ea : (kA.push v).toList = kA.toList ++ [v] := by simp
    refine wpAny_bind (listUpdate_at nk2 rfl ?_ (by omega) (Nat.le_trans (Nat.le_of_eq (Array.size_push ..)) (by omega)))
    exact wpAny_pure ⟨rfl, kA.push v, c2, by rw [Array.size_push, hz], by rw [ea]; exact kp _ s'' kA e _ hI2 nk2 s1 ⟨_, hc2⟩, hc2, (s1.2 a hka.symm).trans na2⟩
  case done =>
    rintro s' ⟨kA, e, hz, hI, nk', na'⟩
    try dsimp only
    refine wpAny_bind (listItems_at nk' rfl ?_)
    exact done s' kA e hI (by rw [hz]; omega) nk' na'
end
theorem hok_track {P : Program} {w : World} {H : Hp} {h : Heap} {a : Addr} {o : HO} (x : HOk P w H h) (hn : H a = none) (new : ObjOk P w (upd H a o) h a o) : HOk P w (upd H a o) h := fun b u e => by
  by_cases hb : b = a
  · subst hb; rw [upd_same] at e; cases e; exact new
  · rw [upd_ne hb] at e
    exact (x b u e).stay (fun c v _ q => q) (fun c q => by rw [upd_ne (ne_of_none q hn)]; exact q) fun c xs q => by rw [upd_ne (ne_of_none q hn)]; exact q
section
variable {X : Cx} {pins : List (Addr × Obj)} {s : Shared} {σ : L2.St} {H : Hp}
/-- pairs of an item and its key's data -/
theorem each_zip : ∀ {vs : List V} {us : List Value} {ds : List Dt}, Vals vs us → ds.length = vs.length → PySem.W.EachIs (fun u (b : V × Dt) => RelV b.1 u) us (vs.zip ds)
  | [], _, [], .nil, _ => .nil
  | v :: vs, _, d :: ds, .cons h t, e => .cons h (each_zip t (by simpa using e))
theorem each_key : ∀ {h : Heap} {κ : PyProof.Rows.KeyKind} {g : Dt → κ.α} {vs : List V} {ks : List Value} {ds : List Dt}, PySem.W.EachIs (fun v d => κ.keyOf v = some (g d)) ks ds → ds.length = vs.length →
    PySem.W.EachIs (fun v (b : V × Dt) => κ.keyOf v = some (g b.2)) ks (vs.zip ds)
  | _, _, _, [], _, [], .nil, _ => .nil
  | h, _, _, v :: vs, _, d :: ds, .cons h1 t, e => .cons h1 (each_key (h := h) t (by simpa using e))
theorem zip_fst : ∀ {α β : Type} (l : List α) (m : List β), m.length = l.length → (l.zip m).map (·.1) = l
  | _, _, [], [], _ => rfl
  | _, _, a :: l, b :: m, h => by
    rw [List.zip_cons_cons, List.map_cons, zip_fst l m (by simpa using h)]
theorem each_vals1 {us : List Value} {ps : List (V × Dt)} (r : PySem.W.EachIs (fun u (p : V × Dt) => RelV p.1 u) us ps) : Vals (ps.map (·.1)) us := by
  induction r with
  | nil => exact .nil
  | cons h t ih => exact .cons h ih
theorem each_dat {G H : Hp} (I : Inv X pins σ H s) (sg : Same G H) : ∀ {vs : List V} {ds : List Dt} {us : List Value}, Dns G vs ds → Vals vs us →
    PySem.W.EachIs (fun v d => ∃ as, Reads s.heap v d as) us ds
  | _, _, _, .nil, .nil => .nil
  | _, _, _, .cons h t, .cons r q => .cons (Dp.reads I _ _ _ (h.dp X.K sg) r) (each_dat I sg t q)
theorem vals_snoc : ∀ {vs : List V} {us : List Value} {v : V} {u : Value}, Vals vs us → RelV v u → Vals (vs ++ [v]) (us ++ [u])
  | _, _, _, _, .nil, h => .cons h .nil
  | _, _, _, _, .cons a t, h => .cons a (vals_snoc t h)
theorem vals_at : ∀ {vs : List V} {us : List Value} {i : Nat} {u : Value}, Vals vs us → us[i]? = some u → ∃ x, vs[i]? = some x ∧ RelV x u
  | _, _, _, _, .nil, e => by simp at e
  | _, _, 0, _, .cons h _, e => by
    simp only [List.getElem?_cons_zero, Option.some.injEq] at e
    subst e
    exact ⟨_, by simp, h⟩
  | _, _, i + 1, _, .cons _ t, e => by
    simp only [List.getElem?_cons_succ] at e
    obtain ⟨x, h1, h2⟩ := vals_at t e
    exact ⟨x, by simpa using h1, h2⟩
/-- an untracked object is changed -/
theorem inv_turn2 {t' : Nat} {it kt : Addr} {h' : Heap} (I : Inv X pins σ H s) (k : ∀ b o, b ≠ it → b ≠ kt → s.heap.get? b = some o → h'.get? b = some o) (f1 : FpOk X pins H it) (f2 : FpOk X pins H kt) : Inv X pins σ H { s with heap := h', toks := t' } := by
  have nit : ∀ b u, H b = some u → b ≠ it ∧ b ≠ kt := fun b u e => ⟨fun z => (by rw [z, f1.1] at e; cases e), fun z => (by rw [z, f2.1] at e; cases e)⟩
  have kk : ∀ b o, b ∉ [it, kt] → s.heap.get? b = some o → h'.get? b = some o := fun b o hc e => k b o (fun z => hc (by simp [z])) (fun z => hc (by simp [z])) e
  refine I.step (g' := s.gens) (d' := s.drawn) (ch := [it, kt]) (fun b hb => ?_) (fun b o _ _ hc e _ => kk b o hc e) (fun b o _ _ hc e _ => ⟨o.slots, kk b o hc e⟩) (fun _ _ _ _ n => n)
    (fun b o hc e => ⟨o, kk b o hc e⟩) (fun _ _ e => e) (fun _ _ _ e => e) (fun b ps e => ⟨#[], by rw [e]; simp⟩) (fun m hm => ?_) (fun b u e => ?_) I.bare
  · rcases List.mem_cons.mp hb with e | hb
    · rw [e]; exact ⟨f1.2.2.2.1, f1.2.1, f1.2.2.2.2.1, f1.2.2.2.2.2⟩
    · rw [List.mem_singleton.mp hb]; exact ⟨f2.2.2.2.1, f2.2.1, f2.2.2.2.2.1, f2.2.2.2.2.2⟩
  · obtain ⟨o, es, ep, ho, r⟩ := hm
    exact ⟨o, es, ep, k _ o (Ne.symm f1.2.1) (Ne.symm f2.2.1) ho, r⟩
  · refine (I.hok b u e).stay (fun c v hc q => ?_) (fun _ q => q) fun _ _ q => q
    rcases hc with z | z
    · rw [z] at q ⊢; exact k _ v (nit b u e).1 (nit b u e).2 q
    · exact k _ v (nit c _ z).1 (nit c _ z).2 q
/-- .. and tracked from now on -/
theorem inv_track {it : Addr} {o : HO} (I : Inv X pins σ H s) (f1 : FpOk X pins H it) (new : ObjOk X.prog X.w (upd H it o) s.heap it o) : Inv X pins σ (upd H it o) s := by
  have n1 : ∀ b, b ∉ [it] → upd H it o b = H b := fun b hb => upd_ne fun z => hb (by simp [z])
  have nit : ∀ b u, H b = some u → b ∉ [it] := fun b u e z => by
    rw [List.mem_singleton.mp z, f1.1] at e
    cases e
  have r : Inv X pins σ (upd H it o) { s with heap := s.heap, gens := s.gens, drawn := s.drawn, toks := s.toks } := by
    refine I.step (ch := [it]) (fun b hb => ?_) (fun b o _ _ hc e _ => e) (fun b o _ _ hc e _ => ⟨o.slots, e⟩) (fun b o hc e n => by rw [n1 b hc]; exact n)
      (fun b o hc e => ⟨o, e⟩) (fun b xs e => by rw [n1 b (nit b _ e)]; exact e) (fun b o u e => by rw [n1 b (nit b _ e)]; exact e) (fun b ps e => ⟨#[], by rw [n1 b (nit b _ e), e]; simp⟩) (fun m hm => hm) (hok_track I.hok f1.1 new) I.bare
    rw [List.mem_singleton.mp hb]; exact ⟨f1.2.2.2.1, f1.2.1, f1.2.2.2.2.1, f1.2.2.2.2.2⟩
  exact r
theorem sorted_key_run {a f : Addr} {vs : List V} {Q : VK} (I : Inv X pins σ H s) (hs : SqL X.K H a vs) (hz : vs.length ≤ 100000) (hu : X.A.units + 64 < cLine)
    (J : List V → Hp → Prop) (J0 : J [] H)
    (turn : ∀ (i : Nat) (x : V), vs[i]? = some x → ∀ (kvs : List V) (H' : Hp), kvs.length = i → J kvs H' → ∀ (pins' : List (Addr × Obj)) (s' : Shared) (v : Value), (∀ p ∈ pins, p ∈ pins') → Inv X pins' σ H' s' → RelV x v →
      wpAny (model X.prog X.w) X.A.in1.in1 (call (.ref f) [v]) (fun u s'' => ∃ k H'', Inv X pins' σ H'' s'' ∧ RelV k u ∧ J (kvs ++ [k]) H'') (fun _ _ => False) s')
    (last : ∀ kvs H', kvs.length = vs.length → J kvs H' → ∃ G kds, Same G H' ∧ Dns G kvs kds ∧ SortOk kds)
    (q : ∀ kvs H' p ys, J kvs H' → H' p = none → ys.Perm vs → Q (.ref p) (upd H' p (.lst ys))) :
    wpAny (model X.prog X.w) X.A (call (.builtin "sorted") [.ref a] [(Str.ofString "key", .ref f)]) (EP X pins σ Q) X.xe s := by
  obtain ⟨its, rv, pl, _⟩ := I.list hs
  obtain ⟨o, ho, hcl, n, hdt⟩ := pl.isList
  have hl : its.length = vs.length := rv.length.symm
  have bound : its.length ≤ sizeLine := by rw [hl, sizeLine_eq]; omega
  refine call_function_entry_kw kind_sorted plain_sorted entry_sorted (ksk_s1 _ _) ?_
  unfold Builtin.«sorted»
  refine wpAny_bind (m := checkCount "sorted" 1 1 _) (wpAny_pure ?_)
  refine wpAny_bind (wpAny_collect_seq a (.inl rfl) ho hcl hdt (fun h' k => ?_) (by simpa using bound))
  refine wpAny_bind (wpAny_newList ?_ (by simpa using bound))
  have hoL : (h'.push (seqObj "list" its.toArray.toList.toArray 0)).get? h'.objs.size = some (seqObj "list" its.toArray.toList.toArray 0) := Heap.get?_push_size _ rfl
  have e9 : its.toArray.toList = its := by simp
  rw [e9] at hoL
  have I1 : Inv X pins σ H { s with heap := h' } := I.kept (t' := s.toks) k
  refine wpAny_bind (wpAny_holding (wpAny_call_entry_kw slot_list_sort ⟨_, by rw [e9]; exact hoL, rfl⟩ entry_list_sort ?body (ksk_l1 _ _)))
  case body =>
    show wpAny (model X.prog X.w) X.A.in1.in1 (Builtin.«list.sort» ⟨[.ref h'.objs.size], [(Str.ofString "key", .ref f)]⟩) _ _ _
    rw [e9, ksk_t1]
    have hZ : its.length ≤ sizeLine := bound
    have a0 : h'.objs.size < (h'.push (seqObj "list" its.toArray 0)).objs.size := Heap.lt_size hoL
    obtain ⟨e1, ho1⟩ : ∃ e1, ((h'.push (seqObj "list" its.toArray 0)).update h'.objs.size (Obj.mapSeq fun _ => (#[] : Array Value))).get? h'.objs.size = some (seqObj "list" #[] e1) := ⟨_, get?_update_seq hoL fun _ => #[]⟩
    have hkS : (((h'.push (seqObj "list" its.toArray 0)).update h'.objs.size (Obj.mapSeq fun _ => (#[] : Array Value))).push (seqObj "tuple" its.toArray 0)).objs.size = h'.objs.size + 2 := by
      rw [size_push', Heap.size_update, size_push']
    unfold ksk_tree
    refine wpAny_bind (listItems_at hoL rfl ?_)
    refine wpAny_bind (listUpdate_at hoL rfl ?_ (by rw [List.size_toArray]; exact hZ) (Nat.zero_le _))
    refine wpAny_bind (seqEpoch_at ho1 rfl ?_)
    refine wpAny_bind (wpAny_newTuple ?_ (by show its.length ≤ _; exact hZ))
    refine wpAny_bind (wpAny_newList ?_ (Nat.zero_le _))
    refine wpAny_holding ?_
    have hsz2 : h'.objs.size < (((h'.push (seqObj "list" its.toArray 0)).update h'.objs.size (Obj.mapSeq fun _ => (#[] : Array Value))).push (seqObj "tuple" its.toArray.toList.toArray 0)).objs.size := by
      rw [size_push', Heap.size_update, size_push']; omega
    have ho2 : (((h'.push (seqObj "list" its.toArray 0)).update h'.objs.size (Obj.mapSeq fun _ => (#[] : Array Value))).push (seqObj "tuple" its.toArray.toList.toArray 0)).get? h'.objs.size = some (seqObj "list" #[] e1) := Heap.get?_push_of_some _ ho1
    have k2 : ∀ b o, h'.get? b = some o → (((h'.push (seqObj "list" its.toArray 0)).update h'.objs.size (Obj.mapSeq fun _ => (#[] : Array Value))).push (seqObj "tuple" its.toArray.toList.toArray 0)).get? b = some o := fun b o e => by
      have hlt := Heap.lt_size e
      refine Heap.get?_push_of_some _ ?_
      rw [Heap.get?_update_ne _ _ _ _ (Nat.ne_of_lt hlt)]
      exact Heap.get?_push_of_some _ e
    show wpAny (model X.prog X.w) X.A.in1.in1 (ksk_rest h'.objs.size (.ref f) false its.toArray e1 (.ref (((h'.push (seqObj "list" its.toArray 0)).update h'.objs.size (Obj.mapSeq fun _ => (#[] : Array Value))).push (seqObj "tuple" its.toArray.toList.toArray 0)).objs.size)) _ _
      { s with heap := (((h'.push (seqObj "list" its.toArray 0)).update h'.objs.size (Obj.mapSeq fun _ => (#[] : Array Value))).push (seqObj "tuple" its.toArray.toList.toArray 0)).push (seqObj "list" #[] 0) }
    generalize (((h'.push (seqObj "list" its.toArray 0)).update h'.objs.size (Obj.mapSeq fun _ => (#[] : Array Value))).push (seqObj "tuple" its.toArray.toList.toArray 0)) = h2 at hsz2 ho2 k2 ⊢
    have I3 : Inv X pins σ H { s with heap := h2.push (seqObj "list" #[] 0) } := I1.kept (t' := s.toks) fun b o e => Heap.get?_push_of_some _ (k2 b o e)
    have hne : h2.objs.size ≠ h'.objs.size := Nat.ne_of_gt hsz2
    have fa : ∀ {H' : Hp}, H' h'.objs.size = none → FpOk X pins H' h'.objs.size := fun n => I1.fpOk (Nat.le_refl _) n
    have fk : ∀ {H' : Hp}, H' h2.objs.size = none → FpOk X pins H' h2.objs.size := fun n => I1.fpOk (Nat.le_of_lt hsz2) n
    have Ha : H h'.objs.size = none := I1.hok.fresh (Nat.le_refl _)
    have Hk : H h2.objs.size = none := I1.hok.fresh (Nat.le_of_lt hsz2)
    refine keyG_rest (fun ks s' => ∃ kvs H', J kvs H' ∧ Vals kvs ks ∧ Inv X pins σ H' s' ∧ H' h'.objs.size = none ∧ H' h2.objs.size = none) hZ ⟨[], H, J0, .nil, I3, Ha, Hk⟩ (Heap.get?_push_size _ rfl) (Heap.get?_push_of_some _ ho2) hne ?kp ?turn ?done
    case kp =>
      rintro ks s' kA e h5 ⟨kvs, H', hJ, rk, I', na, nk⟩ _ sb _
      exact ⟨kvs, H', hJ, rk, inv_turn2 (I := I') (t' := s'.toks) (it := h'.objs.size) (kt := h2.objs.size) (fun b o _ h2' e => (sb.2 b h2').trans e) (fa na) (fk nk), na, nk⟩
    case turn =>
      rintro i v hv ks s' kA e hlen ⟨kvs, H', hJ, rk, I', na, nk⟩ hk5 ha5
      obtain ⟨x, hx, rx⟩ := vals_at rv hv
      have f1 := fa na
      have f2 := fk nk
      have Ip : Inv X (pins ++ [(h'.objs.size, seqObj "list" #[] e1), (h2.objs.size, seqObj "list" kA e)]) σ H' s' := I'.pins_of fun p hp => by
        rcases List.mem_append.mp hp with hp | hp
        · exact I'.pin p (List.mem_append_right _ hp)
        · rcases List.mem_cons.mp hp with e | hp
          · rw [e]; exact ⟨ha5, f1.1, f1.2.1, f1.2.2.1, fun v z => by cases z⟩
          · rw [List.mem_singleton.mp hp]; exact ⟨hk5, f2.1, f2.2.1, f2.2.2.1, fun v z => by cases z⟩
      refine wpAny_mono (turn i x hx kvs H' (by rw [rk.length]; exact hlen) hJ _ s' v (fun p hp => List.mem_append_left _ hp) Ip rx) (fun u s'' hu2 => ?_) fun _ _ z => z
      obtain ⟨kk, H2, I2, rk2, hJ2⟩ := hu2
      have p1 := I2.pin (h'.objs.size, seqObj "list" #[] e1) (List.mem_append_right _ (List.mem_append_right _ (by simp)))
      have p2 := I2.pin (h2.objs.size, seqObj "list" kA e) (List.mem_append_right _ (List.mem_append_right _ (by simp)))
      exact ⟨⟨kvs ++ [kk], H2, hJ2, vals_snoc rk rk2, I2.pins_of fun p hp => I2.pin p (List.mem_append_right _ (List.mem_append_left _ hp)), p1.2.1, p2.2.1⟩, p2.1, p1.1⟩
    case done =>
      rintro s' kA e ⟨kvs, H', hJ, rk, I', na, nk⟩ hsz5 hk5 ha5
      have hkl : kvs.length = vs.length := by rw [rk.length, Array.length_toList, hsz5, hl]
      obtain ⟨G, kds, sg, dn, al, so, dp⟩ := last kvs H' hkl hJ
      have hdl : kds.length = vs.length := by rw [← dn.len]; exact hkl
      have er := each_dat I' sg dn rk
      have S : PySem.W.SortsAt X.prog X.w X.A.in1.in1 s' (PySem.W.dataKind s'.heap kds) kA.toList := PySem.W.SortsAt.data er al so fun d hd => by
        have := dp d hd
        show X.A.units + 1 + 1 + d.depth < cLine
        omega
      refine PySem.W.keyH_end (h₁ := PySem.W.hideAll s'.heap [h2.objs.size]) (fun b o _ e => PySem.W.of_hideAll _ e) (PySem.W.hideAll_none _ (by simp)) hk5 ha5 hne S hsz5 hZ fun h5 tk c k5 n5 => ?_
      have ez : PySem.W.EachIs (fun u (b : V × Dt) => RelV b.1 u) its (vs.zip kds) := each_zip rv hdl
      have out := PySem.W.sortVals_each (rev := false) (κ := PySem.W.dataKind s'.heap kds) (fun b : V × Dt => PySem.W.keyToks b.2) ez (each_key (h := s'.heap) (κ := PySem.W.dataKind s'.heap kds) (g := PySem.W.keyToks) (PySem.W.each_keys al er) hdl)
      have vo := each_vals1 out
      have pm := (List.mergeSort_perm (vs.zip kds) (PySem.W.sortLe (PySem.W.dataKind s'.heap kds).toKeyOrd false fun b : V × Dt => PySem.W.keyToks b.2)).map (·.1)
      rw [zip_fst vs kds hdl] at pm
      have I6 : Inv X pins σ H' { s' with heap := h5, toks := tk } := inv_turn2 (I := I') (it := h'.objs.size) (kt := h2.objs.size) (fun b o h1 h2' e => k5 b o h1 (PySem.W.hideAll_get _ e (by simpa using h2'))) (fa na) (fk nk)
      have I7 := inv_track (o := .lst (((vs.zip kds).mergeSort (PySem.W.sortLe (PySem.W.dataKind s'.heap kds).toKeyOrd false fun b : V × Dt => PySem.W.keyToks b.2)).map (·.1))) I6 (fa na) (by
        refine ⟨?_, _, c, vo, n5⟩
        rw [pm.length_eq, sizeLine_eq]
        omega)
      refine ⟨_, rfl, ?_⟩
      exact wpAny_pure ⟨_, rfl, .ref h'.objs.size, _, I7, rfl, q kvs H' _ _ hJ na pm⟩
end
end MP
-- SK2
/-! A lambda of one parameter, called while the def that made it runs. -/
namespace MP
open PySem PySem.Spec PyProof.Rows L2 LamX
structure LamS1 (sc scope : Scope) (a : Str) : Prop where
  kind : scope.kind = .function
  co : scope.isCoroutine = false
  gen : scope.isGenerator = false
  cell : ∀ y ∈ scope.names, y.2 ≠ .cell
  loc : ∀ y ∈ scope.names, y.2 = .local → y.1 = a
  par : scope.names.lookup a = some .local
  free : ∀ y ∈ scope.names, y.2 = .free → sc.names.lookup y.1 = some .cell ∨ sc.names.lookup y.1 = some .free
def lamS1B (sc scope : Scope) (a : Str) : Bool :=
  decide (scope.kind = .function) && !scope.isCoroutine && !scope.isGenerator && decide (scope.names.lookup a = some .local) && scope.names.all fun y => !decide (y.2 = .cell) && (!decide (y.2 = .local) || decide (y.1 = a)) && (!decide (y.2 = .free) || decide (sc.names.lookup y.1 = some .cell) || decide (sc.names.lookup y.1 = some .free))
theorem lamS1_by {sc scope : Scope} {a : Str} (h : lamS1B sc scope a = true) : LamS1 sc scope a := by
  unfold lamS1B at h
  simp only [Bool.and_eq_true, Bool.or_eq_true, Bool.not_eq_true', decide_eq_true_eq, decide_eq_false_iff_not, List.all_eq_true] at h
  obtain ⟨⟨⟨⟨h1, h2⟩, h3⟩, hp⟩, h4⟩ := h
  refine ⟨h1, h2, h3, fun y hy => (h4 y hy).1.1, fun y hy e => ?_, hp, fun y hy e => ?_⟩
  · rcases (h4 y hy).1.2 with z | z
    · exact absurd e z
    · exact z
  · rcases (h4 y hy).2 with (z | z) | z
    · exact absurd e z
    · exact .inl z
    · exact .inr z
theorem LamS1.has {X : Cx} {scope : Scope} {a : Str} (L : LamS1 X.env.scope scope a) (ok : X.Ok) : ∀ y ∈ scope.names, y.2 = .free → ∃ c, X.env.cells.lookup y.1 = some c := fun y hy e => by
  rcases L.free y hy e with k | k
  · exact ok.has _ (.inl k)
  · exact ok.has _ (.inr k)
/-- the context of the lambda's body, called at s -/
def lam1Cx (X : Cx) (A : Around) (s : Shared) (H : Hp) (scope : Scope) (f c' : Addr) : Cx where
  prog := X.prog
  w := X.w
  K := X.K
  mg := X.mg
  base := X.base
  A := A.deeper (lamEnv X scope s.heap.objs.size f c')
  N := X.N
  s_0 := s
  H_0 := H
  env := lamEnv X scope s.heap.objs.size f c'
  outer := X.stack
  stack := lamEnv X scope s.heap.objs.size f c' :: X.stack
  ex := []
  fn := fun _ => false
  calm := true
  pn := []
  xe := fun _ _ => False
section
variable {X : Cx} {pins : List (Addr × Obj)} {σ : L2.St} {H : Hp} {s : Shared}
theorem lam1_start {A : Around} {scope : Scope} {a : Str} {i : Nat} {f c' : Addr} {h₁ : Heap} {tk : Nat} {v : V} {u : Value} (I : Inv X pins σ H s) (L : LamS1 X.env.scope scope a) (e0 : Env0 X.prog X.w X.K X.mg X.base A X.stack s H) (hd : A.handled = none)
    (hN : X.N.Nodup) (hi : X.N[i]? = some a) (rv : RelV v u) (hns : h₁.Ns s.heap.objs.size fun y => ([(a, u)] : List (Str × Value)).reverse.lookup y) (kp : ∀ b o, s.heap.get? b = some o → h₁.get? b = some o) :
    Inv (lam1Cx X A s H scope f c') [] (σ.set i (some v)) H { s with heap := h₁, toks := tk } := by
  have hfree := L.has I.ok
  have cm : ∀ {y c}, (cloFrom X.env.cells scope.names []).lookup y = some c → X.env.cells.lookup y = some c := fun {y c} e => by
    rcases cloFrom_mem (PySem.mem_of_lookup e) with hm | ⟨h1, h2⟩
    · cases hm
    · obtain ⟨c1, hc⟩ := hfree _ h1 rfl
      have hc : X.env.cells.lookup y = some c1 := hc
      have e2 : c = c1 := by
        rw [h2, hc] <;> rfl
      rw [e2]
      exact hc
  have look : ∀ {y}, scope.names.lookup y = some .free → ∃ c, (cloFrom X.env.cells scope.names []).lookup y = some c := fun {y} hl => by
    have hy : (y, NameKind.free) ∈ scope.names := PySem.mem_of_lookup hl
    exact mem_lookup (cloFrom_has (cells := X.env.cells) (acc := []) hy)
  have cellK : ∀ {c : Addr} {v : Option Value}, s.heap.IsCell c v → h₁.IsCell c v := fun {c v} ⟨o, ho, hd⟩ => ⟨_, kp _ _ ho, hd⟩
  have noA : ∀ b : Addr, b ∉ (lam1Cx X A s H scope f c').ex := fun b z => absurd (show b ∈ ([] : List Addr) from z) (by simp)
  refine ⟨⟨e0.mod, L.kind, rfl, rfl, Nat.le_refl _, fun y z c e1 e2 => I.ok.inj y z c (cm e1) (cm e2), fun y hy => ?_, fun y c z _ => ?_, fun _ => hd, Around.frames_deeper e0.frames, .inr ⟨rfl, rfl⟩, fun b z => absurd z (noA b), e0.bs, e0.bsz, fun b _ _ => noA b,
      fun b z => absurd z (noA b), e0.funs, e0.frf⟩,
    rfl, e0.bare, Un.kept kp, ⟨_, hns, fun j y v' e1 e2 e3 => ?_⟩, fun y c e => ?_, e0.hok.fresh (Nat.le_refl _), fun y c e => I.freeC y c (cm e), fun q hq => absurd (show q ∈ ([] : List (Addr × Obj)) ++ [] from hq) (by simp), e0.hok.kept kp, by rw [List.length_set]; exact I.len⟩
  · have hy : scope.names.lookup y = some .cell ∨ scope.names.lookup y = some .free := hy
    rcases hy with hy | hy
    · exact absurd rfl (L.cell _ (PySem.mem_of_lookup hy))
    · exact look hy
  · have z : false = true := z
    cases z
  · have e3 : Vis scope y := e3
    have e1 : X.N[j]? = some y := e1
    have hil : i < σ.length := by
      rw [I.len]
      exact (List.getElem?_eq_some_iff.mp hi).1
    rcases e3 with k | k | k
    · have ya : y = a := L.loc _ (PySem.mem_of_lookup k) rfl
      subst ya
      have ej : j = i := nodup_ix hN e1 hi
      subst ej
      rw [List.getElem?_set_self hil] at e2
      cases e2
      exact ⟨u, rv, .inl ⟨k, by simp⟩⟩
    · exact absurd rfl (L.cell _ (PySem.mem_of_lookup k))
    · have ne : i ≠ j := by
        rintro rfl
        rw [hi] at e1
        cases e1
        rw [L.par] at k
        cases k
      rw [List.getElem?_set_ne ne] at e2
      obtain ⟨m, hn, hl⟩ := I.loc
      have hvis : Vis X.env.scope y := (L.free _ (PySem.mem_of_lookup k) rfl).elim (fun k => .inr (.inl k)) (fun k => .inr (.inr k))
      obtain ⟨w', r, q⟩ := hl j y v' e1 e2 hvis
      obtain ⟨c2, h2⟩ := look k
      refine ⟨w', r, .inr ⟨.inr k, c2, h2, ?_⟩⟩
      have c1 := cm h2
      rcases q with ⟨k', _⟩ | ⟨_, c3, e', z⟩
      · have k' : X.env.scope.names.lookup y = some .local := k'
        rcases L.free _ (PySem.mem_of_lookup k) rfl with k2 | k2 <;> rw [show X.env.scope.names.lookup y = _ from k2] at k' <;> cases k'
      · rw [c1] at e'
        cases e'
        exact cellK z
  · obtain ⟨w', z⟩ := I.cell y c (cm e)
    exact ⟨w', cellK z⟩
/-- f(u), f the lambda -/
theorem lam1_call {A : Around} {scope : Scope} {a : Str} {i k : Nat} {f c' : Addr} {v : V} {u pm ctv : Value} {params : Arguments} {body : Expr} {tb : TE} {Q : VK} (I : Inv X pins σ H s) (L : LamS1 X.env.scope scope a)
    (hf : s.heap.get? f = some (PySem.W.kla_obj "<lambda>" (X.env.qual ++ "<lambda>") params body scope (cloFrom X.env.cells scope.names []) pm c' ctv)) (hc : H c' = some (CodeO c' (X.env.qual ++ "<lambda>")))
    (e0 : Env0 X.prog X.w X.K X.mg X.base A X.stack s H) (hr : Room (k + 1) A) (hN : X.N.Nodup) (hi : X.N[i]? = some a) (rv : RelV v u)
    (hbind : bindArgs (PySem.W.kla_fn "<lambda>" (X.env.qual ++ "<lambda>") params body scope (cloFrom X.env.cells scope.names []) pm (.ref c') ctv) ⟨[u], []⟩ = pure [(a, u)])
    (hbody : Room k (A.deeper (lamEnv X scope s.heap.objs.size f c')) → PE (lam1Cx X A s H scope f c') body tb) (ht : tb (σ.set i (some v)) H Q) :
    wpAny (model X.prog X.w) A (call (.ref f) [u]) (fun u' s' => ∃ k H', Inv X pins σ H' s' ∧ RelV k u' ∧ Q k H') (fun _ _ => False) s := by
  obtain ⟨⟨oc, vs, t, hoc, hdc, hvc⟩, _, _⟩ := I.hok c' _ hc
  refine wpAny_call ?_
  refine PySem.W.kla_callFunE hr.depth hf rfl L.co L.gen rfl ⟨c', oc, vs, t, rfl, hoc, hdc, hvc⟩ ?_
  rw [hbind]
  refine wpAny_pure (wpAny_newFunctionEnv (fun y hy => L.cell y hy) (fun y hy => by rw [List.mem_singleton.mp hy]; exact L.par) (fun h₁ hns hsb => ⟨I.nolimit.fresh _ hsb, ?_⟩) L.kind)
  show codeAny _ _ (.expr body (lamEnv X scope s.heap.objs.size f c')) _ _
  have kp : ∀ b o, s.heap.get? b = some o → h₁.get? b = some o := fun b o e => hsb.extBut b o (Nat.ne_of_lt (Heap.lt_size e)) (Heap.get?_push_of_some _ e)
  have J := lam1_start (A := A) (f := f) (c' := c') (tk := s.toks + ([(a, u)] : List (Str × Value)).length) I L e0 hr.hd hN hi rv hns kp
  refine PySem.W.kla_codeExpr (wpAny_mono ((hbody (hr.deeper _)).run [] _ _ H Q J ht) (fun v2 s' hq => ?_) fun e s' hq => hq.elim)
  obtain ⟨w', H', J', rv2, q⟩ := hq
  have J2 := J'
  exact ⟨w', H', I.call' (ch := []) J'.os J'.base J'.hok J'.bare (fun b z => absurd z (by simp)), rv2, q⟩
end
end MP
-- DL11
/-! DATA LAYER 11: sorted(xs, key=lambda x: ..), contracts of defs that need the lambda's table. -/
namespace MP
open PySem PySem.Spec PyProof.Rows L2 LamX
section
variable {X : Cx} {pins : List (Addr × Obj)} {σ : L2.St} {H : Hp} {s : Shared}
/-- what is not the table at P is kept, and tables stay tables of q -/
structure ExtP (P : Addr) (H H' : Hp) : Prop where
  ext : ∀ b o, b ≠ P → H b = some o → H' b = some o
  tb : ∀ P' q, TabL H P' q → TabL H' P' q
theorem ExtP.refl (P : Addr) (H : Hp) : ExtP P H H := ⟨fun _ _ _ e => e, fun _ _ t => t⟩
theorem lam_make3 {c P : Addr} {params : Arguments} {body : Expr} {scope : Scope} {pos : Pos} {E : Value → Shared → Prop} {Q : Value → Shared → Prop} (I : Inv X pins σ H s) (TB : TabB X.base X.mg c P) (hcode : X.env.code = .ref c)
    (hq : X.env.qual ++ "<lambda>" = lamQ) (hT : TabL H P lamQ) (hdef : defaultsOf params X.env = ([], [])) (hfree : ∀ y ∈ scope.names, y.2 = .free → ∃ c, X.env.cells.lookup y.1 = some c)
    (h : ∀ (f c' : Addr) (pm ctv : Value) (H1 : Hp) (s' : Shared), Inv X pins σ H1 s' → ExtP P H H1 →
      s'.heap.get? f = some (PySem.W.kla_obj "<lambda>" (X.env.qual ++ "<lambda>") params body scope (cloFrom X.env.cells scope.names []) pm c' ctv) → H1 f = none → f ∉ frs X.stack → H1 c' = some (CodeO c' (X.env.qual ++ "<lambda>")) → Q (.ref f) s') :
    wpAny (model X.prog X.w) X.A (eval (.Lambda params body scope pos) X.env) Q E s := by
  obtain ⟨_, ps, hP, ht, ha⟩ := hT
  refine PySem.W.kla_eval hdef ?_
  have bP : s.heap.BuiltinsAt X.mg P := TB.bm.keeps I.bk
  have hP' : s.heap.get? P = some { cls := .none, data := .fields ps } := I.hok P _ hP
  have nofr : ∀ f, s.heap.objs.size ≤ f → f ∉ frs X.stack := fun f hf z => by
    rcases List.mem_cons.mp (I.stkSub _ z) with e | e
    · have h1 := I.lt
      rw [← e] at h1
      exact Nat.lt_irrefl _ (Nat.lt_of_lt_of_le h1 hf)
    · exact I.nofs hf e
  cases hc : codeAmong pos ps.toList with
  | none =>
    refine PySem.W.kla_makeFunction (mg := X.mg) (c := c) (P := P) (ps := ps) (closure_ok hfree) I.ok.glob (I.mod.glob.keeps I.bk) hcode (TB.code.keeps I.bk) hP' ht hc TB.gP bP fun c' ctv h' tk hx hge hlt hrec htb => ?_
    obtain ⟨c2, oc, vs, t, e2, hoc, hd, hv⟩ := hrec
    cases e2
    have hsz : s.heap.objs.size ≤ h'.objs.size := Nat.le_trans hge (Nat.le_of_lt hlt)
    have nC : H c' = none := I.hok.fresh hge
    have I1 := inv_table (t' := tk) (more := #[rawInt pos.line, rawInt pos.col, .ref c']) (h' := h'.push (PySem.W.kla_obj "<lambda>" (X.env.qual ++ "<lambda>") params body scope (cloFrom X.env.cells scope.names []) ((X.mg "__name__").getD .none) c' ctv)) I hP
      (fun b o hb e => Heap.get?_push_of_some _ (hx b o hb e)) (Heap.get?_push_of_some _ htb) hge ⟨oc, vs, t, Heap.get?_push_of_some _ hoc, hd, hv⟩
    have hE : ∀ b o, b ≠ P → H b = some o → upd (upd H P (.tbl (ps ++ #[rawInt pos.line, rawInt pos.col, .ref c']))) c' (CodeO c' (X.env.qual ++ "<lambda>")) b = some o := fun b o n e => by
      rw [upd_ne (ne_of_none e nC), upd_ne n]
      exact e
    have cP : ∀ {c0 : Addr} {q : Str}, H c0 = some (CodeO c0 q) → c0 ≠ P := fun {c0 q} e z => by
      rw [z, hP] at e
      exact codeO_ne ps (Option.some.inj e).symm
    have eL : (ps ++ #[rawInt pos.line, rawInt pos.col, .ref c']).toList = ps.toList ++ [rawInt pos.line, rawInt pos.col, .ref c'] := by simp
    refine h h'.objs.size c' ((X.mg "__name__").getD .none) ctv _ _ I1 ⟨hE, fun P' q t => ?_⟩ (Heap.get?_push_size _ rfl) ?_ (nofr _ hsz) upd_same
    · obtain ⟨eq, ps', a1, a2, a3⟩ := t
      subst eq
      by_cases hb : P' = P
      · subst hb
        rw [hP] at a1
        cases a1
        refine ⟨rfl, _, by rw [upd_ne (ne_of_none hP nC), upd_same], by rw [eL]; exact PySem.TriplesOk_snoc _ _ _ _ ht, fun p' cv hcv => ?_⟩
        rw [eL] at hcv
        rcases among_app _ ht hcv with z | z
        · obtain ⟨c0, e1, e2⟩ := ha p' cv z
          exact ⟨c0, e1, hE _ _ (cP e2) e2⟩
        · exact ⟨c', z, by rw [upd_same, hq]⟩
      · refine ⟨rfl, ps', hE _ _ hb a1, a2, fun p' cv hcv => ?_⟩
        obtain ⟨c0, e1, e2⟩ := a3 p' cv hcv
        exact ⟨c0, e1, hE _ _ (cP e2) e2⟩
    · have n1 : h'.objs.size ≠ c' := Nat.ne_of_gt hlt
      have n2 : h'.objs.size ≠ P := Nat.ne_of_gt (Nat.lt_of_lt_of_le (Heap.lt_size hP') hsz)
      rw [upd_ne n1, upd_ne n2]
      exact I.hok.fresh hsz
  | some cv =>
    obtain ⟨c', e, hco⟩ := ha pos cv hc
    subst e
    refine PySem.W.kla_makeFunctionHit (mg := X.mg) (c := c) (P := P) (ps := ps) (closure_ok hfree) I.ok.glob (I.mod.glob.keeps I.bk) hcode (TB.code.keeps I.bk) hP' ht hc bP fun ctv h' tk hx hsz => ?_
    have I1 : Inv X pins σ H { s with heap := h'.push (PySem.W.kla_obj "<lambda>" (X.env.qual ++ "<lambda>") params body scope (cloFrom X.env.cells scope.names []) ((X.mg "__name__").getD .none) c' ctv), toks := tk } := I.kept fun b o e => Heap.get?_push_of_some _ (hx b o e)
    exact h h'.objs.size c' ((X.mg "__name__").getD .none) ctv H _ I1 (ExtP.refl P H) (Heap.get?_push_size _ rfl) (I.hok.fresh hsz) (nofr _ hsz) (by rw [hq]; exact hco)
def one1 (q : VK) : List V → Hp → Prop := fun vs H => match vs with
  | [x] => q x H
  | _ => False
theorem one1_of {q : VK} : ∀ {vs : List V} {H : Hp}, one1 q vs H → ∃ x, vs = [x] ∧ q x H
  | [x], _, h => ⟨x, rfl, h⟩
  | [], _, h => h.elim
  | _ :: _ :: _, _, h => h.elim
/-- sorted(e, key=lambda a: body) -/
def kSort (K : PySem.W.Frag) (P : Addr) (i : Nat) (tb : TE) (σ : L2.St) (Q : VK) : VK := fun x H1 => TabL H1 P lamQ ∧ ∀ c' H2, ExtP P H1 H2 → H2 c' = some (CodeO c' lamQ) →
  ∃ a vs, ∃ J : List V → Hp → Prop, x = .ref a ∧ SqL K H2 a vs ∧ vs.length ≤ 100000 ∧ J [] H2 ∧ (∀ kvs H', J kvs H' → H' c' = some (CodeO c' lamQ)) ∧
    (∀ j x, vs[j]? = some x → ∀ kvs H', kvs.length = j → J kvs H' → tb (σ.set i (some x)) H' fun k H'' => J (kvs ++ [k]) H'') ∧
    (∀ kvs H', kvs.length = vs.length → J kvs H' → ∃ G kds, Same G H' ∧ Dns G kvs kds ∧ SortOk kds) ∧ (∀ kvs H' p ys, J kvs H' → H' p = none → ys.Perm vs → Q (.ref p) (upd H' p (.lst ys)))
def tSortKey (K : PySem.W.Frag) (P : Addr) (i : Nat) (te tb : TE) : TE := fun σ H Q => te σ H (kSort K P i tb σ Q)
theorem pe_sortKey {c P : Addr} {i k : Nat} {a : Str} {params : Arguments} {body e : Expr} {scope : Scope} {lpos p pos kp : Pos} {te tb : TE} (ha : PE X e te) (hm : X.mg "sorted" = none) (TB : TabB X.base X.mg c P) (hcode : X.env.code = .ref c) (hq : X.env.qual ++ "<lambda>" = lamQ)
    (hr : Room (k + 3) X.A) (L : LamS1 X.env.scope scope a) (hN : X.N.Nodup) (hi : X.N[i]? = some a) (hdef : defaultsOf params X.env = ([], []))
    (hbind : ∀ (q : Str) (cl : List (Str × Addr)) (pm cv ctv u : Value), bindArgs (PySem.W.kla_fn "<lambda>" q params body scope cl pm cv ctv) ⟨[u], []⟩ = pure [(a, u)])
    (hbody : ∀ (s : Shared) (H : Hp) (f c' : Addr), Room k (X.A.in1.in1.deeper (lamEnv X scope s.heap.objs.size f c')) → PE (lam1Cx X X.A.in1.in1 s H scope f c') body tb)
    (hg : Gl X "sorted" := by rfl) (hs1 : starEach [e] X.env = (false, eval e X.env) :: starEach [] X.env := by rfl)
    (he : backTo pos (starEach [e] X.env) = (false, eval e X.env) :: backTo pos (starEach [] X.env) := by rfl) (hpl : (backTo pos (starEach [e] X.env)).any (·.1) = false := by rfl) :
    PE X (.Call (.Name "sorted" p) [e] [⟨some "key", .Lambda params body scope lpos, kp⟩] pos) (tSortKey X.K P i te tb) := by
  refine ⟨fun pins s σ H Q I h => ?_⟩
  refine wpAny_Call_Name_kw (ld_blt I hg hm rfl ?_ (by decide) (by decide))
  show wpAny _ _ (callWith pos (.builtin "sorted") [] _ _) _ _ _
  have h1 : (tCons te tNil) σ H (one1 (kSort X.K P i tb σ Q)) := h
  refine PyProof.Rows.callWith_kw (thn ((pa_cons ha pa_nil hs1).run pos pins s σ H _ I h1) fun us s1 ⟨vs, H1, I1, r1, q1⟩ => ?_) he hpl (by rfl) (by rfl)
  obtain ⟨x, rfl, hT, q1⟩ := one1_of q1
  show wpAny _ _ (evalAll [do let v ← eval (.Lambda params body scope lpos) X.env; standAt pos; pure v]) _ _ s1
  refine wpAny_evalAll_cons (wpAny_bind (lam_make3 I1 TB hcode hq hT hdef (L.has I1.ok) fun f c' pm ctv H2 s2 I2 eP hf hfn hfr hco => wpAny_bind (wpAny_standAt (wpAny_pure ?_))))
  refine wpAny_evalAll_nil ?_
  show wpAny (model X.prog X.w) X.A (call (.builtin "sorted") us [(Str.ofString "key", .ref f)]) _ _ s2
  have hco' : H2 c' = some (CodeO c' lamQ) := by
    rw [← hq]
    exact hco
  obtain ⟨a1, vs, J, rfl, hsq, hz, J0, Jc, Jt, Jl, Jq⟩ := q1 c' H2 eP hco'
  rw [Vals.ref1 r1]
  -- the lambda's object is pinned
  have nL : f ≠ X.env.locals := by
    rintro rfl
    obtain ⟨m, ⟨o, es, ep, ho, r⟩, _⟩ := I2.loc
    rw [hf] at ho
    cases ho
    cases r.1
  have nfs : f ∉ X.fs := fun z => hfr (by
    rcases I2.ok.stk with e | ⟨e, _⟩
    · rw [e]; exact z
    · rw [e]
      unfold frs
      rw [List.filterMap_cons]
      cases X.env.frame with
      | none => exact z
      | some y => exact List.mem_cons_of_mem _ z)
  have Ip : Inv X ((f, PySem.W.kla_obj "<lambda>" (X.env.qual ++ "<lambda>") params body scope (cloFrom X.env.cells scope.names []) pm c' ctv) :: pins) σ H2 s2 := I2.pins_of fun p hp => by
    rcases List.mem_cons.mp hp with e | hp
    · rw [e]
      exact ⟨hf, hfn, nL, nfs, fun v z => by cases z⟩
    · exact I2.pin p (List.mem_append_right _ hp)
  refine wpAny_mono (sorted_key_run Ip hsq hz hr.units J J0 (fun j x hx kvs H' hl hJ pins' s' v hsub I' rv => ?_) Jl Jq) (fun u s' ⟨v, H', I', rv, q⟩ => ?_) fun _ _ z => z
  · have pf := I'.pin _ (List.mem_append_right _ (hsub _ List.mem_cons_self))
    exact lam1_call (k := k) I' L pf.1 (by rw [hq]; exact Jc kvs H' hJ) I'.env0.in1.in1 hr.in1.in1 hN hi rv (hbind _ _ _ _ _ _) (hbody s' H' f c') (Jt j x hx kvs H' hl hJ)
  · exact ⟨v, H', I'.pins_of fun p hp => I'.pin p (List.mem_append_right _ (List.mem_cons_of_mem _ hp)), rv, q⟩
end
end MP
-- DL12
/-! DATA LAYER 12: sorted(xs, key=lambda x: ..) over data, contracts of defs that need the lambda's table. -/
namespace MP
open PySem PySem.Spec PyProof.Rows L2 LamX
theorem dns_perm {G : Hp} {vs ys : List V} (p : ys.Perm vs) : ∀ {ds : List Dt}, Dns G vs ds → ∃ es : List Dt, es.Perm ds ∧ Dns G ys es := by
  induction p with
  | nil => intro ds h; cases h; exact ⟨[], .nil, .nil⟩
  | cons x _ ih =>
    intro ds h
    cases h with
    | cons h1 h2 =>
      obtain ⟨es, a, b⟩ := ih h2
      exact ⟨_ :: es, a.cons _, .cons h1 b⟩
  | swap x y l =>
    intro ds h
    cases h with
    | cons h1 h2 =>
      cases h2 with
      | cons h3 h4 => exact ⟨_, List.Perm.swap _ _ _, .cons h3 (.cons h1 h4)⟩
  | trans _ _ ih1 ih2 =>
    intro ds h
    obtain ⟨e1, a1, b1⟩ := ih2 h
    obtain ⟨e2, a2, b2⟩ := ih1 b1
    exact ⟨e2, a2.trans a1, b2⟩
theorem Rep.tbAt {B : Bs} {G H : Hp} {σ : L2.St} {ρ : Ev} {xs : List (Addr × HO)} (R : Rep B G H σ ρ xs) {j : Nat} {P : Addr} (h : ρ[j]? = some (.tb P lamQ)) : TabL H P lamQ ∧ G P = none := by
  obtain ⟨ass, hal, hss, _, _⟩ := R.own
  have hi : j < ass.length := by
    rw [hal]
    exact (List.getElem?_eq_some_iff.mp h).1
  obtain ⟨_, t, g⟩ := hss j _ ass[j] h (List.getElem?_eq_getElem hi)
  exact ⟨t, g⟩
section
variable {X : Cx} {te tb : TE} {we wb : WE} {e body : Expr}
def wSortKey (P : Addr) (i : Nat) (we wb : WE) : WA := fun ρ Φ => we ρ fun d ρ1 => ∃ ds, d = .list ds ∧ ds.length ≤ 100000 ∧ (∃ j : Nat, ρ1[j]? = some (Sl.tb P lamQ)) ∧
  ∃ kds : List Dt, kds.length = ds.length ∧ SortOk kds ∧ (∀ (n : Nat) (x k : Dt), ds[n]? = some x → kds[n]? = some k → wb ((peekE ρ1).set i (.da x)) fun d' _ => d' = k) ∧ ∀ ys : List Dt, ys.Perm ds → Φ ys ρ1
theorem rd_sortKey {K : PySem.W.Frag} {P : Addr} {i : Nat} (ha : RdE te we) (hb : RdE tb wb) : RdF (tSortKey K P i te tb) (wSortKey P i we wb) := fun B G H σ ρ xs Φ Q R hw k => by
  refine ha B G H σ ρ xs _ _ R hw fun v d G1 H1 ρ1 s1 R1 dn ⟨ds, e, hz, ⟨j, hj⟩, kds, hkl, so, hk, hΦ⟩ => ?_
  subst e
  cases dn with
  | @lst a vs _ hp rp =>
  obtain ⟨tab, gP⟩ := R1.tbAt hj
  refine ⟨tab, fun c' H2 eP hc => ?_⟩
  have neP : ∀ b o, G1 b = some o → b ≠ P := fun b o q z => by
    rw [z, gP] at q
    cases q
  have p2 : Post G1 H1 G1 H2 := by
    refine ⟨fun b o q => eP.ext b o (neP b o q) (R1.sub b o q), fun b o q => ?_, eP.tb⟩
    by_cases hb : b = P
    · subst hb
      obtain ⟨_, ps, e1, _⟩ := tab
      obtain ⟨_, ps2, e2, _⟩ := eP.tb _ _ (R1.tbAt hj).1
      refine ⟨_, e2, rfl, fun n => ?_⟩
      rw [e1] at q
      exact (n ps (Option.some.inj q).symm).elim
    · exact ⟨o, eP.ext b o hb q, rfl, fun _ => rfl⟩
  have R2 := R1.grow p2
  obtain ⟨G2, s2, R2p⟩ := R2.peek
  have vl : vs.length = ds.length := rp.len
  refine ⟨a, vs, fun kvs H' => ∃ G', Post G2 H2 G' H' ∧ Dns G' kvs (kds.take kvs.length), rfl, SqL.of (R2.sub _ _ hp), by rw [vl]; exact hz, ⟨G2, Post.refl R2p.sub, by simpa using Dns.nil⟩, ?_, ?_, ?_, ?_⟩
  · rintro kvs H' ⟨G', pG, _⟩
    obtain ⟨o', e1, _, e3⟩ := pG.fr c' _ hc
    have e4 := e3 fun ps z => codeO_ne ps z
    rw [e1, e4]
  · rintro n x hx kvs H' hl ⟨G', pG, dk⟩
    have R3 := R2p.grow pG
    obtain ⟨xd, hxd, dnx⟩ := (rp.gr (s2.trans (pG.same R2p.sub))).get' hx
    have hn : n < kds.length := by
      rw [hkl]
      exact (List.getElem?_eq_some_iff.mp hxd).1
    have hkd : kds[n]? = some kds[n] := List.getElem?_eq_getElem hn
    refine hb _ G' H' (σ.set i (some x)) _ [] _ _ (R3.set i dnx) (hk n xd _ hxd hkd) fun v d G3 H3 ρ3 s3 R4 dn3 ed => ?_
    refine ⟨G3, ⟨R4.sub, fun a o q => let ⟨o', e1, e2, e3⟩ := R4.fr a o q; ⟨o', e1, e2, fun nt => e3 nt (by simp)⟩, R4.tb⟩, ?_⟩
    rw [List.length_append, List.length_singleton, hl, List.take_add_one, hkd, Option.toList_some]
    rw [hl] at dk
    rw [ed] at dn3
    exact (dk.gr s3).app (.one dn3)
  · rintro kvs H' hl ⟨G', pG, dk⟩
    rw [List.take_of_length_le (by rw [hkl, hl, vl]; exact Nat.le_refl _)] at dk
    exact ⟨G', kds, pG.sub, dk, so⟩
  · rintro kvs H' p ys ⟨G', pG, _⟩ hp0 pm
    obtain ⟨es, pe, dne⟩ := dns_perm pm rp
    have p3 : Post G1 H2 G1 H' := by
      refine ⟨fun b o q => ?_, fun b o q => ?_, pG.tb⟩
      · exact pG.sub b o (pG.same R2p.sub b o (s2 b o q))
      · obtain ⟨o', e1, _, e3⟩ := pG.fr b o q
        exact ⟨o', e1, rfl, e3⟩
    exact k p ys es G1 _ ρ1 s1 ((R2.grow p3).newX hp0 noT_lst) dne (hΦ es pe)
theorem fe_sortKey {c P : Addr} {i k : Nat} {a : Str} {params : Arguments} {scope : Scope} {lpos p pos kp : Pos} (ha : DE X e te we) (hm : X.mg "sorted" = none) (TB : TabB X.base X.mg c P) (hcode : X.env.code = .ref c) (hq : X.env.qual ++ "<lambda>" = lamQ)
    (hr : Room (k + 3) X.A) (L : LamS1 X.env.scope scope a) (hN : X.N.Nodup) (hi : X.N[i]? = some a) (hdef : defaultsOf params X.env = ([], []))
    (hbind : ∀ (q : Str) (cl : List (Str × Addr)) (pm cv ctv u : Value), bindArgs (PySem.W.kla_fn "<lambda>" q params body scope cl pm cv ctv) ⟨[u], []⟩ = pure [(a, u)])
    (hbody : ∀ (s : Shared) (H : Hp) (f c' : Addr), Room k (X.A.in1.in1.deeper (lamEnv X scope s.heap.objs.size f c')) → DE (lam1Cx X X.A.in1.in1 s H scope f c') body tb wb)
    (hg : Gl X "sorted" := by rfl) (hs1 : starEach [e] X.env = (false, eval e X.env) :: starEach [] X.env := by rfl)
    (he : backTo pos (starEach [e] X.env) = (false, eval e X.env) :: backTo pos (starEach [] X.env) := by rfl) (hpl : (backTo pos (starEach [e] X.env)).any (·.1) = false := by rfl) :
    FE X (.Call (.Name "sorted" p) [e] [⟨some "key", .Lambda params body scope lpos, kp⟩] pos) (tSortKey X.K P i te tb) (wSortKey P i we wb) :=
  ⟨pe_sortKey ha.pe hm TB hcode hq hr L hN hi hdef hbind (fun s H f c' hr2 => (hbody s H f c' hr2).pe) hg hs1 he hpl, rd_sortKey ha.rd (hbody {} (fun _ => none) 0 0 (hr.in1.in1.deeper _)).rd⟩
end
/-! ### contracts with the table -/
/-- a def that makes data of data and needs the lambda's table at P -/
def spT (P : Addr) (n : Nat) (W : List Dt → (Dt → Prop) → Prop) : Sp := fun vs H Q _ => vs.length = n ∧ ∃ G ds Φ, Same G H ∧ TabL H P lamQ ∧ G P = none ∧ Dns G vs ds ∧ W ds Φ ∧ ∀ v d G' H', Post G H G' H' → Dn G' v d → Φ d → Q v H'
/-- .. and draws -/
def startT (P : Addr) (n : Nat) (ds : List Dt) : Ev := ds.map Sl.da ++ List.replicate (n - ds.length) (.tb P lamQ)
theorem rep_startT {G H : Hp} {vs : List V} {ds : List Dt} {N : List Str} {ex : List Addr} {P : Addr} (s : Same G H) (t : TabL H P lamQ) (g : G P = none) (h : Dns G vs ds) : Rep ⟨ex, G, H⟩ G H (L2.start N vs) (startT P N.length ds) [] := by
  refine ⟨s, fun a o e => ⟨o, e, rfl, fun _ _ => rfl⟩, fun _ _ t => t, ⟨List.replicate (startT P N.length ds).length [], by simp, fun i sl as h1 h2 => ?_, by simp, fun a ha => by simp at ha⟩, fun q hq => (by cases hq), ?_⟩
  · have e2 : as = [] := (List.mem_replicate.mp (List.mem_of_getElem? h2)).2
    subst e2
    unfold startT at h1
    by_cases c : i < ds.length
    · rw [List.getElem?_append_left (by simpa using c), List.getElem?_map, List.getElem?_eq_getElem c] at h1
      cases h1
      obtain ⟨v, e, dn⟩ := h.get (List.getElem?_eq_getElem c)
      refine ⟨rfl, v, ?_, dn⟩
      unfold L2.start
      rw [List.getElem?_append_left (by rw [List.length_map, h.len]; exact c), List.getElem?_map, e]
      rfl
    · rw [List.getElem?_append_right (by simpa using c)] at h1
      have := (List.mem_replicate.mp (List.mem_of_getElem? h1)).2
      rw [this]
      exact ⟨rfl, t, g⟩
  · unfold startT L2.start
    rw [List.length_append, List.length_append, List.length_map, List.length_map, List.length_replicate, List.length_replicate, h.len]
section
variable {P : Program} {w : World} {K : PySem.W.Frag} {mg : Str → Option Value} {base : Heap} {x : Str} {k n : Nat} {T : Addr}
theorem Con.impT {W W' : List Dt → (Dt → Prop) → Prop} (C : Con P w K mg base x k (spT T n W)) (h : ∀ ds Φ, W' ds Φ → W ds Φ) : Con P w K mg base x k (spT T n W') := by
  obtain ⟨f, fd, ps, h1, h2, h3, h4⟩ := C.ex
  exact ⟨f, fd, ps, h1, h2, h3, h4.imp fun vs H Q E ⟨hl, G, ds, Φ, a, t, g, b, c, d⟩ => ⟨hl, G, ds, Φ, a, t, g, b, h _ _ c, d⟩⟩
variable {params : Arguments} {body : List Stmt} {scope : Scope} {f : Addr} {fd : FuncData} {N ps : List Str}
theorem con_ofT {W : List Dt → (Dt → Prop) → Prop} (F : FunD K x x params body scope [] [] f fd) (hm : mg x = some (.ref f)) (S : FnScope N ps scope) (hps : ps.length = n)
    (bd : ∀ (kV doc pm : Value) (an : Option Addr) (cdv ct : Value) (us : List Value), us.length = ps.length → bindArgs (PySem.W.fnOf x x params body scope .none kV doc pm an cdv ct) ⟨us, []⟩ = pure (ps.zip us))
    (hbody : ∀ (cdv : Value) (A : Around) (outer : List Env) (s : Shared) (H : Hp) (E : XK), fd.code = cdv → (∃ c, cdv = .ref c) → Room k (A.deeper (envOfC x scope s.heap.objs.size f cdv)) →
      ∃ t z, DSs (cxOf CX0 P w K mg base N x scope f cdv A outer s H E).nox body t z ∧ ∀ ds Φ, ds.length = n → W ds Φ → z { nx := fun _ => Φ .none, rt := fun d _ => Φ d } (startT T N.length ds)) :
    Con P w K mg base x (k + 1) (spT T n W) := by
  have Fx := F.ex
  have bn := F.bindsN bd
  obtain ⟨oc, od, dV, kV, doc, pm, an, cdv, ct, osl, e0, lk, hcd, _, _⟩ := Fx
  refine ⟨f, fd, ps, hm, F.kp, bn, ?_⟩
  subst e0
  refine fn_of lk hcd S (fun vs H Q E h => h.1.trans hps.symm) fun A outer s H vs Q E hr ⟨hl, G, ds, Φ, sg, tt, gP, dn, hW, q⟩ => ?_
  obtain ⟨t, z, hz, hw⟩ := hbody cdv A outer s H E rfl (He.codeIn_ref hcd) hr
  refine ⟨t, hz.ps.nox, hz.rd ⟨[], G, H⟩ G H _ _ _ _ (rep_startT sg tt gP dn) (hw ds Φ (by rw [← dn.len]; exact hl) hW) (fun G' H' σ' ρ' s' R' h' => ?_) fun v d G' H' σ' ρ' s' R' dn' h' => ?_⟩
  · exact q .non .none G' H' ⟨R'.sub, fun a o e => let ⟨o', e1, e2, e3⟩ := R'.fr a o e; ⟨o', e1, e2, fun nt => e3 nt (by simp)⟩, R'.tb⟩ .non h'
  · exact q v d G' H' ⟨R'.sub, fun a o e => let ⟨o', e1, e2, e3⟩ := R'.fr a o e; ⟨o', e1, e2, fun nt => e3 nt (by simp)⟩, R'.tb⟩ dn' h'
end
section
variable {X : Cx} {e : Expr} {es : List Expr} {t : TA} {w : WA} {x : Str} {k n : Nat} {p pos : Pos} {T : Addr}
def wCallT (T : Addr) (W : List Dt → (Dt → Prop) → Prop) (w : WA) : WE := fun ρ Φ => w ρ fun ds ρ1 => (∃ j : Nat, ρ1[j]? = some (Sl.tb T lamQ)) ∧ W ds fun d => Φ d ρ1
theorem rd_callT {W : List Dt → (Dt → Prop) → Prop} {m : Nat} (h : RdA m t w) (hm : m = n) : RdE (tCall (spT T n W) [] E0 t) (wCallT T W w) := fun B G H σ ρ xs Φ Q R q kk => by
  refine h B G H σ ρ xs _ _ R q fun vs ds G1 H1 ρ1 s1 R1 d1 hl ⟨⟨j, hj⟩, h1⟩ => ?_
  rw [List.append_nil]
  obtain ⟨tt, gP⟩ := R1.tbAt hj
  exact ⟨by rw [d1.len, hl, hm], G1, ds, _, R1.sub, tt, gP, d1, h1, fun v d G2 H2 p dn q2 => kk v d G2 H2 ρ1 (s1.trans (p.same R1.sub)) (R1.grow p) dn q2⟩
theorem de_callT {W : List Dt → (Dt → Prop) → Prop} (C : Con X.prog X.w X.K X.mg X.base x k (spT T n W)) (hr : Room k X.A) (ha : DA X (e :: es) t w) (hg : Gl X x := by rfl) (hn : (e :: es).length = n := by rfl)
    (hdb : (x == ("__debug__" : Str)) = false := by decide) (he : starEach (e :: es) X.env = (false, eval e X.env) :: starEach es X.env := by rfl) (hpl : (backTo pos (starEach es X.env)).any (·.1) = false := by rfl) :
    DE X (.Call (.Name x p) (e :: es) [] pos) (tCall (spT T n W) [] E0 t) (wCallT T W w) := by
  obtain ⟨f, fd, ps, h1, h2, h3, h4⟩ := C.ex
  exact ⟨pe_call h4 hr hg h1 h2 h3 .nil pass0 ha.pa hdb he hpl, rd_callT ha.rd hn⟩
end
end MP
-- DK1
/-! The deck is made. -/
namespace MP
open PySem PySem.Spec PyProof.Rows L2 LamX MH
def spD (K : PySem.W.Frag) : Sp := fun vs H Q _ => ∃ (a : Addr) (ns : List Int), vs = [.ref a] ∧ SqL K H a (ns.map V.int) ∧
  ∀ a' b' H', (∀ b o, H b = some o → H' b = some o) → H a' = none → H b' = none → DeckAt H' a' b' 1000000 → Q (.ref a') H'
theorem cut63 (ns : List Int) : ∃ ms : List Int, cutV (ns.map V.int) none (some 63) = ms.map V.int ∧ ms.length ≤ 63 := by
  refine ⟨(ns.drop (HT.sIx (ns.map V.int).length 0 none)).take (HT.sIx (ns.map V.int).length (ns.map V.int).length (some 63) - HT.sIx (ns.map V.int).length 0 none), ?_, ?_⟩
  · unfold cutV
    rw [List.map_take, List.map_drop]
  · rw [List.length_take]
    refine Nat.le_trans (Nat.min_le_left _ _) (Nat.le_trans (Nat.sub_le _ _) ?_)
    rw [show HT.sIx (ns.map V.int).length (ns.map V.int).length (some 63) = min 63 (ns.map V.int).length from HT.sIx_nat _ _ 63]
    exact Nat.min_le_left _ _
section
variable {P : Program} {w : World} {K : PySem.W.Frag} {mg : Str → Option Value} {base : Heap}
theorem sc__law_deck : FnScope ["_law_script", "_law_cell"] ["_law_script"] (defScope (top 70)) := ⟨rfl, rfl, rfl, by decide +kernel, rfl, by decide +kernel, by decide +kernel⟩
theorem c_deck (W : Wd K mg) : Con P w K mg base "_law_deck" 1 (spD K) := by
  obtain ⟨f, fd, hm, F⟩ := W.at_ 28 (x := "_law_deck") (j := 70)
  refine ⟨f, fd, _, hm, F.kp, F.bindsN (ps := ["_law_script"]) (fun _ _ _ _ _ _ us hl => match us, hl with | [_], _ => rfl), F.ok sc__law_deck (fun vs H Q E ⟨_, _, h, _⟩ => by rw [h]; rfl) fun cdv A outer s H vs Q E hr ⟨a, ns, ev, hs, q⟩ => ?_⟩
  subst ev
  refine ⟨_, (DSs.ps
(dss_one (ds_ret (fe_lst (da_cons (fe_lc (own := [("_law_cell", 1)]) rfl sc__law_deck.nd (di_list (fe_slL (dv 0) do_none (do_some de_int)).de) (blkOk_by (own := [("_law_cell", 1)]) (N := ["_law_script", "_law_cell"]) (sc := defScope (top 70)) (by decide +kernel)) (fun _ _ _ _ _ => (dg_name (i := 1) sc__law_deck.nd)) (fun _ _ _ _ _ => dts_nil) (fun _ _ _ _ _ => (de_callB call_abs rd_abs (by rfl) W.z_abs boot_abs (da_cons (dv 1) da_nil)))).de (da_cons de_int da_nil))).de))
    ).nox, ?_⟩
  obtain ⟨ms, em, lm⟩ := cut63 ns
  refine ⟨.ref a, rfl, 63, rfl, a, ns.map V.int, rfl, hs, fun p hp => ?_⟩
  refine ⟨p, rfl, ⟨_, .inl (.of upd_same)⟩, fun D hD => ?_⟩
  rw [em]
  have H1p : upd H p (.lst (ms.map V.int)) p = some (.lst (ms.map V.int)) := upd_same
  have npD : p ≠ D := by
    rintro rfl
    rw [upd_same] at hD
    cases hD
  have HD : H D = none := by
    rw [upd_ne (Ne.symm npD)] at hD
    exact hD
  refine lc_it (walk_list (xs := ms.map V.int)) (fun i H' => ∃ acc : List Int, H' = upd (upd H p (.lst (ms.map V.int))) D (.lst (acc.map V.int)) ∧ acc.length = i ∧ ∀ c ∈ acc, 0 ≤ c)
    ⟨[], rfl, rfl, fun c hc => by cases hc⟩ (fun i H' _ ⟨acc, e, _⟩ => .inl (.of (by rw [e, upd_ne npD]; exact H1p))) ?_ ?_
  · rintro i x H' H2 hi ⟨acc, e, hl, hp0⟩ ⟨e2, hx⟩
    subst e2
    have hi2 : i < ms.length := by simpa using hi
    rw [List.getElem?_map, List.getElem?_eq_getElem hi2] at hx
    cases hx
    refine ⟨rfl, ?_⟩
    refine ⟨.int ms[i], ?_, ms[i], rfl, acc.map V.int, ?_, ?_, acc ++ [if ms[i] < 0 then -ms[i] else ms[i]], ?_, ?_, ?_⟩
    · rfl
    · rw [e, upd_same]
    · rw [List.length_map, hl, sizeLine_eq]; omega
    · rw [e, List.map_append]
      funext b
      unfold upd
      split <;> rfl
    · rw [List.length_append, hl, List.length_singleton]
    · intro c hc
      rcases List.mem_append.mp hc with hc | hc
      · exact hp0 c hc
      · rw [List.mem_singleton.mp hc]
        split <;> omega
  · rintro H' ⟨acc, e, hl, hp0⟩
    refine ⟨by show (2 : Nat) ≤ sizeLine; rw [sizeLine_eq]; decide, fun r hr => ?_⟩
    have hl2 : acc.length ≤ 63 := by
      rw [hl, List.length_map]
      exact lm
    have rD : r ≠ D := by
      rintro rfl
      rw [e, upd_same] at hr
      cases hr
    have rp : r ≠ p := by
      rintro rfl
      rw [e, upd_ne npD, upd_same] at hr
      cases hr
    have Hr : H r = none := by
      rw [e, upd_ne rD, upd_ne rp] at hr
      exact hr
    refine q r D _ (fun b o hb => ?_) Hr HD ⟨rD, 0, acc, upd_same, ?_, hl2, hp0, by decide, by decide⟩
    · rw [upd_ne (ne_of_none hb Hr), e, upd_ne (ne_of_none hb HD), upd_ne (ne_of_none hb hp)]
      exact hb
    · rw [upd_ne (Ne.symm rD), e, upd_same]
end
end MP
-- DK2
/-! A draw from the deck. -/
namespace MP
open PySem PySem.Spec PyProof.Rows L2 LamX MH
section
variable {P : Program} {w : World} {K : PySem.W.Frag} {mg : Str → Option Value} {base : Heap}
theorem sc__law_draw : FnScope ["_law_deck_here", "_law_many", "_law_cell", "_law_place"] ["_law_deck_here", "_law_many"] (defScope (top 71)) := ⟨rfl, rfl, rfl, by decide +kernel, rfl, by decide +kernel, by decide +kernel⟩
theorem c_draw (W : Wd K mg) : Con P w K mg base "_law_draw" 1 (spK 1 fun m ds Φ => 1 ≤ m ∧ ∃ n : Int, ds = [.int n] ∧ 0 < n ∧ n ≤ 1000 ∧ ∀ v : Int, 0 ≤ v → v < n → Φ (m - 1) (.int v)) := by
  obtain ⟨f, fd, hm, F⟩ := W.at_ 29 (x := "_law_draw") (j := 71)
  refine ⟨f, fd, _, hm, F.kp, F.bindsN (ps := ["_law_deck_here", "_law_many"]) (fun _ _ _ _ _ _ us hl => match us, hl with | [_, _], _ => rfl), F.ok sc__law_draw (fun vs H Q E h => h.1) fun cdv A outer s H vs Q E hr ⟨hl, G, a, b, m, vs', ds, Φ, ev, sg, hd, ga, gb, dn, ⟨m1, n, ed, n0, n1, hΦ⟩, q⟩ => ?_⟩
  subst ev ed
  cases dn with
  | cons dn1 dn2 =>
  cases dn2
  cases dn1
  refine ⟨_, (pss_cons (ps_asg (de_op op_add rd_rI0 (de_ix (dv 0) de_int) de_int).pe (pg_sub (dv 0).pe de_int.pe set_list (by intro _; rfl)) (by rfl) (by rfl) (by rfl))
    (pss_cons (ds_set (i := 2) de_int sc__law_draw.nd).ps
    (pss_cons (ds_set (i := 3) (de_neg de_int) sc__law_draw.nd).ps
    (pss_cons (ps_if (dt_cmp op_gt rd_rB0 (de_callB call_len rd_len (by rfl) W.z_len boot_len (da_cons (de_ix (dv 0) de_int) da_nil)) de_int).pt
        (pss_cons (ds_set (i := 3) (de_op op_mod rd_rI (de_ix (dv 0) de_int) (de_callB call_len rd_len (by rfl) W.z_len boot_len (da_cons (de_ix (dv 0) de_int) da_nil))) sc__law_draw.nd).ps
          (pss_one (ds_set (i := 2) (de_ix (de_ix (dv 0) de_int) (dv 3)) sc__law_draw.nd).ps)) pss_nil)
    (pss_cons (ps_if (dt_cmp op_ge rd_rB0 (dv 2) (de_op op_pow rd_rI de_int de_int)).pt
        (pss_cons (ps_asg (de_op op_fdiv rd_rI (dv 2) (dv 1)).pe (pg_sub (de_ix (dv 0) de_int).pe (dv 3).pe set_list (by intro _; rfl)) (by rfl) (by rfl) (by rfl))
          (pss_one (ds_ret (de_op op_mod rd_rI (dv 2) (dv 1))).ps)) pss_nil)
      (pss_one (ds_ret (de_op op_mod rd_rI (de_op op_mod rd_rI (de_op op_pow rd_rI (de_op op_add rd_rI0 (de_op op_add rd_rI0 (de_op op_mod rd_rI (dv 2) de_int) (de_op op_mul rd_rI de_int (de_ix (dv 0) de_int))) de_int) de_int) de_int) (dv 1))).ps)))))).nox, ?_⟩
  obtain ⟨ne, k, cs, ha, hb, cl, c0, k0, k1⟩ := hd
  have Ha : upd H a (.lst [V.ref b, V.int (k + 1)]) a = some (.lst [.ref b, .int (k + 1)]) := upd_same
  have Hb : upd H a (.lst [V.ref b, V.int (k + 1)]) b = some (.lst (cs.map V.int)) := by
    rw [upd_ne (Ne.symm ne)]
    exact hb
  have keepG : ∀ {c : Addr} {u o : HO}, G c = none → G a = none → Same G (upd H c u) → True := fun _ _ _ => trivial
  have post : ∀ H2 : Hp, (∀ c, c ≠ a → c ≠ b → H2 c = H c) → (∃ xs, H2 a = some (.lst xs)) → (∃ xs, H2 b = some (.lst xs)) → PostK a b G H G H2 := fun H2 e ea eb => by
    refine ⟨fun c o hc => ?_, fun c o hc => ?_, fun P q t => ?_⟩
    · have h1 : c ≠ a := fun z => by rw [z, ga] at hc; cases hc
      have h2 : c ≠ b := fun z => by rw [z, gb] at hc; cases hc
      rw [e c h1 h2]
      exact sg c o hc
    · by_cases h1 : c = a
      · obtain ⟨xs, e1⟩ := ea
        exact ⟨_, by rw [h1]; exact e1, rfl, fun _ h => absurd h1 h⟩
      · by_cases h2 : c = b
        · obtain ⟨xs, e1⟩ := eb
          exact ⟨_, by rw [h2]; exact e1, rfl, fun _ _ h => absurd h2 h⟩
        · exact ⟨o, by rw [e c h1 h2]; exact hc, rfl, fun _ _ _ => rfl⟩
    · have n1 := t.ne ha noT_lst
      have n2 := t.ne hb noT_lst
      obtain ⟨eq, ps, e1, e2, e3⟩ := t
      refine ⟨eq, ps, by rw [e P n1 n2]; exact e1, e2, fun pos cv hc => ?_⟩
      obtain ⟨c, e4, e5⟩ := e3 pos cv hc
      have cn : ∀ {d : Addr} {xs : List V}, H d = some (.lst xs) → c ≠ d := fun {d xs} hd z => by
        rw [z, hd] at e5
        have := Option.some.inj e5
        unfold CodeO at this
        cases this
      exact ⟨c, e4, by rw [e c (cn ha) (cn hb)]; exact e5⟩
  have fin : ∀ (v : Int) (cs' : List Int) (H2 : Hp), (∀ c, c ≠ a → c ≠ b → H2 c = H c) → H2 a = some (.lst [.ref b, .int (k + 1)]) → H2 b = some (.lst (cs'.map V.int)) → cs'.length ≤ 63 → (∀ c ∈ cs', 0 ≤ c) → 0 ≤ v → v < n → Q (.int v) H2 := fun v cs' H2 e ea eb l2 c2 v0 v1 =>
    q (.int v) (.int v) G H2 b (m - 1) (post H2 e ⟨_, ea⟩ ⟨_, eb⟩) ⟨ne, k + 1, cs', ea, eb, l2, c2, by omega, by omega⟩ (.inl rfl) ga gb (.int v) (hΦ v v0 v1)
  have ixA : ∀ {H' : Hp} {k' : Int} {Q' : VK}, H' a = some (.lst [.ref b, .int k']) → Q' (.int k') H' → rIx K (.ref a) (.int 1) H' Q' := fun h q => .inl ⟨a, _, 1, _, rfl, rfl, .inl (.of h), rfl, q⟩
  have ixB : ∀ {H' : Hp} {k' : Int} {Q' : VK}, H' a = some (.lst [.ref b, .int k']) → Q' (.ref b) H' → rIx K (.ref a) (.int 0) H' Q' := fun h q => .inl ⟨a, _, 0, _, rfl, rfl, .inl (.of h), rfl, q⟩
  have len : ∀ {H' : Hp} {xs : List V}, H' b = some (.lst xs) → LenV K (.ref b) H' xs.length := fun {H' xs} h => .inl ⟨xs, .inl (.of h), rfl⟩
  have cl' : (cs.map V.int).length = cs.length := List.length_map ..
  refine ⟨.ref a, rfl, ixA ha ?_⟩
  refine ⟨k, 1, rfl, rfl, ?_⟩
  refine ⟨.ref a, rfl, a, _, 1, 1, rfl, rfl, ha, rfl, ?_⟩
  refine ⟨1, rfl, ?_⟩
  refine ⟨.ref a, rfl, ixB Ha ?_⟩
  refine ⟨.ref b, _, rfl, len Hb, ?_⟩
  refine ⟨_, _, rfl, rfl, _, rfl, ?_⟩
  -- the last row: no deep cell
  have fin2 : ∀ (c : Int) (r : Int), r = (c % 2147483587 + 7919 * (k + 1) + 1) ^ 5 % 2147483647 % n → 0 ≤ r ∧ r < n := fun c r e => by
    rw [e]
    exact ⟨Int.emod_nonneg _ (by omega), Int.emod_lt_of_pos _ n0⟩
  have m3 : ∀ c : Int, 0 ≤ c % 2147483587 ∧ c % 2147483587 < 2147483587 := fun c => ⟨Int.emod_nonneg _ (by decide), Int.emod_lt_of_pos _ (by decide)⟩
  have pw : ∀ c : Int, CPow (c % 2147483587 + 7919 * (k + 1) + 1) 5 := fun c => by
    have := m3 c
    refine ⟨by decide, by decide, ?_⟩
    omega
  cases hz : decide ((0 : Int) < ((cs.map V.int).length : Nat)) with
  | false =>
    refine iteF ?_
    refine ⟨.int 0, rfl, ?_⟩
    refine ⟨10, 18, rfl, rfl, ⟨by decide, by decide, by decide⟩, ?_⟩
    refine ⟨0, _, rfl, rfl, false, ?_, ?_⟩
    · show V.bl (decide ((10 : Int) ^ 18 ≤ 0)) = V.bl false
      rfl
    · refine iteF ?_
      refine ⟨.int 0, rfl, ?_⟩
      refine ⟨0, 2147483587, rfl, rfl, (by show (0 : Int) < _; decide), ?_⟩
      refine ⟨.ref a, rfl, ixA Ha ?_⟩
      refine ⟨7919, k + 1, rfl, rfl, .inl ⟨by decide, by decide⟩, ?_⟩
      refine ⟨_, _, rfl, rfl, ?_⟩
      refine ⟨_, 1, rfl, rfl, ?_⟩
      refine ⟨_, 5, rfl, rfl, pw 0, ?_⟩
      refine ⟨_, 2147483647, rfl, rfl, (by show (0 : Int) < _; decide), ?_⟩
      refine ⟨.int n, rfl, ?_⟩
      refine ⟨_, n, rfl, rfl, n0, ?_⟩
      exact fin _ cs _ (fun c h1 _ => upd_ne h1) Ha Hb cl c0 (fin2 0 _ rfl).1 (fin2 0 _ rfl).2
  | true =>
    refine iteT ?_
    have L0 : (0 : Int) < ((cs.map V.int).length : Nat) := of_decide_eq_true hz
    have p0 : 0 ≤ (k + 1) % (((cs.map V.int).length : Nat) : Int) := Int.emod_nonneg _ (by omega)
    have p1 : (k + 1) % (((cs.map V.int).length : Nat) : Int) < ((cs.map V.int).length : Nat) := Int.emod_lt_of_pos _ L0
    refine ⟨.ref a, rfl, ixA Ha ?_⟩
    refine ⟨.ref a, rfl, ixB Ha ?_⟩
    refine ⟨.ref b, _, rfl, len Hb, ?_⟩
    refine ⟨k + 1, _, rfl, rfl, L0, ?_⟩
    refine ⟨.ref a, rfl, ixB Ha ?_⟩
    refine ⟨.int ((k + 1) % (((cs.map V.int).length : Nat) : Int)), rfl, ?_⟩
    obtain ⟨j, hj, hix⟩ : ∃ j, j < cs.length ∧ ixN (cs.map V.int).length ((k + 1) % (((cs.map V.int).length : Nat) : Int)) = some j := by
      refine ⟨((k + 1) % (((cs.map V.int).length : Nat) : Int)).toNat, by omega, ?_⟩
      unfold ixN
      rw [if_pos p0, if_pos p1]
    have hat : atI (cs.map V.int) ((k + 1) % (((cs.map V.int).length : Nat) : Int)) = some (V.int cs[j]) := by
      unfold atI
      rw [hix]
      show (cs.map V.int)[j]? = _
      rw [List.getElem?_map, List.getElem?_eq_getElem hj]
      rfl
    refine .inl ⟨b, _, _, _, rfl, rfl, .inl (.of Hb), hat, ?_⟩
    have cj0 : 0 ≤ cs[j] := c0 _ (List.getElem_mem hj)
    generalize hcj : cs[j] = cj at cj0 hat ⊢
    refine ⟨.int cj, rfl, ?_⟩
    refine ⟨10, 18, rfl, rfl, ⟨by decide, by decide, by decide⟩, ?_⟩
    refine ⟨cj, _, rfl, rfl, _, rfl, ?_⟩
    cases hd : decide (((10 : Int) ^ (18 : Int).toNat) ≤ cj) with
    | true =>
      refine iteT ?_
      refine ⟨.int cj, rfl, ?_⟩
      refine ⟨.int n, rfl, ?_⟩
      refine ⟨cj, n, rfl, rfl, ⟨n0, by omega⟩, ?_⟩
      refine ⟨.ref a, rfl, ixB Ha ?_⟩
      refine ⟨.int _, rfl, ?_⟩
      refine ⟨b, _, _, j, rfl, rfl, Hb, hix, ?_⟩
      refine ⟨.int cj, rfl, ?_⟩
      refine ⟨.int n, rfl, ?_⟩
      refine ⟨cj, n, rfl, rfl, n0, ?_⟩
      refine fin _ (cs.set j (cj / n)) _ (fun c h1 h2 => ?_) ?_ ?_ ?_ ?_ (Int.emod_nonneg _ (by omega)) (Int.emod_lt_of_pos _ n0)
      · rw [upd_ne h2]
        exact upd_ne h1
      · rw [upd_ne ne]
        exact Ha
      · rw [upd_same, List.map_set]
      · rw [List.length_set]
        exact cl
      · intro c hc
        rcases List.mem_or_eq_of_mem_set hc with h | h
        · exact c0 c h
        · rw [h]
          exact Int.ediv_nonneg cj0 (by omega)
    | false =>
      refine iteF ?_
      refine ⟨.int cj, rfl, ?_⟩
      refine ⟨cj, 2147483587, rfl, rfl, (by show (0 : Int) < _; decide), ?_⟩
      refine ⟨.ref a, rfl, ixA Ha ?_⟩
      refine ⟨7919, k + 1, rfl, rfl, .inl ⟨by decide, by decide⟩, ?_⟩
      refine ⟨_, _, rfl, rfl, ?_⟩
      refine ⟨_, 1, rfl, rfl, ?_⟩
      refine ⟨_, 5, rfl, rfl, pw cj, ?_⟩
      refine ⟨_, 2147483647, rfl, rfl, (by show (0 : Int) < _; decide), ?_⟩
      refine ⟨.int n, rfl, ?_⟩
      refine ⟨_, n, rfl, rfl, n0, ?_⟩
      exact fin _ cs _ (fun c h1 _ => upd_ne h1) Ha Hb cl c0 (fin2 cj _ rfl).1 (fin2 cj _ rfl).2
end
end MP
-- PL0
/-! Plans: what the program's defs make of them, in plain Lean; an item of the frame's own list. -/
namespace MP
open PySem PySem.Spec PyProof.Rows L2 LamX
/-! ### x[k], x the frame's own list -/
section
variable {X : Cx} {e : Expr} {te : TE} {we : WE} {pos : Pos}
def wIxO (i : Nat) (wi : WE) : WE := fun ρ Φ => (∃ ds, ρ[i]? = some (.ow ds)) ∧ wi ρ fun k ρ1 => ∃ ds d, ρ1[i]? = some (.ow ds) ∧ ixD (.list ds) k = some d ∧ Φ d ρ1
theorem de_ixO {i : Nat} {x : Str} {px : Pos} (g : DE X e te we) (hN : X.N[i]? = some x := by rfl) (hv : Vis X.env.scope x := by first | exact Or.inl rfl | exact Or.inr (Or.inl rfl) | exact Or.inr (Or.inr rfl))
    (hd : (x == ("__debug__" : Str)) = false := by decide) (hcd : (x == ("__classdict__" : Str)) = false := by decide) (hs : PlainIx e := by exact fun _ _ => rfl) :
    DE X (.Subscript (.Name x px) e pos) (tOp (rIx X.K) (tVar i) te) (wIxO i we) := by
  refine ⟨pe_ix ix_seq (pe_var hN hv hd hcd) g.pe hs, fun B G H σ ρ xs Φ Q R ⟨⟨ds0, e0⟩, q⟩ k => ?_⟩
  obtain ⟨l, vs0, hl, _, _⟩ := R.owAt e0
  refine ⟨.ref l, hl, ?_⟩
  refine g.rd B G H σ ρ xs _ _ R q fun u d G1 H1 ρ1 s1 R1 d1 ⟨ds, r, e1, ei, h1⟩ => ?_
  obtain ⟨l1, vs1, hl1, hu1, r1⟩ := R1.owAt e1
  rw [hl] at hl1
  cases hl1
  have key : ∃ j, d = .int j := by cases d <;> first | exact ⟨_, rfl⟩ | (simp [ixD] at ei; done)
  obtain ⟨j, rfl⟩ := key
  cases d1
  have ei : atI ds j = some r := ei
  unfold atI at ei
  cases q2 : ixN ds.length j with
  | none => rw [q2] at ei; cases ei
  | some n =>
    rw [q2] at ei
    have ei : ds[n]? = some r := ei
    obtain ⟨v, ev, dv⟩ := r1.get ei
    refine .inl ⟨l, vs1, j, v, rfl, rfl, SqL.of hu1, ?_, k v r G1 H1 ρ1 s1 R1 dv h1⟩
    unfold atI
    rw [r1.len, q2]
    exact ev
end
/-! ### patterns -/
mutual
def Pat.marks : Pat → List Str
  | .sign _ => []
  | .row ps => marksL ps
  | .any ps => marksL ps
  | .rep _ _ p => p.marks
  | .mark n p => p.marks ++ [n]
def marksL : List Pat → List Str
  | [] => []
  | p :: ps => p.marks ++ marksL ps
end
def Pat.parts : Pat → List Pat
  | .sign _ => []
  | .row ps => ps
  | .any ps => ps
  | .rep _ _ p => [p]
  | .mark _ p => [p]
/-- texts of few signs -/
def sOk (x : Str) : Prop := x.length ≤ 100 ∧ PyData.strOk x = true
/-- the patterns that the law makes: at most d levels, marks among N -/
def pok (N : List Str) : Nat → Pat → Prop
  | 0, _ => False
  | d + 1, p => p.marks.length ≤ 1000 ∧ match p with
    | .sign s => sOk s
    | .row ps => ps.length ≤ 1000 ∧ ∀ q ∈ ps, pok N d q
    | .any ps => ps.length ≤ 1000 ∧ ∀ q ∈ ps, pok N d q
    | .rep lo hi q => (lo = 0 ∨ lo = 1) ∧ ((hi = none ∧ q.marks = []) ∨ hi = some 1) ∧ pok N d q
    | .mark n q => n ∈ N ∧ pok N d q
theorem encs_eq : ∀ ps : List Pat, encs ps = ps.map Pat.enc
  | [] => rfl
  | p :: ps => by rw [encs, encs_eq ps, List.map_cons]
theorem marksL_eq : ∀ ps : List Pat, marksL ps = (ps.map Pat.marks).flatten
  | [] => rfl
  | p :: ps => by rw [marksL, marksL_eq ps, List.map_cons, List.flatten_cons]
/-! ### plans -/
def Plan.names : Plan → List Str
  | .pat p => sset p.marks
  | .join a b => sset (a.names ++ b.names)
  | .either a b => sset (a.names ++ b.names)
  | .without a _ => a.names
  | .only ns _ => ns
  | .same _ _ a => a.names
def Plan.ok (N : List Str) : Plan → Prop
  | .pat p => pok N 12 p
  | .join a b => a.ok N ∧ b.ok N
  | .either a b => a.ok N ∧ b.ok N
  | .without a b => a.ok N ∧ b.ok N ∧ a.names = b.names
  | .only ns a => a.ok N ∧ Srt ns ∧ ∀ n ∈ ns, n ∈ a.names
  | .same x y a => a.ok N ∧ x ∈ a.names ∧ y ∈ a.names
def Plan.depth : Plan → Nat
  | .pat _ => 0
  | .join a b => max a.depth b.depth + 1
  | .either a b => max a.depth b.depth + 1
  | .without a b => max a.depth b.depth + 1
  | .only _ a => a.depth + 1
  | .same _ _ a => a.depth + 1
/-- the names that may stand in a plan: few, short -/
structure NOk (N : List Str) : Prop where
  few : N.length ≤ 4
  short : ∀ n ∈ N, sOk n
def pathsOf : Plan → List (List Nat)
  | .pat _ => [[]]
  | .join a b => [] :: ((pathsOf a).map (0 :: ·) ++ (pathsOf b).map (1 :: ·))
  | .either a b => [] :: ((pathsOf a).map (0 :: ·) ++ (pathsOf b).map (1 :: ·))
  | .without a b => [] :: ((pathsOf a).map (0 :: ·) ++ (pathsOf b).map (1 :: ·))
  | .only _ a => [] :: (pathsOf a).map (0 :: ·)
  | .same _ _ a => [] :: (pathsOf a).map (0 :: ·)
def atPath : Plan → List Nat → Option Plan
  | p, [] => some p
  | p, k :: r => match p.inner[k]? with
    | some q => atPath q r
    | none => none
def withInner : Plan → List Plan → Plan
  | .join _ _, [a, b] => .join a b
  | .either _ _, [a, b] => .either a b
  | .without _ _, [a, b] => .without a b
  | .only ns _, [a] => .only ns a
  | .same x y _, [a] => .same x y a
  | p, _ => p
def putAt : Plan → List Nat → Plan → Plan
  | _, [], o => o
  | p, k :: r, o => match p.inner[k]? with
    | some q => withInner p (p.inner.set k (putAt q r o))
    | none => p
def among (ns : List Str) (p : Plan) : List Str := ns.filter fun n => decide (n ∈ p.names)
def both (x y : Str) (p : Plan) : Bool := decide (x ∈ p.names) && decide (y ∈ p.names)
def shared (ns : List Str) (a b : Plan) : Bool := (a.names.filter fun n => decide (n ∈ b.names) && !decide (n ∈ ns)).isEmpty
def deed : Nat → Plan → Option Plan
  | 5, .only ns (.either a b) => some (.either (.only (among ns a) a) (.only (among ns b) b))
  | 6, .only ns (.only _ a) => some (.only ns a)
  | 7, .only ns a => if ns = a.names then some a else none
  | 12, .only ns (.join a b) => if shared ns a b = true then some (.join (.only (among ns a) a) (.only (among ns b) b)) else none
  | 14, .same x y (.either a b) => if (both x y a && both x y b) = true then some (.either (.same x y a) (.same x y b)) else none
  | 15, .same x y (.join a b) => if both x y a = true then some (.join (.same x y a) b) else none
  | 16, .same x y (.only ns a) => some (.only ns (.same x y a))
  | 17, .same x y (.without a b) => some (.without (.same x y a) b)
  | _, _ => none
def optE : Option Plan → Dt
  | some p => p.enc
  | none => .none
end MP
-- DS0
/-! The data layer's words, as rows for simp. -/
namespace MP
open PySem PySem.Spec PyProof.Rows L2
section
variable {ρ : Ev} {Φ : Dt → Ev → Prop} {Ψ : List Dt → Ev → Prop} {Θ : Bool → Ev → Prop} {D : DEnds} {φ : Dt → Prop} {a b : Dt} {we wa wb wc : WE} {u v : WT} {wA : WA} {i j : Nat} {d : Dt}
@[simp] theorem s_var : wVar i ρ Φ = ∃ d, ρ[i]? = some (.da d) ∧ Φ d ρ := rfl
@[simp] theorem s_c : wC d ρ Φ = Φ d ρ := rfl
@[simp] theorem s_w2 {f : F2} : w2 f wa wb ρ Φ = wa ρ fun x ρ1 => wb ρ1 fun y ρ2 => f x y fun d => Φ d ρ2 := rfl
@[simp] theorem s_w1 {f : F1} : w1 f wa ρ Φ = wa ρ fun x ρ1 => f x fun d => Φ d ρ1 := rfl
@[simp] theorem s_ar {f : List Dt → (Dt → Prop) → Prop} : wAr f wA ρ Φ = wA ρ fun xs ρ1 => f xs fun d => Φ d ρ1 := rfl
@[simp] theorem s_arF {f : List Dt → (List Dt → Prop) → Prop} : wArF f wA ρ Ψ = wA ρ fun xs ρ1 => f xs fun ds => Ψ ds ρ1 := rfl
@[simp] theorem s_w2F {f : Dt → Dt → (List Dt → Prop) → Prop} : w2F f wa wb ρ Ψ = wa ρ fun x ρ1 => wb ρ1 fun y ρ2 => f x y fun d => Ψ d ρ2 := rfl
@[simp] theorem s_test : wTest we ρ Θ = we ρ fun d ρ1 => ∃ k, d = .bool k ∧ Θ k ρ1 := rfl
@[simp] theorem s_chain {f g : F2} : wChain f g wa wb wc ρ Φ = wa ρ fun x ρ1 => wb ρ1 fun y ρ2 => f x y fun d => ∃ k, d = .bool k ∧ (if k = true then wc ρ2 fun z ρ3 => g y z fun d => Φ d ρ3 else Φ (.bool false) ρ2) := rfl
@[simp] theorem s_and : wAnd u v ρ Θ = u ρ fun k ρ1 => if k = true then v ρ1 Θ else Θ false ρ1 := rfl
@[simp] theorem s_or : wOr u v ρ Θ = u ρ fun k ρ1 => if k = true then Θ true ρ1 else v ρ1 Θ := rfl
@[simp] theorem s_not : wNot u ρ Θ = u ρ fun k ρ1 => Θ (!k) ρ1 := rfl
@[simp] theorem s_andV : wAndV wa wb ρ Φ = wa ρ fun d ρ1 => ∃ k, d = .bool k ∧ if k = true then wb ρ1 Φ else Φ (.bool false) ρ1 := rfl
@[simp] theorem s_orV : wOrV wa wb ρ Φ = wa ρ fun d ρ1 => ∃ k, d = .bool k ∧ if k = true then Φ (.bool true) ρ1 else wb ρ1 Φ := rfl
@[simp] theorem s_notV : wNotV wa ρ Φ = wa ρ fun d ρ1 => ∃ k, d = .bool k ∧ Φ (.bool (!k)) ρ1 := rfl
@[simp] theorem s_if : wIf u wa wb ρ Φ = u ρ fun k ρ1 => if k = true then wa ρ1 Φ else wb ρ1 Φ := rfl
@[simp] theorem s_nil : wNil ρ Ψ = Ψ [] ρ := rfl
@[simp] theorem s_cons : wCons we wA ρ Ψ = we ρ fun d ρ1 => wA ρ1 fun ds ρ2 => Ψ (d :: ds) ρ2 := rfl
@[simp] theorem s_pub : wPub wA ρ Φ = wA ρ fun ds ρ1 => Φ (.list ds) ρ1 := rfl
@[simp] theorem s_set : wSet i we D ρ = we ρ fun d ρ1 => D.nx (ρ1.set i (.da d)) := rfl
@[simp] theorem s_setO : wSetO i wA D ρ = wA ρ fun ds ρ1 => D.nx (ρ1.set i (.ow ds)) := rfl
@[simp] theorem s_par : wPar i j wa wb D ρ = wa ρ fun x ρ1 => wb ρ1 fun y ρ2 => D.nx ((ρ2.set i (.da x)).set j (.da y)) := rfl
@[simp] theorem s_call {W : List Dt → (Dt → Prop) → Prop} : wCall W wA ρ Φ = wA ρ fun ds ρ1 => W ds fun d => Φ d ρ1 := rfl
@[simp] theorem s_append : wAppend i we D ρ = ((∃ ds, ρ[i]? = some (.ow ds)) ∧ we ρ fun d ρ1 => ∃ ds, ρ1[i]? = some (.ow ds) ∧ ds.length < sizeLine ∧ D.nx (ρ1.set i (.ow (ds ++ [d])))) := rfl
@[simp] theorem s_extend : wExtend i wA D ρ = ((∃ ds, ρ[i]? = some (.ow ds)) ∧ wA ρ fun es ρ1 => ∃ ds, ρ1[i]? = some (.ow ds) ∧ ds.length + es.length ≤ sizeLine ∧ D.nx (ρ1.set i (.ow (ds ++ es)))) := rfl
@[simp] theorem s_iL : wiL we ρ Ψ = we ρ fun d ρ1 => ∃ ds, d = .list ds ∧ Ψ ds ρ1 := rfl
@[simp] theorem s_iT : wiT we ρ Ψ = we ρ fun d ρ1 => ∃ ds, d = .tuple ds ∧ Ψ ds ρ1 := rfl
@[simp] theorem s_iR : wiR we ρ Ψ = we ρ fun d ρ1 => ∃ j : Int, d = .int j ∧ 0 ≤ j ∧ j < 2 ^ 62 ∧ Ψ (rgD j.toNat) ρ1 := rfl
@[simp] theorem s_iE : wiEnumT we ρ Ψ = we ρ fun d ρ1 => ∃ ds, d = .tuple ds ∧ Ψ (enumD 0 ds) ρ1 := rfl
@[simp] theorem s_iZL : wiZipLL wa wb ρ Ψ = wa ρ fun d ρ1 => wb ρ1 fun d2 ρ2 => ∃ ds es, d = .list ds ∧ d2 = .list es ∧ Ψ (zipD ds es) ρ2 := rfl
@[simp] theorem s_iZT : wiZipLT wa wb ρ Ψ = wa ρ fun d ρ1 => wb ρ1 fun d2 ρ2 => ∃ ds es, d = .list ds ∧ d2 = .tuple es ∧ Ψ (zipD ds es) ρ2 := rfl
@[simp] theorem s_ixO : wIxO i we ρ Φ = ((∃ ds, ρ[i]? = some (.ow ds)) ∧ we ρ fun k ρ1 => ∃ ds d, ρ1[i]? = some (.ow ds) ∧ ixD (.list ds) k = some d ∧ Φ d ρ1) := rfl
@[simp] theorem s_setIx : wSetIx i wa wb D ρ = wa ρ fun d ρ1 => (∃ ds, ρ1[i]? = some (.ow ds)) ∧ wb ρ1 fun k ρ2 => ∃ ds j n, ρ2[i]? = some (.ow ds) ∧ k = .int j ∧ ixN ds.length j = some n ∧ D.nx (ρ2.set i (.ow (ds.set n d))) := rfl
@[simp] theorem s_star : wStar i j we D ρ = we ρ fun d ρ1 => ∃ x xs, d = .tuple (x :: xs) ∧ xs.length ≤ 10000 ∧ D.nx ((ρ1.set i (.da x)).set j (.da (.list xs))) := rfl
@[simp] theorem s_slT {wl wh : WO} : wSlT we wl wh ρ Φ = we ρ fun d ρ1 => wl ρ1 fun lo ρ2 => wh ρ2 fun hi ρ3 => ∃ ds, d = .tuple ds ∧ Φ (.tuple (cutD ds lo hi)) ρ3 := rfl
@[simp] theorem s_slL {wl wh : WO} : wSlL we wl wh ρ Ψ = we ρ fun d ρ1 => wl ρ1 fun lo ρ2 => wh ρ2 fun hi ρ3 => ∃ ds, d = .list ds ∧ Ψ (cutD ds lo hi) ρ3 := rfl
@[simp] theorem s_slS {wl wh : WO} : wSlS we wl wh ρ Φ = we ρ fun d ρ1 => wl ρ1 fun lo ρ2 => wh ρ2 fun hi ρ3 => ∃ z, d = .str z ∧ z.length ≤ sizeLine ∧ Φ (.str (cutS z lo hi)) ρ3 := rfl
@[simp] theorem s_setT : wSetT we ρ Ψ = we ρ fun d ρ1 => ∃ zs : List Str, (d = .list (stsD zs) ∨ d = .tuple (stsD zs)) ∧ zs.length < 4000 ∧ Ψ (stsD zs) ρ1 := rfl
@[simp] theorem s_sortT : wSortT wA ρ Ψ = wA ρ fun ds ρ1 => ∃ zs : List Str, ds = stsD zs ∧ zs.length < 4000 ∧ Ψ (stsD (sset zs)) ρ1 := rfl
@[simp] theorem f_ix : fIx a b φ = ∃ d, ixD a b = some d ∧ φ d := rfl
@[simp] theorem f_eq : fEq a b φ = (EqOk a b ∧ φ (.bool (PyData.eqv a b))) := rfl
@[simp] theorem f_ne : fNe a b φ = (EqOk a b ∧ φ (.bool (!PyData.eqv a b))) := rfl
@[simp] theorem f_in : fIn a b φ = (InOk a b ∧ φ (.bool (inD a b))) := rfl
@[simp] theorem f_nin : fNotIn a b φ = (InOk a b ∧ φ (.bool (!inD a b))) := rfl
@[simp] theorem f_is : fIs a b φ = (b = .none ∧ φ (.bool (isNoneD a))) := rfl
@[simp] theorem f_isn : fIsNot a b φ = (b = .none ∧ φ (.bool (!isNoneD a))) := rfl
@[simp] theorem f_I {C : Int → Int → Prop} {g : Int → Int → Dt} : fI C g a b φ = ∃ i j, a = .int i ∧ b = .int j ∧ C i j ∧ φ (g i j) := rfl
@[simp] theorem f_I0 {g : Int → Int → Dt} : fI0 g a b φ = ∃ i j, a = .int i ∧ b = .int j ∧ φ (g i j) := rfl
@[simp] theorem f_neg : fNeg a φ = ∃ i, a = .int i ∧ φ (.int (-i)) := rfl
@[simp] theorem f_addS : fAddS a b φ = ∃ x y, a = .str x ∧ b = .str y ∧ x.length + y.length ≤ sizeLine ∧ φ (.str (x ++ y)) := rfl
@[simp] theorem f_addT : fAddT a b φ = ∃ xs ys, a = .tuple xs ∧ b = .tuple ys ∧ xs.length + ys.length ≤ sizeLine ∧ φ (.tuple (xs ++ ys)) := rfl
@[simp] theorem f_addL {ψ : List Dt → Prop} : fAddL a b ψ = ∃ xs ys, a = .list xs ∧ b = .list ys ∧ xs.length + ys.length ≤ sizeLine ∧ ψ (xs ++ ys) := rfl
@[simp] theorem f_repL {ψ : List Dt → Prop} : fRepL a b ψ = ∃ xs j, a = .list xs ∧ b = .int j ∧ 0 ≤ j ∧ j ≤ 1000 ∧ xs.length ≤ 1000 ∧ ψ (List.replicate j.toNat xs).flatten := rfl
@[simp] theorem f_len {as : List Dt} : fLen as φ = ∃ d n, as = [d] ∧ lenD d = some n ∧ φ (.int n) := rfl
@[simp] theorem f_tuple {as : List Dt} : fTuple as φ = ∃ d ds, as = [d] ∧ itemsD d = some ds ∧ φ (.tuple ds) := rfl
@[simp] theorem f_list {as : List Dt} {ψ : List Dt → Prop} : fList as ψ = ∃ d ds, as = [d] ∧ itemsD d = some ds ∧ ψ ds := rfl
@[simp] theorem f_int {as : List Dt} : fInt as φ = ∃ d i, as = [d] ∧ toInt d = some i ∧ φ (.int i) := rfl
@[simp] theorem f_min {as : List Dt} : fMin2 as φ = ∃ i j, as = [.int i, .int j] ∧ φ (.int (if j < i then j else i)) := rfl
@[simp] theorem f_max {as : List Dt} : fMaxL as φ = ∃ ns : List Int, as = [.list (ns.map PyData.int)] ∧ 0 < ns.length ∧ ∀ m, m ∈ ns → (∀ y ∈ ns, y ≤ m) → φ (.int m) := rfl
@[simp] theorem f_sort {as : List Dt} {ψ : List Dt → Prop} : fSort as ψ = ∃ d ds, as = [d] ∧ itemsD d = some ds ∧ SortOk ds ∧ ds.length ≤ 100000 ∧ ψ (sortD ds) := rfl
@[simp] theorem f_inS : fInS a b φ = ∃ x y, a = .str x ∧ b = .str y ∧ φ (.bool (inS x y)) := rfl
end
/-! ### values -/
@[simp] theorem ok_str (x y : Str) : EqOk (.str x) (.str y) = True := eq_true (.inl rfl)
@[simp] theorem ok_int (x y : Int) : EqOk (.int x) (.int y) = True := eq_true (.inl rfl)
@[simp] theorem ok_nonI (y : Int) : EqOk .none (.int y) = True := eq_true (.inl rfl)
@[simp] theorem ok_Inon (y : Int) : EqOk (.int y) .none = True := eq_true (.inl rfl)
@[simp] theorem ok_sI (x : Str) (y : Int) : EqOk (.str x) (.int y) = True := eq_true (.inl rfl)
@[simp] theorem v_str (x y : Str) : PyData.eqv (.str x) (.str y) = (x == y) := by rw [PyData.eqv]
@[simp] theorem v_int (x y : Int) : PyData.eqv (.int x) (.int y) = (x == y) := by rw [PyData.eqv]
@[simp] theorem v_nonI (y : Int) : PyData.eqv .none (.int y) = false := by rw [PyData.eqv]
@[simp] theorem in_T (x : Str) (ys : List Dt) : inD (.str x) (.tuple ys) = ys.any fun z => PyData.eqv z (.str x) := rfl
@[simp] theorem inok_T (x : Str) (ys : List Dt) : InOk (.str x) (.tuple ys) = (ys.all flatD = true) := by
  unfold InOk
  simp [flatD]
@[simp] theorem flat_str (x : Str) : flatD (.str x) = true := rfl
@[simp] theorem ixT (ds : List Dt) (i : Int) : ixD (.tuple ds) (.int i) = atI ds i := rfl
@[simp] theorem ixL (ds : List Dt) (i : Int) : ixD (.list ds) (.int i) = atI ds i := rfl
theorem at_nat {l : List Dt} {k : Nat} (h : k < l.length) : atI l (k : Int) = l[k]? := by
  unfold atI ixN
  rw [if_pos (by omega), if_pos (by omega)]
  rfl
@[simp] theorem at0 (x : Dt) (r : List Dt) : atI (x :: r) 0 = some x := at_nat (l := x :: r) (k := 0) (by simp)
@[simp] theorem at1 (x y : Dt) (r : List Dt) : atI (x :: y :: r) 1 = some y := at_nat (l := x :: y :: r) (k := 1) (by simp)
@[simp] theorem at2 (x y z : Dt) (r : List Dt) : atI (x :: y :: z :: r) 2 = some z := at_nat (l := x :: y :: z :: r) (k := 2) (by simp)
@[simp] theorem at3 (x y z t : Dt) (r : List Dt) : atI (x :: y :: z :: t :: r) 3 = some t := at_nat (l := x :: y :: z :: t :: r) (k := 3) (by simp)
@[simp] theorem atL2 (x y : Dt) : atI [x, y] (-1) = some y := by simp [atI, ixN]
@[simp] theorem atL3 (x y z : Dt) : atI [x, y, z] (-1) = some z := by simp [atI, ixN]
@[simp] theorem atL4 (x y z t : Dt) : atI [x, y, z, t] (-1) = some t := by simp [atI, ixN]
@[simp] theorem items_T (ds : List Dt) : itemsD (.tuple ds) = some ds := rfl
@[simp] theorem items_L (ds : List Dt) : itemsD (.list ds) = some ds := rfl
@[simp] theorem non_T (ds : List Dt) : isNoneD (.tuple ds) = false := rfl
@[simp] theorem non_N : isNoneD .none = true := rfl
@[simp] theorem st1 (n : Nat) (d : Dt) : startE (n + 1) [d] = .da d :: List.replicate n .no := by simp [startE]
@[simp] theorem st2 (n : Nat) (d e : Dt) : startE (n + 2) [d, e] = .da d :: .da e :: List.replicate n .no := by simp [startE]
@[simp] theorem st3 (n : Nat) (d e f : Dt) : startE (n + 3) [d, e, f] = .da d :: .da e :: .da f :: List.replicate n .no := by simp [startE]
@[simp] theorem str_self (x : Str) : (x == x) = true := by simp
end MP
-- DS1
/-! Loops and comprehensions over data that stand for a list. -/
namespace MP
open PySem PySem.Spec PyProof.Rows L2 MH
section
variable {α : Type} {g : α → Dt} {ρ : Ev} {vs vs1 : List Nat} {wg wg1 : WG} {wt : WT} {we : WE} {wI1 : WI} {k : List Dt → Ev → Prop}
theorem lc_map {F : α → Option Dt} : ∀ {l : List α} {k : List Dt → Ev → Prop}, (∀ a ∈ l, ∀ C : Option Dt → Ev → Prop, C (F a) ρ → wg (g a) ρ fun ρ1 => wt ρ1 fun b ρ2 => if b = true then we ρ2 fun x ρ3 => C (some x) (wipeE ρ3 vs) else C none (wipeE ρ2 vs)) →
    k (l.filterMap F) ρ → wLc wg wt we vs (l.map g) ρ k
  | [], _, _, h => h
  | a :: l, k, step, h => by
    refine step a List.mem_cons_self (fun o ρ' => match o with | some x => wLc wg wt we vs (l.map g) ρ' (fun xs ρ4 => k (x :: xs) ρ4) | none => wLc wg wt we vs (l.map g) ρ' k) ?_
    rw [List.filterMap_cons] at h
    cases q : F a with
    | none =>
      rw [q] at h
      exact lc_map (fun b hb => step b (List.mem_cons_of_mem _ hb)) h
    | some x =>
      rw [q] at h
      exact lc_map (k := fun xs ρ4 => k (x :: xs) ρ4) (fun b hb => step b (List.mem_cons_of_mem _ hb)) h
theorem lc1_map {F : α → Dt} : ∀ {l : List α} {k : List Dt → Ev → Prop}, (∀ a ∈ l, ∀ C : Dt → Ev → Prop, C (F a) ρ → wg (g a) ρ fun ρ1 => we ρ1 fun x ρ3 => C x (wipeE ρ3 vs)) → k (l.map F) ρ → wLc1 wg we vs (l.map g) ρ k
  | [], _, _, h => h
  | a :: l, k, step, h => step a List.mem_cons_self (fun x ρ' => wLc1 wg we vs (l.map g) ρ' (fun xs ρ4 => k (x :: xs) ρ4))
      (lc1_map (k := fun xs ρ4 => k (F a :: xs) ρ4) (fun b hb => step b (List.mem_cons_of_mem _ hb)) h)
theorem lc2_map {F : α → List Dt} : ∀ {l : List α} {k : List Dt → Ev → Prop}, (∀ a ∈ l, ∀ C : List Dt → Ev → Prop, C (F a) ρ → wg (g a) ρ fun ρ1 => wI1 ρ1 fun es ρ2 => es.length ≤ 1000 ∧ wLc1 wg1 we vs1 es (wipeE ρ2 vs1) fun xs ρ3 => C xs (wipeE ρ3 vs)) →
    k (l.map F).flatten ρ → wLc2 wg wI1 wg1 we vs vs1 (l.map g) ρ k
  | [], _, _, h => h
  | a :: l, k, step, h => by
    refine step a List.mem_cons_self (fun xs ρ' => wLc2 wg wI1 wg1 we vs vs1 (l.map g) ρ' (fun ys ρ4 => k (xs ++ ys) ρ4)) ?_
    refine lc2_map (k := fun ys ρ4 => k (F a ++ ys) ρ4) (fun b hb => step b (List.mem_cons_of_mem _ hb)) ?_
    rw [List.map_cons, List.flatten_cons] at h
    exact h
/-- a for loop: I by the turn -/
theorem loop_inv {wb : WS} {D : DEnds} : ∀ {l : List α} {ρ : Ev} (I : List α → Ev → Prop), I l ρ → (∀ a r ρ, I (a :: r) ρ → a ∈ l → ∀ C : Ev → Prop, (∀ ρ', I r ρ' → C ρ') → wg (g a) ρ fun ρ1 => wb { nx := C, rt := D.rt } ρ1) → (∀ ρ, I [] ρ → D.nx ρ) → wLoop wg wb D (l.map g) ρ
  | [], _, I, h0, _, he => he _ h0
  | a :: l, ρ, I, h0, step, he => step a l ρ h0 List.mem_cons_self _ fun ρ' h1 => loop_inv I h1 (fun b r ρ hI hb => step b r ρ hI (List.mem_cons_of_mem _ hb)) he
/-- .. whose state is told by the list done -/
theorem loop_fold {wb : WS} {D : DEnds} {S : Type} {E : S → Ev} {f : S → α → S} : ∀ {l : List α} {s : S}, (∀ a ∈ l, ∀ s, ∀ C : Ev → Prop, C (E (f s a)) → wg (g a) (E s) fun ρ1 => wb { nx := C, rt := D.rt } ρ1) → D.nx (E (l.foldl f s)) → wLoop wg wb D (l.map g) (E s)
  | [], _, _, he => he
  | a :: l, s, step, he => step a List.mem_cons_self s _ (loop_fold (fun b hb => step b (List.mem_cons_of_mem _ hb)) he)
end
section
variable {P : Program} {w : World} {K : PySem.W.Frag} {mg : Str → Option Value} {base : Heap} {x : Str} {params : Arguments} {body : List Stmt} {scope : Scope} {f : Addr} {fd : FuncData} {ps : List Str} {k n : Nat}
/-- a promise that is never asked -/
theorem con_none (F : FunD K x x params body scope [] [] f fd) (hm : mg x = some (.ref f)) (hps : ps.length = n)
    (bd : ∀ (kV doc pm : Value) (an : Option Addr) (cdv ct : Value) (us : List Value), us.length = ps.length → bindArgs (PySem.W.fnOf x x params body scope .none kV doc pm an cdv ct) ⟨us, []⟩ = pure (ps.zip us))
    {W : List Dt → (Dt → Prop) → Prop} (hW : ∀ ds Φ, ¬ W ds Φ) : Con P w K mg base x k (spP n W) :=
  ⟨f, fd, ps, hm, F.kp, F.bindsN bd, fun vs H Q E ⟨h, _⟩ => h.trans hps.symm, fun A outer s H args us vs Q E _ _ _ _ ⟨_, _, ds, Φ, _, _, h, _⟩ => (hW ds Φ h).elim⟩
end
/-! ### in a comprehension's block: the context's own table is the def's -/
section
variable {X : Cx} {e tg iter : Expr} {es : List Expr} {te te' : TE} {tt tt' : TT} {wi wi' : TI} {g g' : TG} {we : WE} {wt : WT} {wI : WI} {wg : WG} {ix : List Nat}
theorem DE.castK (h : DE X e te we) (q : te = te') : DE X e te' we := q ▸ h
theorem DTs.castK (h : DTs X es tt wt) (q : tt = tt') : DTs X es tt' wt := q ▸ h
theorem DI.castK (h : DI X tg iter wi wI) (q : wi = wi') : DI X tg iter wi' wI := q ▸ h
theorem DG.castK (h : DG X ix tg g wg) (q : g = g') : DG X ix tg g' wg := q ▸ h
end
@[simp] theorem wipe_nil (ρ : Ev) : wipeE ρ [] = ρ := rfl
@[simp] theorem wipe_cons (ρ : Ev) (v : Nat) (vs : List Nat) : wipeE ρ (v :: vs) = (wipeE ρ vs).set v .no := rfl
@[simp] theorem stsD_len (xs : List Str) : (stsD xs).length = xs.length := by simp [stsD]
@[simp] theorem stsD_nil : stsD [] = [] := rfl
theorem stsD_app (xs ys : List Str) : stsD xs ++ stsD ys = stsD (xs ++ ys) := by simp [stsD]
theorem sizeL : sizeLine = 2 ^ 24 := by decide
end MP
-- PC1
/-! The walks: patterns' and plans' parts. -/
namespace MP
open PySem PySem.Spec PyProof.Rows L2 MH
/-! ### plain -/
theorem len2 {α : Type} {l : List α} (h : l.length = 2) : ∃ a b, l = [a, b] := by
  match l, h with
  | [a, b], _ => exact ⟨a, b, rfl⟩
theorem marks_parts {N : List Str} {d : Nat} {p : Pat} (h : pok N (d + 1) p) : ∀ q ∈ p.parts, pok N d q := by
  cases p with
  | sign s => intro q hq; cases hq
  | row ps => exact h.2.2
  | any ps => exact h.2.2
  | rep lo hi p =>
    intro q hq
    rw [List.mem_singleton.mp hq]
    exact h.2.2.2
  | mark n p =>
    intro q hq
    rw [List.mem_singleton.mp hq]
    exact h.2.2
theorem parts_len {N : List Str} {d : Nat} {p : Pat} (h : pok N (d + 1) p) : p.parts.length ≤ 1000 := by
  cases p with
  | sign s => exact Nat.zero_le _
  | row ps => exact h.2.1
  | any ps => exact h.2.1
  | rep lo hi p => exact Nat.le_trans (Nat.le_refl 1) (by decide)
  | mark n p => exact Nat.le_trans (Nat.le_refl 1) (by decide)
theorem pok_len {N : List Str} : ∀ {d : Nat} {p : Pat}, pok N d p → p.marks.length ≤ 1000
  | 0, _, h => h.elim
  | _ + 1, _, h => h.1
def Pat.isMark : Pat → Option Str
  | .mark n _ => some n
  | _ => none
theorem marks_eq (p : Pat) : p.marks = (p.parts.map Pat.marks).flatten ++ p.isMark.toList := by
  cases p <;> simp [Pat.marks, Pat.parts, Pat.isMark, marksL_eq]
section
variable {P : Program} {w : World} {K : PySem.W.Frag} {mg : Str → Option Value} {base : Heap}
theorem sc_parts_of : FnScope ["pattern"] ["pattern"] (defScope (top 1)) := ⟨rfl, rfl, rfl, by decide +kernel, rfl, by decide +kernel, by decide +kernel⟩
theorem c_parts_of (W : Wd K mg) : Con P w K mg base "parts_of" 1 (spP 1 fun ds Φ => ∃ p : Pat, ds = [p.enc] ∧ Φ (.tuple (p.parts.map Pat.enc))) := by
  obtain ⟨f, fd, hm, F⟩ := W.at_ 0 (x := "parts_of") (j := 1)
  refine con_of F hm sc_parts_of rfl (fun _ _ _ _ _ _ us hl => match us, hl with | [_], _ => rfl) fun cdv A outer s H E hr => ⟨_, _,
      (dss_cons (ds_if (dt_cmp (op_eqA (hu64 hr)) rd_eq (de_ix (dv 0) de_int) de_str) (dss_one (ds_ret (de_tup da_nil))) dss_nil)
      (dss_cons (ds_if (dt_cmp (op_inA (hu65 hr)) rd_in (de_ix (dv 0) de_int) (de_tup (da_cons de_str (da_cons de_str da_nil)))) (dss_one (ds_ret (de_ix (dv 0) de_int))) dss_nil)
      (dss_one (ds_ret (de_tup (da_cons (de_ix (dv 0) (de_neg de_int)) da_nil)))))), fun ds Φ hl hW => ?_⟩
  obtain ⟨p, e, q⟩ := hW
  subst e
  cases p <;> simp [Pat.enc, Pat.parts, encs_eq] at q ⊢ <;> exact q
def WMarked (d : Nat) : List Dt → (Dt → Prop) → Prop := fun ds Φ => ∃ N p, ds = [Pat.enc p] ∧ pok N d p ∧ Φ (.list (stsD p.marks))
theorem sc_marked : FnScope ["pattern", "found", "part", "name"] ["pattern"] (defScope (top 2)) := ⟨rfl, rfl, rfl, by decide +kernel, rfl, by decide +kernel, by decide +kernel⟩
theorem c_marked (W : Wd K mg) : ∀ d, Con P w K mg base "marked" (d + 2) (spP 1 (WMarked d))
  | 0 => by
    obtain ⟨f, fd, hm, F⟩ := W.at_ 1 (x := "marked") (j := 2)
    exact con_none F hm (ps := ["pattern"]) rfl (fun _ _ _ _ _ _ us hl => match us, hl with | [_], _ => rfl) fun ds Φ ⟨N, p, _, h, _⟩ => h
  | d + 1 => by
    have h_parts_of := c_parts_of (P := P) (w := w) (base := base) W
    have h_marked := c_marked W d
    obtain ⟨f, fd, hm, F⟩ := W.at_ 1 (x := "marked") (j := 2)
    refine con_of F hm sc_marked rfl (fun _ _ _ _ _ _ us hl => match us, hl with | [_], _ => rfl) fun cdv A outer s H E hr => ⟨_, _,
      (dss_cons (ds_setLc2 (i := 1) (own := [("part", 2), ("name", 3)]) (vs1 := [3]) rfl sc_marked.nd rfl rfl (sw_true rfl rfl rfl (by decide +kernel)) (di_tup (de_call h_parts_of (hr.mono (by omega)) (da_cons (dv 0) da_nil))) (blkOk_by (own := [("part", 2), ("name", 3)]) (N := ["pattern", "found", "part", "name"]) (sc := defScope (top 2)) (by decide +kernel)) (by decide) (fun _ _ _ _ _ => (dg_name (i := 2) sc_marked.nd)) (fun _ _ _ _ _ => (DI.castK (di_list (de_call h_marked (hr.mono (by omega)) (da_cons (dv 2) da_nil))) (by dsimp only [Cx.blk] <;> rfl))) (fun _ _ _ _ _ => (dg_name (i := 3) sc_marked.nd)) (fun _ _ _ _ _ => (dv 3)))
      (dss_cons (ds_if (dt_cmp (op_eqA (hu64 hr)) rd_eq (de_ix (dv 0) de_int) de_str) (dss_one (ds_append (i := 1) (de_ix (dv 0) de_int))) dss_nil)
      (dss_one (ds_pub 1 (ds_ret (dv 1)))))), fun ds Φ hl hW => ?_⟩
    obtain ⟨N, p, e, hp, q⟩ := hW
    subst e
    simp
    refine ⟨p, rfl, by simpa using parts_len hp, ?_⟩
    refine lc2_map (F := fun a => stsD (Pat.marks a)) (fun a ha C hC => ?_) ?_
    · have ha' := marks_parts hp a ha
      simp
      refine ⟨N, a, rfl, ha', stsD a.marks, rfl, by simpa using pok_len ha', ?_⟩
      refine lc1_map (F := PyData.str) (g := PyData.str) (l := a.marks) (fun b hb C hC => ?_) ?_
      · simpa using hC
      · exact hC
    · have e : (p.parts.map fun a => stsD (Pat.marks a)).flatten = stsD ((p.parts.map Pat.marks).flatten) := by
        unfold stsD
        rw [List.map_flatten, List.map_map]
        rfl
      rw [e]
      have hl : ((p.parts.map Pat.marks).flatten).length ≤ 1000 := by
        have := hp.1
        rw [marks_eq, List.length_append] at this
        omega
      rw [marks_eq] at q
      cases p <;> simp [Pat.enc, Pat.isMark, ← stsD_app] at q hl ⊢ <;> first | exact q | exact ⟨by rw [sizeL]; omega, q⟩
def WNamesOf : List Dt → (Dt → Prop) → Prop := fun ds Φ => ∃ N p, ds = [Pat.enc p] ∧ pok N 12 p ∧ Φ (.tuple (stsD (sset p.marks)))
theorem sc_names_of : FnScope ["pattern", "name"] ["pattern"] (defScope (top 3)) := ⟨rfl, rfl, rfl, by decide +kernel, rfl, by decide +kernel, by decide +kernel⟩
theorem c_names_of (W : Wd K mg) : Con P w K mg base "names_of" 15 (spP 1 WNamesOf) := by
  have h_marked := c_marked (P := P) (w := w) (base := base) W 12
  obtain ⟨f, fd, hm, F⟩ := W.at_ 2 (x := "names_of") (j := 3)
  refine con_of F hm sc_names_of rfl (fun _ _ _ _ _ _ us hl => match us, hl with | [_], _ => rfl) fun cdv A outer s H E hr => ⟨_, _,
      (dss_one (ds_ret (de_callTy call_tuple_of rd_tuple (by rfl) W.z_tuple PyProof.Rows.boot_tuple (da_cons (FE.de (fe_sortSetC (own := [("name", 1)]) rfl (hu64 hr) sc_names_of.nd rfl W.z_sorted (di_list (de_call h_marked (hr.mono (by omega)) (da_cons (dv 0) da_nil))) (blkOk_by (own := [("name", 1)]) (N := ["pattern", "name"]) (sc := defScope (top 3)) (by decide +kernel)) (fun _ _ _ _ _ => (dg_name (i := 1) sc_names_of.nd)) (fun _ _ _ _ _ => dts_nil) (fun _ _ _ _ _ => (dv 1)))) da_nil)))), fun ds Φ hl hW => ?_⟩
  obtain ⟨N, p, e, hp, q⟩ := hW
  subst e
  simp
  refine ⟨N, p, rfl, hp, stsD p.marks, rfl, by have := pok_len hp; simp; omega, ?_⟩
  refine lc_map (F := fun a => some (PyData.str a)) (g := PyData.str) (l := p.marks) (fun b hb C hC => ?_) ?_
  · simpa using hC
  · refine ⟨p.marks, by simp [stsD], by have := pok_len hp; omega, q⟩
theorem sc_inner_of : FnScope ["plan"] ["plan"] (defScope (top 6)) := ⟨rfl, rfl, rfl, by decide +kernel, rfl, by decide +kernel, by decide +kernel⟩
theorem c_inner_of (W : Wd K mg) : Con P w K mg base "inner_of" 1 (spP 1 fun ds Φ => ∃ p : Plan, ds = [p.enc] ∧ Φ (.tuple (p.inner.map Plan.enc))) := by
  obtain ⟨f, fd, hm, F⟩ := W.at_ 3 (x := "inner_of") (j := 6)
  refine con_of F hm sc_inner_of rfl (fun _ _ _ _ _ _ us hl => match us, hl with | [_], _ => rfl) fun cdv A outer s H E hr => ⟨_, _,
      (dss_cons (ds_if (dt_cmp (op_eqA (hu64 hr)) rd_eq (de_ix (dv 0) de_int) de_str) (dss_one (ds_ret (de_tup da_nil))) dss_nil)
      (dss_cons (ds_if (dt_cmp (op_eqA (hu64 hr)) rd_eq (de_ix (dv 0) de_int) de_str) (dss_one (ds_ret (de_tup (da_cons (de_ix (dv 0) de_int) da_nil)))) dss_nil)
      (dss_cons (ds_if (dt_cmp (op_eqA (hu64 hr)) rd_eq (de_ix (dv 0) de_int) de_str) (dss_one (ds_ret (de_tup (da_cons (de_ix (dv 0) de_int) da_nil)))) dss_nil)
      (dss_one (ds_ret (de_tup (da_cons (de_ix (dv 0) de_int) (da_cons (de_ix (dv 0) de_int) da_nil)))))))), fun ds Φ hl hW => ?_⟩
  obtain ⟨p, e, q⟩ := hW
  subst e
  cases p <;> simp [Plan.enc, Plan.inner] at q ⊢ <;> exact q
theorem sc_with_inner : FnScope ["plan", "parts"] ["plan", "parts"] (defScope (top 7)) := ⟨rfl, rfl, rfl, by decide +kernel, rfl, by decide +kernel, by decide +kernel⟩
theorem c_with_inner (W : Wd K mg) : Con P w K mg base "with_inner" 1 (spP 2 fun ds Φ => ∃ (p : Plan) (qs : List Plan), ds = [p.enc, .list (qs.map Plan.enc)] ∧ qs.length = p.inner.length ∧ Φ (withInner p qs).enc) := by
  obtain ⟨f, fd, hm, F⟩ := W.at_ 4 (x := "with_inner") (j := 7)
  refine con_of F hm sc_with_inner rfl (fun _ _ _ _ _ _ us hl => match us, hl with | [_, _], _ => rfl) fun cdv A outer s H E hr => ⟨_, _,
      (dss_cons (ds_if (dt_cmp (op_eqA (hu64 hr)) rd_eq (de_ix (dv 0) de_int) de_str) (dss_one (ds_ret (dv 0))) dss_nil)
      (dss_cons (ds_if (dt_cmp (op_eqA (hu64 hr)) rd_eq (de_ix (dv 0) de_int) de_str) (dss_one (ds_ret (de_tup (da_cons de_str (da_cons (de_ix (dv 0) de_int) (da_cons (de_ix (dv 1) de_int) da_nil)))))) dss_nil)
      (dss_cons (ds_if (dt_cmp (op_eqA (hu64 hr)) rd_eq (de_ix (dv 0) de_int) de_str) (dss_one (ds_ret (de_tup (da_cons de_str (da_cons (de_ix (dv 0) de_int) (da_cons (de_ix (dv 0) de_int) (da_cons (de_ix (dv 1) de_int) da_nil))))))) dss_nil)
      (dss_one (ds_ret (de_tup (da_cons (de_ix (dv 0) de_int) (da_cons (de_ix (dv 1) de_int) (da_cons (de_ix (dv 1) de_int) da_nil))))))))), fun ds Φ hl hW => ?_⟩
  obtain ⟨p, qs, e, hq, q⟩ := hW
  subst e
  cases p with
  | pat p => simp [Plan.enc, withInner] at q ⊢; exact q
  | only ns a =>
    obtain ⟨b, rfl⟩ := List.length_eq_one_iff.mp hq
    simp [Plan.enc, withInner] at q ⊢
    exact q
  | same x y a =>
    obtain ⟨b, rfl⟩ := List.length_eq_one_iff.mp hq
    simp [Plan.enc, withInner] at q ⊢
    exact q
  | join a b =>
    obtain ⟨b, c, rfl⟩ := len2 hq
    simp [Plan.enc, withInner] at q ⊢
    exact q
  | either a b =>
    obtain ⟨b, c, rfl⟩ := len2 hq
    simp [Plan.enc, withInner] at q ⊢
    exact q
  | without a b =>
    obtain ⟨b, c, rfl⟩ := len2 hq
    simp [Plan.enc, withInner] at q ⊢
    exact q
end
end MP
-- PL1
/-! not e, e a list; names of plans. -/
namespace MP
open PySem PySem.Spec PyProof.Rows L2 LamX
section
variable {X : Cx} {e : Expr} {te : TE} {we : WE} {pos : Pos}
def wNotT (we : WE) : WE := fun ρ Φ => we ρ fun d ρ1 => ∃ k, truD d = some k ∧ Φ (.bool (!k)) ρ1
theorem de_notT (h : DE X e te we) : DE X (.UnaryOp .Not e pos) (tNotT X.K te) (wNotT we) := by
  refine ⟨pe_notT h.pe, fun B G H σ ρ xs Φ Q R q k => ?_⟩
  refine h.rd B G H σ ρ xs _ _ R q fun v d G1 H1 ρ1 s1 R1 d1 ⟨c, e, h1⟩ => ?_
  refine ⟨c, ?_, k _ _ G1 H1 ρ1 s1 R1 (.bl _) h1⟩
  cases d1 with
  | non => exact (Option.some.inj e).symm
  | bl b => exact (Option.some.inj e).symm
  | int i => exact (Option.some.inj e).symm
  | str x => cases e
  | lst z r =>
    refine .inl ⟨_, SqL.of (R1.sub _ _ z), ?_⟩
    rw [dns_isEmpty r]
    exact (Option.some.inj e).symm
  | tup z r =>
    refine .inr (.inl ⟨_, SqT.of (R1.sub _ _ z), ?_⟩)
    rw [dns_isEmpty r]
    exact (Option.some.inj e).symm
end
@[simp] theorem s_notT {we : WE} {ρ : Ev} {Φ : Dt → Ev → Prop} : wNotT we ρ Φ = we ρ fun d ρ1 => ∃ k, truD d = some k ∧ Φ (.bool (!k)) ρ1 := rfl
@[simp] theorem tru_L (ds : List Dt) : truD (.list ds) = some (!ds.isEmpty) := rfl
@[simp] theorem tru_T (ds : List Dt) : truD (.tuple ds) = some (!ds.isEmpty) := rfl
@[simp] theorem tru_B (b : Bool) : truD (.bool b) = some b := rfl
@[simp] theorem len_T (ds : List Dt) : lenD (.tuple ds) = some ds.length := rfl
@[simp] theorem len_L (ds : List Dt) : lenD (.list ds) = some ds.length := rfl
/-! ### names of plans -/
theorem marks_sub {N : List Str} : ∀ {d : Nat} {p : Pat}, pok N d p → ∀ m ∈ p.marks, m ∈ N
  | 0, _, h => h.elim
  | d + 1, p, h => by
    intro m hm
    rw [marks_eq] at hm
    rcases List.mem_append.mp hm with hm | hm
    · obtain ⟨l, hl, hml⟩ := List.mem_flatten.mp hm
      obtain ⟨q, hq, rfl⟩ := List.mem_map.mp hl
      exact marks_sub (marks_parts h q hq) m hml
    · cases p with
      | mark n q =>
        have : m = n := by simpa [Pat.isMark] using hm
        rw [this]
        exact h.2.1
      | _ => simp [Pat.isMark] at hm
theorem names_sub {N : List Str} : ∀ {p : Plan}, p.ok N → ∀ m ∈ p.names, m ∈ N
  | .pat p, h, m, hm => marks_sub h m (mem_sset.mp hm)
  | .join a b, h, m, hm => by
    rcases List.mem_append.mp (mem_sset.mp hm) with q | q
    · exact names_sub h.1 m q
    · exact names_sub h.2 m q
  | .either a b, h, m, hm => by
    rcases List.mem_append.mp (mem_sset.mp hm) with q | q
    · exact names_sub h.1 m q
    · exact names_sub h.2 m q
  | .without a b, h, m, hm => names_sub (p := a) h.1 m hm
  | .only ns a, h, m, hm => names_sub h.1 m (h.2.2 m hm)
  | .same x y a, h, m, hm => names_sub (p := a) h.1 m hm
theorem names_srt {N : List Str} : ∀ {p : Plan}, p.ok N → Srt p.names
  | .pat p, _ => srt_sset _
  | .join a b, _ => srt_sset _
  | .either a b, _ => srt_sset _
  | .without a b, h => names_srt (p := a) h.1
  | .only ns a, h => h.2.1
  | .same x y a, h => names_srt (p := a) h.1
theorem names_len {N : List Str} {p : Plan} (h : p.ok N) (n : NOk N) : p.names.length ≤ 4 := by
  refine Nat.le_trans ?_ n.few
  exact nodup_len_le _ _ (names_srt h).nodup (names_sub h)
theorem inner_ok {N : List Str} {p : Plan} (h : p.ok N) : ∀ q ∈ p.inner, q.ok N := by
  cases p <;> simp [Plan.inner, Plan.ok] at h ⊢
  · exact h
  · exact h
  · exact ⟨h.1, h.2.1⟩
  · exact h.1
  · exact h.1
theorem inner_depth {p : Plan} : ∀ q ∈ p.inner, q.depth < p.depth := by
  cases p <;> simp [Plan.inner, Plan.depth] <;> omega
theorem paths_len : ∀ {p : Plan} {r : List Nat}, r ∈ pathsOf p → r.length ≤ p.depth := by
  intro p
  have two : ∀ {a b : Plan} (ha : ∀ {r : List Nat}, r ∈ pathsOf a → r.length ≤ a.depth) (hb : ∀ {r : List Nat}, r ∈ pathsOf b → r.length ≤ b.depth) {r : List Nat},
      r ∈ [] :: ((pathsOf a).map (0 :: ·) ++ (pathsOf b).map (1 :: ·)) → r.length ≤ max a.depth b.depth + 1 := by
    intro a b ha hb r h
    rcases List.mem_cons.mp h with e | h
    · rw [e]; exact Nat.zero_le _
    · rcases List.mem_append.mp h with h | h
      · obtain ⟨t, ht, rfl⟩ := List.mem_map.mp h
        have := ha ht
        rw [List.length_cons]
        omega
      · obtain ⟨t, ht, rfl⟩ := List.mem_map.mp h
        have := hb ht
        rw [List.length_cons]
        omega
  have one : ∀ {a : Plan} (ha : ∀ {r : List Nat}, r ∈ pathsOf a → r.length ≤ a.depth) {r : List Nat}, r ∈ [] :: (pathsOf a).map (0 :: ·) → r.length ≤ a.depth + 1 := by
    intro a ha r h
    rcases List.mem_cons.mp h with e | h
    · rw [e]; exact Nat.zero_le _
    · obtain ⟨t, ht, rfl⟩ := List.mem_map.mp h
      have := ha ht
      rw [List.length_cons]
      omega
  induction p with
  | pat p =>
    intro r h
    rw [List.mem_singleton.mp h]
    exact Nat.zero_le _
  | join a b ha hb => exact two ha hb
  | either a b ha hb => exact two ha hb
  | without a b ha hb => exact two ha hb
  | only ns a ha => exact one ha
  | same x y a ha => exact one ha
theorem at_ok {N : List Str} : ∀ {r : List Nat} {p q : Plan}, p.ok N → atPath p r = some q → q.ok N ∧ q.depth ≤ p.depth
  | [], p, q, h, e => by
    have e : some p = some q := e
    cases e
    exact ⟨h, Nat.le_refl _⟩
  | k :: r, p, q, h, e => by
    unfold atPath at e
    cases z : p.inner[k]? with
    | none => rw [z] at e; cases e
    | some t =>
      rw [z] at e
      have ht := List.mem_of_getElem? z
      obtain ⟨h1, h2⟩ := at_ok (inner_ok h t ht) e
      exact ⟨h1, Nat.le_trans h2 (Nat.le_of_lt (inner_depth t ht))⟩
theorem at_paths : ∀ {p : Plan} {r : List Nat}, r ∈ pathsOf p → ∃ q, atPath p r = some q := by
  intro p
  induction p with
  | pat p =>
    intro r h
    rw [List.mem_singleton.mp h]
    exact ⟨_, rfl⟩
  | join a b ha hb =>
    intro r h
    rcases List.mem_cons.mp h with e | h
    · rw [e]; exact ⟨_, rfl⟩
    · rcases List.mem_append.mp h with h | h <;> obtain ⟨t, ht, rfl⟩ := List.mem_map.mp h
      · exact ha ht
      · exact hb ht
  | either a b ha hb =>
    intro r h
    rcases List.mem_cons.mp h with e | h
    · rw [e]; exact ⟨_, rfl⟩
    · rcases List.mem_append.mp h with h | h <;> obtain ⟨t, ht, rfl⟩ := List.mem_map.mp h
      · exact ha ht
      · exact hb ht
  | without a b ha hb =>
    intro r h
    rcases List.mem_cons.mp h with e | h
    · rw [e]; exact ⟨_, rfl⟩
    · rcases List.mem_append.mp h with h | h <;> obtain ⟨t, ht, rfl⟩ := List.mem_map.mp h
      · exact ha ht
      · exact hb ht
  | only ns a ha =>
    intro r h
    rcases List.mem_cons.mp h with e | h
    · rw [e]; exact ⟨_, rfl⟩
    · obtain ⟨t, ht, rfl⟩ := List.mem_map.mp h
      exact ha ht
  | same x y a ha =>
    intro r h
    rcases List.mem_cons.mp h with e | h
    · rw [e]; exact ⟨_, rfl⟩
    · obtain ⟨t, ht, rfl⟩ := List.mem_map.mp h
      exact ha ht
/-! ### data of numbers, texts -/
def intsD (r : List Nat) : List Dt := r.map fun k => .int (k : Nat)
def pathE (r : List Nat) : Dt := .tuple (intsD r)
theorem shp_ints (r : List Nat) : SeqAt.shaped (pathE r) = true := by
  have h : ∀ r : List Nat, PyData.canLayAll0 (intsD r) = true ∧ PyData.depthAll (intsD r) = 0 := by
    intro r
    induction r with
    | nil => simp [intsD, PyData.canLayAll0, PyData.depthAll]
    | cons k r ih =>
      have e : intsD (k :: r) = .int (k : Nat) :: intsD r := rfl
      rw [e]
      simp [PyData.canLayAll0, PyData.depthAll, PyData.canLay0, PyData.depth, ih.1, ih.2]
  unfold SeqAt.shaped pathE
  simp [PyData.canLay0, PyData.depth, (h r).1, (h r).2]
theorem shp_strs {ns : List Str} (h : ∀ n ∈ ns, sOk n) : SeqAt.shaped (.tuple (stsD ns)) = true ∧ SeqAt.shaped (.list (stsD ns)) = true := by
  have h2 : ∀ ns : List Str, (∀ n ∈ ns, sOk n) → PyData.canLayAll0 (stsD ns) = true ∧ PyData.depthAll (stsD ns) = 0 := by
    intro ns
    induction ns with
    | nil => intro _; simp [PyData.canLayAll0, PyData.depthAll]
    | cons k r ih =>
      intro h
      have e : stsD (k :: r) = .str k :: stsD r := rfl
      obtain ⟨h1, h2⟩ := ih fun n hn => h n (List.mem_cons_of_mem _ hn)
      have hk := h k List.mem_cons_self
      have ok : PyData.strOk k = true := hk.2
      rw [e]
      simp [PyData.canLayAll0, PyData.depthAll, PyData.canLay0, PyData.depth, h1, h2, ok]
  obtain ⟨h3, h4⟩ := h2 ns h
  constructor
  · unfold SeqAt.shaped
    simp [PyData.canLay0, PyData.depth, h3, h4]
  · unfold SeqAt.shaped
    simp [PyData.canLay0, PyData.depth, h3, h4]
theorem eqv_strs : ∀ (xs ys : List Str), PyData.eqvAll (stsD xs) (stsD ys) = decide (xs = ys)
  | [], [] => by simp [PyData.eqvAll]
  | [], y :: ys => by
    have e : stsD (y :: ys) = .str y :: stsD ys := rfl
    rw [e]
    simp [PyData.eqvAll]
  | x :: xs, [] => by
    have e : stsD (x :: xs) = .str x :: stsD xs := rfl
    rw [e]
    simp [PyData.eqvAll]
  | x :: xs, y :: ys => by
    have e : ∀ (x : Str) xs, stsD (x :: xs) = .str x :: stsD xs := fun _ _ => rfl
    rw [e, e, PyData.eqvAll, eqv_strs xs ys, v_str, Bool.eq_iff_iff]
    simp
@[simp] theorem v_strsT (xs ys : List Str) : PyData.eqv (.tuple (stsD xs)) (.tuple (stsD ys)) = decide (xs = ys) := by rw [PyData.eqv, eqv_strs]
@[simp] theorem v_strsL (xs ys : List Str) : PyData.eqv (.list (stsD xs)) (.list (stsD ys)) = decide (xs = ys) := by rw [PyData.eqv, eqv_strs]
end MP
-- PL2
/-! Lowering, in plain Lean: what each downward rule keeps; it ends. -/
namespace MP
open PySem PySem.Spec PyProof.Rows L2
def downs : List Nat := [5, 6, 7, 12, 14, 15, 16, 17]
def leaves : Plan → Nat
  | .pat _ => 1
  | .join a b => leaves a + leaves b
  | .either a b => leaves a + leaves b
  | .without a b => leaves a + leaves b
  | .only _ a => leaves a
  | .same _ _ a => leaves a
def phi : Plan → Nat
  | .pat _ => 1
  | .join a b => phi a + phi b + 1
  | .either a b => phi a + phi b + 1
  | .without a b => phi a + phi b + 1
  | .only _ a => phi a + leaves a
  | .same _ _ a => phi a + leaves a
def wgt : Plan → Nat
  | .pat _ => 1
  | .join a b => wgt a + wgt b + 2
  | .either a b => wgt a + wgt b + 2
  | .without a b => wgt a + wgt b + 2
  | .only _ a => 2 * wgt a + 1
  | .same _ _ a => 3 * wgt a
theorem leaves_pos : ∀ p : Plan, 1 ≤ leaves p
  | .pat _ => Nat.le_refl 1
  | .join a b => by have := leaves_pos a; simp [leaves]; omega
  | .either a b => by have := leaves_pos a; simp [leaves]; omega
  | .without a b => by have := leaves_pos a; simp [leaves]; omega
  | .only _ a => leaves_pos a
  | .same _ _ a => leaves_pos a
theorem paths_phi : ∀ p : Plan, (pathsOf p).length ≤ phi p
  | .pat _ => Nat.le_refl 1
  | .join a b => by have := paths_phi a; have := paths_phi b; simp [pathsOf, phi]; omega
  | .either a b => by have := paths_phi a; have := paths_phi b; simp [pathsOf, phi]; omega
  | .without a b => by have := paths_phi a; have := paths_phi b; simp [pathsOf, phi]; omega
  | .only _ a => by have := paths_phi a; have := leaves_pos a; simp [pathsOf, phi]; omega
  | .same _ _ a => by have := paths_phi a; have := leaves_pos a; simp [pathsOf, phi]; omega
/-- what replacing a form keeps -/
structure Kept (N : List Str) (p q : Plan) : Prop where
  ok : q.ok N
  nm : q.names = p.names
  dp : q.depth ≤ p.depth
  lv : leaves q ≤ leaves p
  ph : phi q ≤ phi p
  wt : wgt q < wgt p
theorem among_srt {ns : List Str} {a : Plan} (h : Srt ns) : Srt (among ns a) := List.Pairwise.sublist List.filter_sublist h
theorem mem_among {ns : List Str} {a : Plan} {n : Str} : n ∈ among ns a ↔ n ∈ ns ∧ n ∈ a.names := by
  unfold among
  simp
theorem among_union {ns : List Str} {a b : Plan} (h : Srt ns) (s : ∀ n ∈ ns, n ∈ a.names ∨ n ∈ b.names) : sset (among ns a ++ among ns b) = ns := by
  refine (sset_eq h fun k => ?_).symm
  rw [List.mem_append, mem_among, mem_among]
  constructor
  · intro hk
    rcases s k hk with q | q
    · exact .inl ⟨hk, q⟩
    · exact .inr ⟨hk, q⟩
  · rintro (q | q)
    · exact q.1
    · exact q.1
theorem both_of {x y : Str} {p : Plan} (h : both x y p = true) : x ∈ p.names ∧ y ∈ p.names := by
  unfold both at h
  simpa using h
theorem some_of_ite {c : Prop} [Decidable c] {a o : Plan} (h : (if c then some a else none) = some o) : c ∧ a = o := by
  by_cases q : c
  · rw [if_pos q] at h
    exact ⟨q, Option.some.inj h⟩
  · rw [if_neg q] at h
    cases h
theorem deed_kept {N : List Str} {k : Nat} {p o : Plan} (hp : p.ok N) (h : deed k p = some o) : Kept N p o := by
  unfold deed at h
  split at h
  · -- 5
    rename_i ns a b
    cases h
    obtain ⟨⟨ha, hb⟩, hs, hn⟩ := hp
    refine ⟨⟨⟨ha, among_srt hs, fun n hm => (mem_among.mp hm).2⟩, ⟨hb, among_srt hs, fun n hm => (mem_among.mp hm).2⟩⟩, ?_, ?_, ?_, ?_, ?_⟩
    · exact among_union hs fun n hm => by simpa [Plan.names, mem_sset] using hn n hm
    · simp [Plan.depth] <;> omega
    · simp [leaves]
    · simp [phi, leaves]; omega
    · simp [wgt]; omega
  · -- 6
    rename_i ns ms a
    cases h
    obtain ⟨⟨ha, hs2, hn2⟩, hs, hn⟩ := hp
    refine ⟨⟨ha, hs, fun n hm => hn2 n (hn n hm)⟩, rfl, ?_, ?_, ?_, ?_⟩
    · simp [Plan.depth]
    · simp [leaves]
    · simp [phi, leaves]
    · simp [wgt]; omega
  · -- 7
    rename_i ns a
    obtain ⟨e, rfl⟩ := some_of_ite h
    refine ⟨hp.1, e.symm, ?_, ?_, ?_, ?_⟩
    · simp [Plan.depth]
    · simp [leaves]
    · simp [phi, leaves]
    · simp [wgt]; omega
  · -- 12
    rename_i ns a b
    obtain ⟨e, rfl⟩ := some_of_ite h
    obtain ⟨⟨ha, hb⟩, hs, hn⟩ := hp
    refine ⟨⟨⟨ha, among_srt hs, fun n hm => (mem_among.mp hm).2⟩, ⟨hb, among_srt hs, fun n hm => (mem_among.mp hm).2⟩⟩, ?_, ?_, ?_, ?_, ?_⟩
    · exact among_union hs fun n hm => by simpa [Plan.names, mem_sset] using hn n hm
    · simp [Plan.depth] <;> omega
    · simp [leaves]
    · simp [phi, leaves]; omega
    · simp [wgt]; omega
  · -- 14
    rename_i x y a b
    obtain ⟨e, rfl⟩ := some_of_ite h
    rw [Bool.and_eq_true] at e
    obtain ⟨⟨ha, hb⟩, _, _⟩ := hp
    refine ⟨⟨⟨ha, both_of e.1⟩, ⟨hb, both_of e.2⟩⟩, rfl, ?_, ?_, ?_, ?_⟩
    · simp [Plan.depth] <;> omega
    · simp [leaves]
    · simp [phi, leaves]; omega
    · simp [wgt]; omega
  · -- 15
    rename_i x y a b
    obtain ⟨e, rfl⟩ := some_of_ite h
    obtain ⟨⟨ha, hb⟩, _, _⟩ := hp
    refine ⟨⟨⟨ha, both_of e⟩, hb⟩, rfl, ?_, ?_, ?_, ?_⟩
    · simp [Plan.depth]; omega
    · simp [leaves]
    · simp [phi, leaves]; omega
    · simp [wgt]; omega
  · -- 16
    rename_i x y ns a
    cases h
    obtain ⟨⟨ha, hs, hn⟩, hx, hy⟩ := hp
    refine ⟨⟨⟨ha, hn x hx, hn y hy⟩, hs, hn⟩, rfl, ?_, ?_, ?_, ?_⟩
    · simp [Plan.depth]
    · simp [leaves]
    · simp [phi, leaves]
    · simp [wgt]; omega
  · -- 17
    rename_i x y a b
    cases h
    obtain ⟨⟨ha, hb, hn⟩, hx, hy⟩ := hp
    refine ⟨⟨⟨ha, hx, hy⟩, hb, hn⟩, rfl, ?_, ?_, ?_, ?_⟩
    · simp [Plan.depth]; omega
    · simp [leaves]
    · simp [phi, leaves]; omega
    · simp [wgt]; omega
  · cases h
theorem put_kept {N : List Str} : ∀ {r : List Nat} {p q o : Plan}, p.ok N → atPath p r = some q → Kept N q o → Kept N p (putAt p r o)
  | [], p, q, o, h, e, k => by
    have e : some p = some q := e
    cases e
    exact k
  | i :: r, p, q, o, h, e, k => by
    unfold atPath at e
    unfold putAt
    cases z : p.inner[i]? with
    | none => rw [z] at e; cases e
    | some t =>
      rw [z] at e
      have ht := List.mem_of_getElem? z
      have kt : Kept N t (putAt t r o) := put_kept (inner_ok h t ht) e k
      obtain ⟨k1, k2, k3, k4, k5, k6⟩ := kt
      show Kept N p (withInner p (p.inner.set i (putAt t r o)))
      have one : ∀ {x : Plan}, [x][i]? = some t → i = 0 ∧ x = t := fun {x} hz => by
        cases i with
        | zero => simpa using hz
        | succ j => simp at hz
      have two : ∀ {x y : Plan}, [x, y][i]? = some t → (i = 0 ∧ x = t) ∨ (i = 1 ∧ y = t) := fun {x y} hz => by
        match i with
        | 0 => exact .inl (by simpa using hz)
        | 1 => exact .inr (by simpa using hz)
        | j + 2 => simp at hz
      cases p with
      | pat p => simp [Plan.inner] at z
      | join a b =>
        rcases two (x := a) (y := b) z with ⟨rfl, rfl⟩ | ⟨rfl, rfl⟩
        · exact ⟨⟨k1, h.2⟩, by simp [withInner, Plan.inner, Plan.names, k2], by simp [withInner, Plan.inner, Plan.depth]; omega, by simp [withInner, Plan.inner, leaves]; omega, by simp [withInner, Plan.inner, phi]; omega, by simp [withInner, Plan.inner, wgt]; omega⟩
        · exact ⟨⟨h.1, k1⟩, by simp [withInner, Plan.inner, Plan.names, k2], by simp [withInner, Plan.inner, Plan.depth]; omega, by simp [withInner, Plan.inner, leaves]; omega, by simp [withInner, Plan.inner, phi]; omega, by simp [withInner, Plan.inner, wgt]; omega⟩
      | either a b =>
        rcases two (x := a) (y := b) z with ⟨rfl, rfl⟩ | ⟨rfl, rfl⟩
        · exact ⟨⟨k1, h.2⟩, by simp [withInner, Plan.inner, Plan.names, k2], by simp [withInner, Plan.inner, Plan.depth]; omega, by simp [withInner, Plan.inner, leaves]; omega, by simp [withInner, Plan.inner, phi]; omega, by simp [withInner, Plan.inner, wgt]; omega⟩
        · exact ⟨⟨h.1, k1⟩, by simp [withInner, Plan.inner, Plan.names, k2], by simp [withInner, Plan.inner, Plan.depth]; omega, by simp [withInner, Plan.inner, leaves]; omega, by simp [withInner, Plan.inner, phi]; omega, by simp [withInner, Plan.inner, wgt]; omega⟩
      | without a b =>
        rcases two (x := a) (y := b) z with ⟨rfl, rfl⟩ | ⟨rfl, rfl⟩
        · exact ⟨⟨k1, h.2.1, k2.trans h.2.2⟩, by simp [withInner, Plan.inner, Plan.names, k2], by simp [withInner, Plan.inner, Plan.depth]; omega, by simp [withInner, Plan.inner, leaves]; omega, by simp [withInner, Plan.inner, phi]; omega, by simp [withInner, Plan.inner, wgt]; omega⟩
        · exact ⟨⟨h.1, k1, h.2.2.trans k2.symm⟩, by simp [withInner, Plan.inner, Plan.names], by simp [withInner, Plan.inner, Plan.depth]; omega, by simp [withInner, Plan.inner, leaves]; omega, by simp [withInner, Plan.inner, phi]; omega, by simp [withInner, Plan.inner, wgt]; omega⟩
      | only ns a =>
        obtain ⟨rfl, rfl⟩ := one (x := a) z
        exact ⟨⟨k1, h.2.1, fun n hn => by rw [k2]; exact h.2.2 n hn⟩, rfl, by simp [withInner, Plan.inner, Plan.depth]; omega, by simp [withInner, Plan.inner, leaves]; omega, by simp [withInner, Plan.inner, phi]; omega, by simp [withInner, Plan.inner, wgt]; omega⟩
      | same x y a =>
        obtain ⟨rfl, rfl⟩ := one (x := a) z
        exact ⟨⟨k1, by rw [k2]; exact h.2.1, by rw [k2]; exact h.2.2⟩, by simp [withInner, Plan.inner, Plan.names, k2], by simp [withInner, Plan.inner, Plan.depth]; omega, by simp [withInner, Plan.inner, leaves]; omega, by simp [withInner, Plan.inner, phi]; omega, by simp [withInner, Plan.inner, wgt]; omega⟩
/-! ### the walk downward -/
structure Good (N : List Str) (p : Plan) : Prop where
  ok : p.ok N
  nok : NOk N
  dp : p.depth ≤ 5
  ph : phi p ≤ 12
def ruleAt (p : Plan) (r : List Nat) : Option Nat := downs.find? fun k => match atPath p r with
  | some q => (deed k q).isSome
  | none => false
def nextMove (p : Plan) : Option (List Nat × Nat) := (pathsOf p).findSome? fun r => (ruleAt p r).map fun k => (r, k)
theorem next_some {p : Plan} {r : List Nat} {k : Nat} (h : nextMove p = some (r, k)) : r ∈ pathsOf p ∧ k ∈ downs ∧ ∃ q o, atPath p r = some q ∧ deed k q = some o := by
  unfold nextMove at h
  obtain ⟨r2, hr, e⟩ := List.exists_of_findSome?_eq_some h
  obtain ⟨k2, hk, e2⟩ := Option.map_eq_some_iff.mp e
  cases e2
  refine ⟨hr, List.mem_of_find?_eq_some hk, ?_⟩
  have := List.find?_some hk
  obtain ⟨q, hq⟩ := at_paths hr
  rw [hq] at this
  have this : (deed k q).isSome = true := this
  obtain ⟨o, ho⟩ := Option.isSome_iff_exists.mp this
  exact ⟨q, o, hq, ho⟩
theorem good_step {N : List Str} {p q o : Plan} {r : List Nat} {k : Nat} (g : Good N p) (hq : atPath p r = some q) (ho : deed k q = some o) : Good N (putAt p r o) ∧ (putAt p r o).names = p.names ∧ wgt (putAt p r o) < wgt p := by
  have kq := deed_kept (at_ok g.ok hq).1 ho
  obtain ⟨k1, k2, k3, k4, k5, k6⟩ := put_kept g.ok hq kq
  exact ⟨⟨k1, g.nok, Nat.le_trans k3 g.dp, Nat.le_trans k5 g.ph⟩, k2, k6⟩
/-- p is led to q by the moves ms -/
inductive Steps : Plan → List (List Nat × Nat) → Plan → Prop
  | nil {p : Plan} : Steps p [] p
  | cons {p q o t : Plan} {r : List Nat} {k : Nat} {ms : List (List Nat × Nat)} : r ∈ pathsOf p → k ∈ downs → atPath p r = some q → deed k q = some o → Steps (putAt p r o) ms t → Steps p ((r, k) :: ms) t
theorem Steps.snoc {p q o t : Plan} {r : List Nat} {k : Nat} {ms : List (List Nat × Nat)} (h : Steps p ms t) (h1 : r ∈ pathsOf t) (h2 : k ∈ downs) (h3 : atPath t r = some q) (h4 : deed k q = some o) : Steps p (ms ++ [(r, k)]) (putAt t r o) := by
  induction h with
  | nil => exact .cons h1 h2 h3 h4 .nil
  | cons a b c d _ ih => exact .cons a b c d (ih h1 h3)
theorem Steps.good {N : List Str} {p t : Plan} {ms : List (List Nat × Nat)} (h : Steps p ms t) (g : Good N p) : Good N t ∧ t.names = p.names := by
  induction h with
  | nil => exact ⟨g, rfl⟩
  | cons a b c d _ ih =>
    obtain ⟨g1, n1, _⟩ := good_step g c d
    obtain ⟨g2, n2⟩ := ih g1
    exact ⟨g2, n2.trans n1⟩
def mvE (m : List Nat × Nat) : Dt := .tuple [pathE m.1, .int (m.2 : Nat), .int 0]
end MP
-- PC2
/-! The walks: names, paths. -/
namespace MP
open PySem PySem.Spec PyProof.Rows L2 MH
theorem nms4 {N : List Str} {p : Plan} (h : p.ok N) (n : NOk N) : (stsD p.names).length ≤ 4 := by
  rw [stsD_len]
  exact names_len h n
section
variable {P : Program} {w : World} {K : PySem.W.Frag} {mg : Str → Option Value} {base : Heap}
def WNamesIn (d : Nat) : List Dt → (Dt → Prop) → Prop := fun ds Φ => ∃ N p, ds = [Plan.enc p] ∧ p.ok N ∧ NOk N ∧ p.depth < d ∧ Φ (.tuple (stsD p.names))
theorem sc_names_in : FnScope ["plan"] ["plan"] (defScope (top 8)) := ⟨rfl, rfl, rfl, by decide +kernel, rfl, by decide +kernel, by decide +kernel⟩
theorem c_names_in (W : Wd K mg) : ∀ d, Con P w K mg base "names_in" (d + 16) (spP 1 (WNamesIn d))
  | 0 => by
    obtain ⟨f, fd, hm, F⟩ := W.at_ 5 (x := "names_in") (j := 8)
    exact con_none F hm (ps := ["plan"]) rfl (fun _ _ _ _ _ _ us hl => match us, hl with | [_], _ => rfl) fun ds Φ ⟨N, p, _, _, _, h, _⟩ => absurd h (Nat.not_lt_zero _)
  | d + 1 => by
    have h_names_of := c_names_of (P := P) (w := w) (base := base) W
    have h_inner_of := c_inner_of (P := P) (w := w) (base := base) W
    have h_names_in := c_names_in W d
    obtain ⟨f, fd, hm, F⟩ := W.at_ 5 (x := "names_in") (j := 8)
    refine con_of F hm sc_names_in rfl (fun _ _ _ _ _ _ us hl => match us, hl with | [_], _ => rfl) fun cdv A outer s H E hr => ⟨_, _,
      (dss_cons (ds_if (dt_cmp (op_eqA (hu64 hr)) rd_eq (de_ix (dv 0) de_int) de_str) (dss_one (ds_ret (de_call h_names_of (hr.mono (by omega)) (da_cons (de_ix (dv 0) de_int) da_nil)))) dss_nil)
      (dss_cons (ds_if (dt_cmp (op_eqA (hu64 hr)) rd_eq (de_ix (dv 0) de_int) de_str) (dss_one (ds_ret (de_ix (dv 0) de_int))) dss_nil)
      (dss_cons (ds_if (dt_cmp (op_inA (hu65 hr)) rd_in (de_ix (dv 0) de_int) (de_tup (da_cons de_str (da_cons de_str da_nil)))) (dss_one (ds_ret (de_callTy call_tuple_of rd_tuple (by rfl) W.z_tuple PyProof.Rows.boot_tuple (da_cons (FE.de (fe_sortSet (x := "") (y := "") rfl (hu64 hr) (de_op op_catA rd_addT (de_call h_names_in (hr.mono (by omega)) (da_cons (de_ix (dv 0) de_int) da_nil)) (de_call h_names_in (hr.mono (by omega)) (da_cons (de_ix (dv 0) de_int) da_nil))) rfl W.z_sorted rfl W.z_set)) da_nil)))) dss_nil)
      (dss_one (ds_ret (de_call h_names_in (hr.mono (by omega)) (da_cons (de_ix (de_call h_inner_of (hr.mono (by omega)) (da_cons (dv 0) da_nil)) de_int) da_nil))))))), fun ds Φ hl hW => ?_⟩
    obtain ⟨N, p, e, hp, n, hd, q⟩ := hW
    subst e
    cases p with
    | pat p => simp [Plan.enc] ; exact ⟨N, p, rfl, hp, q⟩
    | only ns a => simp [Plan.enc] at q ⊢ ; exact q
    | join a b =>
      simp [Plan.enc]
      simp [Plan.depth] at hd
      refine ⟨N, a, rfl, hp.1, n, by omega, N, b, rfl, hp.2, n, by omega, _, rfl, _, rfl, ?_, a.names ++ b.names, stsD_app _ _, ?_, a.names ++ b.names, rfl, ?_, q⟩
      · have := names_len hp.1 n
        have := names_len hp.2 n
        rw [stsD_len, stsD_len, sizeL]
        omega
      · have := names_len hp.1 n
        have := names_len hp.2 n
        rw [List.length_append]
        omega
      · have := names_len hp.1 n
        have := names_len hp.2 n
        rw [List.length_append]
        omega
    | either a b =>
      simp [Plan.enc]
      simp [Plan.depth] at hd
      refine ⟨N, a, rfl, hp.1, n, by omega, N, b, rfl, hp.2, n, by omega, _, rfl, _, rfl, ?_, a.names ++ b.names, stsD_app _ _, ?_, a.names ++ b.names, rfl, ?_, q⟩
      · have := names_len hp.1 n
        have := names_len hp.2 n
        rw [stsD_len, stsD_len, sizeL]
        omega
      · have := names_len hp.1 n
        have := names_len hp.2 n
        rw [List.length_append]
        omega
      · have := names_len hp.1 n
        have := names_len hp.2 n
        rw [List.length_append]
        omega
    | without a b =>
      have hd' : a.depth < d := by simp [Plan.depth] at hd; omega
      have e : (Plan.without a b).enc = .tuple [.str "without", a.enc, b.enc] := by simp [Plan.enc]
      rw [e]
      simp
      rw [← e]
      refine ⟨.without a b, rfl, a.enc, by simp [Plan.inner], N, a, rfl, hp.1, n, hd', q⟩
    | same x y a =>
      have hd' : a.depth < d := by simp [Plan.depth] at hd; omega
      have e : (Plan.same x y a).enc = .tuple [.str "same", .str x, .str y, a.enc] := by simp [Plan.enc]
      rw [e]
      simp
      rw [← e]
      refine ⟨.same x y a, rfl, a.enc, by simp [Plan.inner], N, a, rfl, hp.1, n, hd', q⟩
theorem sc_at_path : FnScope ["plan", "path", "k", "parts"] ["plan", "path"] (defScope (top 9)) := ⟨rfl, rfl, rfl, by decide +kernel, rfl, by decide +kernel, by decide +kernel⟩
theorem c_at_path (W : Wd K mg) : Con P w K mg base "at_path" 2 (spP 2 fun ds Φ => ∃ (p : Plan) (r : List Nat), ds = [p.enc, pathE r] ∧ Φ (optE (atPath p r))) := by
  have h_inner_of := c_inner_of (P := P) (w := w) (base := base) W
  obtain ⟨f, fd, hm, F⟩ := W.at_ 6 (x := "at_path") (j := 9)
  refine con_of F hm sc_at_path rfl (fun _ _ _ _ _ _ us hl => match us, hl with | [_, _], _ => rfl) fun cdv A outer s H E hr => ⟨_, _,
      (dss_cons (ds_for PassesOwn.never rfl (di_tup (dv 1)) (dg_name (i := 2) sc_at_path.nd) (dss_cons (ds_set (i := 3) (de_call h_inner_of (hr.mono (by omega)) (da_cons (dv 0) da_nil)) sc_at_path.nd)
      (dss_cons (ds_if (dt_cmp op_ge rd_rB0 (dv 2) (de_callB call_len rd_len (by rfl) W.z_len boot_len (da_cons (dv 3) da_nil))) (dss_one (ds_ret de_non)) dss_nil)
      (dss_one (ds_set (i := 0) (de_ix (dv 3) (dv 2)) sc_at_path.nd)))))
      (dss_one (ds_ret (dv 0)))), fun ds Φ hl hW => ?_⟩
  obtain ⟨p, r, e, q⟩ := hW
  subst e
  simp [pathE, intsD]
  refine loop_inv (fun (l : List Nat) ρ => ∃ q a b, ρ = [.da (Plan.enc q), .da (pathE r), a, b] ∧ atPath p r = atPath q l) ⟨p, .no, .no, rfl, rfl⟩ ?_ ?_
  · rintro k l ρ ⟨t, a, b, e, ht⟩ hk C hC
    subst e
    simp
    refine ⟨t, rfl, ?_⟩
    by_cases c : k < t.inner.length
    · refine .inl ⟨c, (t.inner[k]).enc, ?_, hC _ ⟨t.inner[k], _, _, rfl, ?_⟩⟩
      · rw [at_nat (by simpa using c), List.getElem?_map, List.getElem?_eq_getElem c]
        rfl
      · rw [ht, atPath, List.getElem?_eq_getElem c]
    · refine .inr ⟨by omega, ?_⟩
      rw [ht, atPath, List.getElem?_eq_none (by omega)] at q
      exact q
  · rintro ρ ⟨t, a, b, e, ht⟩
    subst e
    simp
    rw [ht] at q
    exact q
def WPutAt (d : Nat) : List Dt → (Dt → Prop) → Prop := fun ds Φ => ∃ (p : Plan) (r : List Nat) (o : Plan), ds = [p.enc, pathE r, o.enc] ∧ r.length < d ∧ d ≤ 1000 ∧ (∃ q, atPath p r = some q) ∧ Φ (putAt p r o).enc
theorem sc_put_at : FnScope ["plan", "path", "other", "first", "rest", "parts"] ["plan", "path", "other"] (defScope (top 10)) := ⟨rfl, rfl, rfl, by decide +kernel, rfl, by decide +kernel, by decide +kernel⟩
theorem c_put_at (W : Wd K mg) : ∀ d, Con P w K mg base "put_at" (d + 2) (spP 3 (WPutAt d))
  | 0 => by
    obtain ⟨f, fd, hm, F⟩ := W.at_ 7 (x := "put_at") (j := 10)
    exact con_none F hm (ps := ["plan", "path", "other"]) rfl (fun _ _ _ _ _ _ us hl => match us, hl with | [_, _, _], _ => rfl) fun ds Φ ⟨_, _, _, _, h, _⟩ => absurd h (Nat.not_lt_zero _)
  | d + 1 => by
    have h_inner_of := c_inner_of (P := P) (w := w) (base := base) W
    have h_with_inner := c_with_inner (P := P) (w := w) (base := base) W
    have h_put_at := c_put_at W d
    obtain ⟨f, fd, hm, F⟩ := W.at_ 7 (x := "put_at") (j := 10)
    refine con_of F hm sc_put_at rfl (fun _ _ _ _ _ _ us hl => match us, hl with | [_, _, _], _ => rfl) fun cdv A outer s H E hr => ⟨_, _,
      (dss_cons (ds_if (dt_cmp (op_eqA (hu64 hr)) rd_eq (dv 1) (de_tup da_nil)) (dss_one (ds_ret (dv 2))) dss_nil)
      (dss_cons (ds_star (i := 3) (j := 4) (dv 1) rfl sc_put_at.nd)
      (dss_cons (ds_setO (i := 5) (fe_callTy call_list_of rd_list (by rfl) W.z_list PyProof.Rows.boot_list (da_cons (de_call h_inner_of (hr.mono (by omega)) (da_cons (dv 0) da_nil)) da_nil)) sc_put_at.nd)
      (dss_cons (ds_setIx (i := 5) (de_call h_put_at (hr.mono (by omega)) (da_cons (de_ixO (i := 5) (dv 3)) (da_cons (de_callTy call_tuple_of rd_tuple (by rfl) W.z_tuple PyProof.Rows.boot_tuple (da_cons (dv 4) da_nil)) (da_cons (dv 2) da_nil)))) (dv 3))
      (dss_one (ds_pub 5 (ds_ret (de_call h_with_inner (hr.mono (by omega)) (da_cons (dv 0) (da_cons (dv 5) da_nil)))))))))), fun ds Φ hl hW => ?_⟩
    obtain ⟨p, r, o, e, hr2, hd, ⟨t, ht⟩, q⟩ := hW
    subst e
    cases r with
    | nil =>
      have h0 : EqOk (pathE []) (.tuple []) := .inr ⟨shp_ints [], shp_ints []⟩
      have h1 : PyData.eqv (pathE []) (.tuple []) = true := by simp [pathE, intsD, PyData.eqv, PyData.eqvAll]
      simp [h0, h1]
      exact q
    | cons k r =>
      have h0 : EqOk (pathE (k :: r)) (.tuple []) := .inr ⟨shp_ints _, shp_ints []⟩
      have h1 : PyData.eqv (pathE (k :: r)) (.tuple []) = false := by simp [pathE, intsD, PyData.eqv, PyData.eqvAll]
      have hk : k < p.inner.length := by
        unfold atPath at ht
        rcases Nat.lt_or_ge k p.inner.length with c | c
        · exact c
        · rw [List.getElem?_eq_none c] at ht
          cases ht
      have hi : p.inner[k]? = some p.inner[k] := List.getElem?_eq_getElem hk
      simp [h0, h1]
      refine ⟨.int k, intsD r, rfl, ?_, ?_⟩
      · have : (intsD r).length = r.length := by simp [intsD]
        rw [this]
        simp at hr2
        omega
      · refine ⟨p, rfl, (p.inner[k]).enc, ?_, p.inner[k], r, o, rfl, by simp at hr2; omega, by omega, ⟨t, ?_⟩, k, rfl, k, ?_, p, p.inner.set k (putAt p.inner[k] r o), ?_, by simp, ?_⟩
        · rw [ixL, at_nat (by simpa using hk), List.getElem?_map, hi]
          rfl
        · unfold atPath at ht
          rw [hi] at ht
          exact ht
        · unfold ixN
          rw [if_pos (by omega), if_pos (by simpa using hk)]
          rfl
        · rw [List.map_set]
          exact ⟨rfl, rfl⟩
        · unfold putAt at q
          rw [hi] at q
          exact q
def WPathsOf (d : Nat) : List Dt → (Dt → Prop) → Prop := fun ds Φ => ∃ p : Plan, ds = [p.enc] ∧ p.depth < d ∧ d ≤ 1000 ∧ (pathsOf p).length ≤ 1000 ∧ Φ (.list ((pathsOf p).map pathE))
theorem pathsOf_eq (p : Plan) : pathsOf p = [] :: ((List.range p.inner.length).map fun k => (pathsOf (p.inner.getD k p)).map (k :: ·)).flatten := by
  cases p <;> simp [pathsOf, Plan.inner, List.range_succ]
theorem enum_inner (p : Plan) : enumD 0 (p.inner.map Plan.enc) = (List.range p.inner.length).map fun k => .tuple [.int (k : Nat), (p.inner.getD k p).enc] := by
  cases p <;> simp [Plan.inner, enumD, List.range_succ]
theorem sc_paths_of : FnScope ["plan", "found", "k", "part", "path"] ["plan"] (defScope (top 11)) := ⟨rfl, rfl, rfl, by decide +kernel, rfl, by decide +kernel, by decide +kernel⟩
theorem c_paths_of (W : Wd K mg) : ∀ d, Con P w K mg base "paths_of" (d + 2) (spP 1 (WPathsOf d))
  | 0 => by
    obtain ⟨f, fd, hm, F⟩ := W.at_ 8 (x := "paths_of") (j := 11)
    exact con_none F hm (ps := ["plan"]) rfl (fun _ _ _ _ _ _ us hl => match us, hl with | [_], _ => rfl) fun ds Φ ⟨_, _, h, _⟩ => absurd h (Nat.not_lt_zero _)
  | d + 1 => by
    have h_inner_of := c_inner_of (P := P) (w := w) (base := base) W
    have h_paths_of := c_paths_of W d
    obtain ⟨f, fd, hm, F⟩ := W.at_ 8 (x := "paths_of") (j := 11)
    refine con_of F hm sc_paths_of rfl (fun _ _ _ _ _ _ us hl => match us, hl with | [_], _ => rfl) fun cdv A outer s H E hr => ⟨_, _,
      (dss_cons (ds_setO (i := 1) (fe_lst (da_cons (de_tup da_nil) da_nil)) sc_paths_of.nd)
      (dss_cons (ds_for PassesOwn.never rfl (di_enumT W.z_enumerate (de_call h_inner_of (hr.mono (by omega)) (da_cons (dv 0) da_nil))) (dg_tup rfl (dgs_cons (dg_name (i := 2) sc_paths_of.nd) (dgs_cons (dg_name (i := 3) sc_paths_of.nd) dgs_nil))) (dss_one (ds_extend (i := 1) (fe_lc (own := [("path", 4)]) rfl sc_paths_of.nd (di_list (de_call h_paths_of (hr.mono (by omega)) (da_cons (dv 3) da_nil))) (blkOk_by (own := [("path", 4)]) (N := ["plan", "found", "k", "part", "path"]) (sc := defScope (top 11)) (by decide +kernel)) (fun _ _ _ _ _ => (dg_name (i := 4) sc_paths_of.nd)) (fun _ _ _ _ _ => dts_nil) (fun _ _ _ _ _ => (DE.castK (de_op op_catA rd_addT (de_tup (da_cons (dv 2) da_nil)) (dv 4)) (by dsimp only [Cx.blk] <;> rfl)))))))
      (dss_one (ds_pub 1 (ds_ret (dv 1)))))), fun ds Φ hl hW => ?_⟩
    obtain ⟨p, e, hd, hd3, hz, q⟩ := hW
    subst e
    simp
    refine ⟨p, rfl, ?_⟩
    rw [enum_inner]
    have hall : ∀ done l : List Nat, done ++ l = List.range p.inner.length → ([] :: (done.map fun k => (pathsOf (p.inner.getD k p)).map (k :: ·)).flatten : List (List Nat)).length ≤ 1000 := fun done l h => by
      have e := pathsOf_eq p
      rw [← h] at e
      rw [e, List.map_append, List.flatten_append] at hz
      simp only [List.length_cons, List.length_append] at hz ⊢
      omega
    refine loop_inv (fun (l : List Nat) ρ => ∃ (done : List Nat) (found : List (List Nat)) (a b c : Sl), done ++ l = List.range p.inner.length ∧ found = [] :: (done.map fun k => (pathsOf (p.inner.getD k p)).map (k :: ·)).flatten ∧ ρ = [.da p.enc, .ow (found.map pathE), a, b, c])
      ⟨[], [[]], .no, .no, .no, rfl, rfl, rfl⟩ ?_ ?_
    · rintro k l ρ ⟨done, found, a, b, c, hdl, ef, e⟩ hk C hC
      subst e
      have hk2 : k < p.inner.length := List.mem_range.mp hk
      have hg : p.inner.getD k p = p.inner[k] := by simp [List.getD, hk2]
      have hin : p.inner[k] ∈ p.inner := List.getElem_mem hk2
      have hnx := hall (done ++ [k]) l (by rw [← hdl]; simp)
      have hl2 := hall done (k :: l) hdl
      rw [← ef] at hl2
      rw [List.map_append, List.flatten_append] at hnx
      simp [hk2] at hnx
      simp [hk2]
      refine ⟨rfl, _, _, ⟨rfl, rfl⟩, _, _, rfl, rfl, p.inner[k], rfl, Nat.lt_of_lt_of_le (inner_depth _ hin) (by omega), by omega, by omega, _, rfl, by simp; omega, ?_⟩
      refine lc_map (F := fun r => some (pathE (k :: r))) (l := pathsOf p.inner[k]) (fun r hr C hC => ?_) ?_
      · simp [pathE, intsD]
        refine ⟨by have := paths_len hr; have := inner_depth _ hin; rw [sizeL]; omega, ?_⟩
        exact hC
      · simp
        refine ⟨by rw [sizeL]; omega, ?_⟩
        refine hC _ ⟨done ++ [k], found ++ (pathsOf p.inner[k]).map (k :: ·), .da (.int (k : Nat)), .da p.inner[k].enc, .no, by rw [← hdl]; simp, by rw [ef, List.map_append, List.flatten_append]; simp [hk2], ?_⟩
        simp
    · rintro ρ ⟨done, found, a, b, c, hdl, ef, e⟩
      subst e
      rw [List.append_nil] at hdl
      simp
      rw [pathsOf_eq, ← hdl, ← ef] at q
      exact q
end
end MP
-- PC3
/-! The walks: bounds, names kept. -/
namespace MP
open PySem PySem.Spec PyProof.Rows L2 MH
theorem Wd.most {K : PySem.W.Frag} {mg : Str → Option Value} (W : Wd K mg) : ∃ t, mg "MOST_NAMES" = some (.int 4 t) := by
  obtain ⟨_, X, G, _⟩ := W.ex
  exact He.int_ok X G (W.says.1.fact 76 (f := .int "MOST_NAMES" 4) rfl)
section
variable {P : Program} {w : World} {K : PySem.W.Frag} {mg : Str → Option Value} {base : Heap}
def WFits : List Dt → (Dt → Prop) → Prop := fun ds Φ => ∃ N p, ds = [Plan.enc p] ∧ p.ok N ∧ NOk N ∧ p.depth ≤ 5 ∧ (pathsOf p).length ≤ 12 ∧ Φ (.bool true)
theorem sc_fits_bounds : FnScope ["plan", "paths", "path"] ["plan"] (defScope (top 12)) := ⟨rfl, rfl, rfl, by decide +kernel, rfl, by decide +kernel, by decide +kernel⟩
theorem c_fits_bounds (W : Wd K mg) : Con P w K mg base "fits_bounds" 24 (spP 1 WFits) := by
  have h_paths_of := c_paths_of (P := P) (w := w) (base := base) W 6
  have h_at_path := c_at_path (P := P) (w := w) (base := base) W
  have h_names_in := c_names_in (P := P) (w := w) (base := base) W 6
  obtain ⟨tM, hMN⟩ := W.most
  obtain ⟨f, fd, hm, F⟩ := W.at_ 9 (x := "fits_bounds") (j := 12)
  refine con_of F hm sc_fits_bounds rfl (fun _ _ _ _ _ _ us hl => match us, hl with | [_], _ => rfl) fun cdv A outer s H E hr => ⟨_, _,
      (dss_cons (ds_set (i := 1) (de_call h_paths_of (hr.mono (by omega)) (da_cons (dv 0) da_nil)) sc_fits_bounds.nd)
      (dss_cons (ds_if (dw_or (dt_cmp op_gt rd_rB0 (de_callB call_len rd_len (by rfl) W.z_len boot_len (da_cons (dv 1) da_nil)) de_int) (dw_or1 (dt_cmp op_gt rd_rB0 (de_callB (cr_max rfl) rd_maxL (by rfl) W.z_max boot_max (da_cons (FE.de (fe_lc (own := [("path", 2)]) rfl sc_fits_bounds.nd (di_list (dv 1)) (blkOk_by (own := [("path", 2)]) (N := ["plan", "paths", "path"]) (sc := defScope (top 12)) (by decide +kernel)) (fun _ _ _ _ _ => (dg_name (i := 2) sc_fits_bounds.nd)) (fun _ _ _ _ _ => dts_nil) (fun _ _ _ _ _ => (DE.castK (de_callB call_len rd_len (by rfl) W.z_len boot_len (da_cons (dv 2) da_nil)) (by dsimp only [Cx.blk] <;> rfl))))) da_nil)) de_int))).dt (dss_one (ds_ret de_bl)) dss_nil)
      (dss_one (ds_ret (de_notT (FE.de (fe_lc (own := [("path", 2)]) rfl sc_fits_bounds.nd (di_list (dv 1)) (blkOk_by (own := [("path", 2)]) (N := ["plan", "paths", "path"]) (sc := defScope (top 12)) (by decide +kernel)) (fun _ _ _ _ _ => (dg_name (i := 2) sc_fits_bounds.nd)) (fun _ _ _ _ _ => (DTs.castK (dts_one (dt_cmp op_gt rd_rB0 (de_callB call_len rd_len (by rfl) W.z_len boot_len (da_cons (de_call h_names_in (hr.mono (by omega)) (da_cons (de_call h_at_path (hr.mono (by omega)) (da_cons (dv 0) (da_cons (dv 2) da_nil))) da_nil)) da_nil)) (de_gint (by rfl) hMN ⟨_, rfl⟩))) (by dsimp only [Cx.blk] <;> rfl))) (fun _ _ _ _ _ => (dv 2))))))))), fun ds Φ hl hW => ?_⟩
  obtain ⟨N, p, e, hp, n, hd, hz, q⟩ := hW
  subst e
  simp
  refine ⟨p, rfl, by omega, by omega, by omega, ?_⟩
  have il : ∀ r : List Nat, (intsD r).length = r.length := fun r => by simp [intsD]
  have pl : ∀ r ∈ pathsOf p, r.length ≤ 5 := fun r hr => Nat.le_trans (paths_len hr) hd
  simp
  refine .inl ⟨by omega, by omega, ?_⟩
  refine lc_map (F := fun r => some (.int (r.length : Nat))) (l := pathsOf p) (fun r hr C hC => ?_) ?_
  · simp [pathE, il]
    exact hC
  · refine ⟨(pathsOf p).map fun r => ((r.length : Nat) : Int), by simp, by rw [pathsOf_eq]; simp, fun m hm _ => .inl ⟨?_, _, rfl, _, rfl, by simp; omega, ?_⟩⟩
    · obtain ⟨r, hr, rfl⟩ := List.mem_map.mp hm
      have := pl r hr
      omega
    · refine lc_map (F := fun r => none) (l := pathsOf p) (fun r hr C hC => ?_) ?_
      · obtain ⟨t, ht⟩ := at_paths hr
        obtain ⟨h1, h2⟩ := at_ok hp ht
        have h3 := names_len h1 n
        simp
        refine ⟨p, r, ⟨rfl, rfl⟩, N, t, by rw [ht]; rfl, h1, n, by omega, ?_⟩
        have h4 : ¬ ((4 : Int) < (t.names.length : Nat)) := by omega
        have h5 : ((t.names.length : Nat) : Int) ≤ 4 := by omega
        simp [h4, h5]
        exact hC
      · simp
        exact q
def WAmong : List Dt → (Dt → Prop) → Prop := fun ds Φ => ∃ (N : List Str) (p : Plan) (ns : List Str), ds = [.tuple (stsD ns), Plan.enc p] ∧ p.ok N ∧ NOk N ∧ p.depth ≤ 5 ∧ ns.length ≤ 4 ∧ Φ (.tuple (stsD (among ns p)))
theorem in_strs (x : Str) (ys : List Str) : InOk (.str x) (.tuple (stsD ys)) ∧ inD (.str x) (.tuple (stsD ys)) = decide (x ∈ ys) := by
  constructor
  · rw [inok_T]
    simp [stsD, flatD]
  · rw [in_T, Bool.eq_iff_iff]
    simp [stsD]
theorem sc_among : FnScope ["names", "plan", "there", "name"] ["names", "plan"] (defScope (top 17)) := ⟨rfl, rfl, rfl, by decide +kernel, rfl, by decide +kernel, by decide +kernel⟩
theorem c_among (W : Wd K mg) : Con P w K mg base "among" 24 (spP 2 WAmong) := by
  have h_names_in := c_names_in (P := P) (w := w) (base := base) W 6
  obtain ⟨f, fd, hm, F⟩ := W.at_ 10 (x := "among") (j := 17)
  refine con_of F hm sc_among rfl (fun _ _ _ _ _ _ us hl => match us, hl with | [_, _], _ => rfl) fun cdv A outer s H E hr => ⟨_, _,
      (dss_cons (ds_set (i := 2) (de_call h_names_in (hr.mono (by omega)) (da_cons (dv 1) da_nil)) sc_among.nd)
      (dss_one (ds_ret (de_callTy call_tuple_of rd_tuple (by rfl) W.z_tuple PyProof.Rows.boot_tuple (da_cons (FE.de (fe_lc (own := [("name", 3)]) rfl sc_among.nd (di_tup (dv 0)) (blkOk_by (own := [("name", 3)]) (N := ["names", "plan", "there", "name"]) (sc := defScope (top 17)) (by decide +kernel)) (fun _ _ _ _ _ => (dg_name (i := 3) sc_among.nd)) (fun _ _ _ _ _ => (DTs.castK (dts_one (dt_cmp (op_inA (hu65 hr)) rd_in (dv 3) (dv 2))) (by dsimp only [Cx.blk] <;> rfl))) (fun _ _ _ _ _ => (dv 3)))) da_nil))))), fun ds Φ hl hW => ?_⟩
  obtain ⟨N, p, ns, e, hp, n, hd, hl, q⟩ := hW
  subst e
  simp
  refine ⟨N, p, rfl, hp, n, by omega, ?_⟩
  simp
  refine ⟨by omega, ?_⟩
  refine lc_map (F := fun x => if x ∈ p.names then some (.str x) else none) (g := PyData.str) (l := ns) (fun x hx C hC => ?_) ?_
  · obtain ⟨h1, h2⟩ := in_strs x p.names
    by_cases c : x ∈ p.names
    · simp [h1, h2, c] at hC ⊢
      exact hC
    · simp [h1, h2, c] at hC ⊢
      exact hC
  · have e : ns.filterMap (fun x => if x ∈ p.names then some (PyData.str x) else none) = stsD (among ns p) := by
      unfold among stsD
      rw [← List.filterMap_eq_map, List.filterMap_filter]
      congr 1
      funext x
      by_cases c : x ∈ p.names <;> simp [c]
    rw [e]
    exact q
end
end MP
-- PC4
/-! The walks: the downward rules. -/
namespace MP
open PySem PySem.Spec PyProof.Rows L2 MH
def Plan.tag : Plan → String
  | .pat _ => "pattern"
  | .join _ _ => "join"
  | .either _ _ => "either"
  | .without _ _ => "without"
  | .only _ _ => "only"
  | .same _ _ _ => "same"
def Plan.rest : Plan → List Dt
  | .pat p => [p.enc]
  | .join a b => [a.enc, b.enc]
  | .either a b => [a.enc, b.enc]
  | .without a b => [a.enc, b.enc]
  | .only ns a => [.tuple (stsD ns), a.enc]
  | .same x y a => [.str x, .str y, a.enc]
theorem enc_eq (p : Plan) : p.enc = .tuple (.str (Str.ofString p.tag) :: p.rest) := by cases p <;> simp [Plan.enc, Plan.tag, Plan.rest, sts, stsD]
theorem enc_pat (p : Pat) : (Plan.pat p).enc = .tuple [.str "pattern", p.enc] := enc_eq _
theorem enc_join (a b : Plan) : (Plan.join a b).enc = .tuple [.str "join", a.enc, b.enc] := enc_eq _
theorem enc_either (a b : Plan) : (Plan.either a b).enc = .tuple [.str "either", a.enc, b.enc] := enc_eq _
theorem enc_without (a b : Plan) : (Plan.without a b).enc = .tuple [.str "without", a.enc, b.enc] := enc_eq _
theorem enc_only (ns : List Str) (a : Plan) : (Plan.only ns a).enc = .tuple [.str "only", .tuple (stsD ns), a.enc] := enc_eq _
theorem enc_same (x y : Str) (a : Plan) : (Plan.same x y a).enc = .tuple [.str "same", .str x, .str y, a.enc] := enc_eq _
theorem tag_only {p : Plan} (h : p.tag = "only") : ∃ ns a, p = .only ns a := by
  cases p <;> first | exact ⟨_, _, rfl⟩ | (simp [Plan.tag] at h)
theorem tag_same {p : Plan} (h : p.tag = "same") : ∃ x y a, p = .same x y a := by
  cases p <;> first | exact ⟨_, _, _, rfl⟩ | (simp [Plan.tag] at h)
theorem tag_either {p : Plan} (h : p.tag = "either") : ∃ a b, p = .either a b := by
  cases p <;> first | exact ⟨_, _, rfl⟩ | (simp [Plan.tag] at h)
theorem tag_join {p : Plan} (h : p.tag = "join") : ∃ a b, p = .join a b := by
  cases p <;> first | exact ⟨_, _, rfl⟩ | (simp [Plan.tag] at h)
theorem tag_without {p : Plan} (h : p.tag = "without") : ∃ a b, p = .without a b := by
  cases p <;> first | exact ⟨_, _, rfl⟩ | (simp [Plan.tag] at h)
@[simp] theorem cut13 (a b c d : Dt) : cutD [a, b, c, d] (some 1) (some 3) = [b, c] := rfl
@[simp] theorem cut03 (a b c d : Dt) : cutD [a, b, c, d] none (some 3) = [a, b, c] := rfl
@[simp] theorem size4 : 3 + 1 ≤ sizeLine := by decide
/-- what a downward rule is asked, what it answers -/
def WDeed (r : Nat) : List Dt → (Dt → Prop) → Prop := fun ds Φ => ∃ (N : List Str) (p : Plan), ds = [p.enc] ∧ p.ok N ∧ NOk N ∧ p.depth ≤ 5 ∧ Φ (optE (deed r p))
section
variable {P : Program} {w : World} {K : PySem.W.Frag} {mg : Str → Option Value} {base : Heap}
def WDealt : List Dt → (Dt → Prop) → Prop := fun ds Φ => ∃ (N ns : List Str) (q a b : Plan) (v u : Str), ds = [(Plan.only ns q).enc, .str v] ∧ q.enc = .tuple [.str u, a.enc, b.enc] ∧ a.ok N ∧ b.ok N ∧ NOk N ∧ a.depth ≤ 5 ∧ b.depth ≤ 5 ∧ ns.length ≤ 4 ∧
  Φ (.tuple [.str v, (Plan.only (among ns a) a).enc, (Plan.only (among ns b) b).enc])
theorem sc_only_dealt : FnScope ["plan", "word", "names", "inner", "one", "other"] ["plan", "word"] (defScope (top 28)) := ⟨rfl, rfl, rfl, by decide +kernel, rfl, by decide +kernel, by decide +kernel⟩
theorem c_only_dealt (W : Wd K mg) : Con P w K mg base "only_dealt" 25 (spP 2 WDealt) := by
  have h_among := c_among (P := P) (w := w) (base := base) W
  obtain ⟨f, fd, hm, F⟩ := W.at_ 11 (x := "only_dealt") (j := 28)
  refine con_of F hm sc_only_dealt rfl (fun _ _ _ _ _ _ us hl => match us, hl with | [_, _], _ => rfl) fun cdv A outer s H E hr => ⟨_, _,
      (dss_cons (ds_par (i := 2) (j := 3) (de_ix (dv 0) de_int) (de_ix (dv 0) de_int) rfl sc_only_dealt.nd)
      (dss_cons (ds_set (i := 4) (de_tup (da_cons de_str (da_cons (de_call h_among (hr.mono (by omega)) (da_cons (dv 2) (da_cons (de_ix (dv 3) de_int) da_nil))) (da_cons (de_ix (dv 3) de_int) da_nil)))) sc_only_dealt.nd)
      (dss_cons (ds_set (i := 5) (de_tup (da_cons de_str (da_cons (de_call h_among (hr.mono (by omega)) (da_cons (dv 2) (da_cons (de_ix (dv 3) de_int) da_nil))) (da_cons (de_ix (dv 3) de_int) da_nil)))) sc_only_dealt.nd)
      (dss_one (ds_ret (de_tup (da_cons (dv 1) (da_cons (dv 4) (da_cons (dv 5) da_nil))))))))), fun ds Φ hl hW => ?_⟩
  obtain ⟨N, ns, p, a, b, v, u, e, eq, ha, hb, n, da, db, h4, q⟩ := hW
  subst e
  rw [enc_only, enc_only] at q
  rw [enc_only, eq]
  simp
  exact ⟨N, a, ns, by simp, ha, n, da, h4, N, b, ns, by simp, hb, n, db, h4, q⟩
def WShared : List Dt → (Dt → Prop) → Prop := fun ds Φ => ∃ (N ns : List Str) (a b : Plan), ds = [.tuple (stsD ns), (Plan.join a b).enc] ∧ a.ok N ∧ b.ok N ∧ NOk N ∧ a.depth ≤ 5 ∧ b.depth ≤ 5 ∧ ns.length ≤ 4 ∧ Φ (.bool (shared ns a b))
theorem sc_shared_kept : FnScope ["names", "plan", "theirs", "name"] ["names", "plan"] (defScope (top 43)) := ⟨rfl, rfl, rfl, by decide +kernel, rfl, by decide +kernel, by decide +kernel⟩
theorem c_shared_kept (W : Wd K mg) : Con P w K mg base "shared_kept" 25 (spP 2 WShared) := by
  have h_names_in := c_names_in (P := P) (w := w) (base := base) W 6
  obtain ⟨f, fd, hm, F⟩ := W.at_ 15 (x := "shared_kept") (j := 43)
  refine con_of F hm sc_shared_kept rfl (fun _ _ _ _ _ _ us hl => match us, hl with | [_, _], _ => rfl) fun cdv A outer s H E hr => ⟨_, _,
      (dss_cons (ds_set (i := 2) (de_call h_names_in (hr.mono (by omega)) (da_cons (de_ix (dv 1) de_int) da_nil)) sc_shared_kept.nd)
      (dss_one (ds_ret (de_cmp (op_eqA (hu64 hr)) rd_eq (FE.de (fe_lc (own := [("name", 3)]) rfl sc_shared_kept.nd (di_tup (de_call h_names_in (hr.mono (by omega)) (da_cons (de_ix (dv 1) de_int) da_nil))) (blkOk_by (own := [("name", 3)]) (N := ["names", "plan", "theirs", "name"]) (sc := defScope (top 43)) (by decide +kernel)) (fun _ _ _ _ _ => (dg_name (i := 3) sc_shared_kept.nd)) (fun _ _ _ _ _ => (DTs.castK (dts_one (dw_and (dt_cmp (op_inA (hu65 hr)) rd_in (dv 3) (dv 2)) (dw_and1 (dt_cmp (op_notInA (hu65 hr)) rd_notIn (dv 3) (dv 0)))).dt) (by dsimp only [Cx.blk] <;> rfl))) (fun _ _ _ _ _ => (dv 3)))) (FE.de (fe_lst da_nil)))))), fun ds Φ hl hW => ?_⟩
  obtain ⟨N, ns, a, b, e, ha, hb, n, da, db, h4, q⟩ := hW
  subst e
  rw [enc_join]
  simp
  refine ⟨N, b, rfl, hb, n, by omega, N, a, rfl, ha, n, by omega, ?_⟩
  simp
  have hz := names_len ha n
  refine ⟨by omega, ?_⟩
  refine lc_map (F := fun x => if x ∈ b.names ∧ ¬ x ∈ ns then some (.str x) else none) (g := PyData.str) (l := a.names) (fun x hx C hC => ?_) ?_
  · obtain ⟨h1, h2⟩ := in_strs x b.names
    obtain ⟨h3, h5⟩ := in_strs x ns
    by_cases c : x ∈ b.names
    · by_cases c2 : x ∈ ns
      · simp [h1, h2, h3, h5, c, c2] at hC ⊢
        exact hC
      · simp [h1, h2, h3, h5, c, c2] at hC ⊢
        exact hC
    · simp [h1, h2, h3, h5, c] at hC ⊢
      exact hC
  · have e : a.names.filterMap (fun x => if x ∈ b.names ∧ ¬ x ∈ ns then some (PyData.str x) else none) = stsD (a.names.filter fun n => decide (n ∈ b.names) && !decide (n ∈ ns)) := by
      unfold stsD
      rw [← List.filterMap_eq_map, List.filterMap_filter]
      congr 1
      funext x
      by_cases c : x ∈ b.names <;> by_cases c2 : x ∈ ns <;> simp [c, c2]
    rw [e]
    have s1 := (shp_strs (ns := a.names.filter fun n => decide (n ∈ b.names) && !decide (n ∈ ns)) fun m hm => n.short m (names_sub ha m (List.mem_filter.mp hm).1)).2
    have s2 := (shp_strs (ns := []) fun m hm => by cases hm).2
    have ok : EqOk (.list (stsD (a.names.filter fun n => decide (n ∈ b.names) && !decide (n ∈ ns)))) (.list []) := .inr ⟨s1, s2⟩
    refine ⟨ok, ?_⟩
    have ev : PyData.eqv (.list (stsD (a.names.filter fun n => decide (n ∈ b.names) && !decide (n ∈ ns)))) (.list []) = shared ns a b := by
      rw [← stsD_nil, v_strsL, Bool.eq_iff_iff]
      unfold shared
      simp
    rw [ev]
    exact q
def WBoth : List Dt → (Dt → Prop) → Prop := fun ds Φ => ∃ (N : List Str) (p : Plan) (x y : Str), ds = [p.enc, .tuple [.str x, .str y]] ∧ p.ok N ∧ NOk N ∧ p.depth ≤ 5 ∧ Φ (.bool (both x y p))
theorem sc_has_both : FnScope ["plan", "names"] ["plan", "names"] (defScope (top 47)) := ⟨rfl, rfl, rfl, by decide +kernel, rfl, by decide +kernel, by decide +kernel⟩
theorem c_has_both (W : Wd K mg) : Con P w K mg base "has_both" 25 (spP 2 WBoth) := by
  have h_among := c_among (P := P) (w := w) (base := base) W
  obtain ⟨f, fd, hm, F⟩ := W.at_ 17 (x := "has_both") (j := 47)
  refine con_of F hm sc_has_both rfl (fun _ _ _ _ _ _ us hl => match us, hl with | [_, _], _ => rfl) fun cdv A outer s H E hr => ⟨_, _,
      (dss_one (ds_ret (de_cmp (op_eqA (hu64 hr)) rd_eq (de_callB call_len rd_len (by rfl) W.z_len boot_len (da_cons (de_call h_among (hr.mono (by omega)) (da_cons (dv 1) (da_cons (dv 0) da_nil))) da_nil)) de_int))), fun ds Φ hl hW => ?_⟩
  obtain ⟨N, p, x, y, e, hp, n, hd, q⟩ := hW
  subst e
  simp
  refine ⟨N, p, [x, y], by simp [stsD], hp, n, hd, by simp, ?_⟩
  simp
  have e : decide ((among [x, y] p).length = 2) = both x y p := by
    unfold among both
    by_cases c : x ∈ p.names <;> by_cases c2 : y ∈ p.names <;> simp [c, c2]
  have e2 : (((among [x, y] p).length : Int) == 2) = both x y p := by
    rw [← e, Bool.eq_iff_iff]
    simp
    omega
  rw [e2]
  exact q
theorem sc_only_in_either : FnScope ["plan"] ["plan"] (defScope (top 30)) := ⟨rfl, rfl, rfl, by decide +kernel, rfl, by decide +kernel, by decide +kernel⟩
theorem c_only_in_either (W : Wd K mg) : Con P w K mg base "only_in_either" 30 (spP 1 (WDeed 5)) := by
  have h_only_dealt := c_only_dealt (P := P) (w := w) (base := base) W
  obtain ⟨f, fd, hm, F⟩ := W.at_ 12 (x := "only_in_either") (j := 30)
  refine con_of F hm sc_only_in_either rfl (fun _ _ _ _ _ _ us hl => match us, hl with | [_], _ => rfl) fun cdv A outer s H E hr => ⟨_, _,
      (dss_cons (ds_if (dw_or (dt_cmp (op_neA (hu64 hr)) rd_ne (de_ix (dv 0) de_int) de_str) (dw_or1 (dt_cmp (op_neA (hu64 hr)) rd_ne (de_ix (de_ix (dv 0) de_int) de_int) de_str))).dt (dss_one (ds_ret de_non)) dss_nil)
      (dss_one (ds_ret (de_call h_only_dealt (hr.mono (by omega)) (da_cons (dv 0) (da_cons de_str da_nil)))))), fun ds Φ hl hW => ?_⟩
  obtain ⟨N, p, e, hp, n, hd, q⟩ := hW
  subst e
  by_cases h : p.tag = "only"
  · obtain ⟨ns, a, rfl⟩ := tag_only h
    by_cases g : a.tag = "either"
    · obtain ⟨a, b, rfl⟩ := tag_either g
      have h4 : ns.length ≤ 4 := names_len (p := .only ns (.either a b)) hp n
      simp only [deed, optE] at q
      rw [enc_either] at q
      rw [enc_only, enc_either]
      simp
      rw [← enc_either, ← enc_only]
      simp [Plan.depth] at hd
      exact ⟨N, ns, .either a b, a, b, "either", "either", by simp, enc_either a b, hp.1.1, hp.1.2, n, by omega, by omega, h4, q⟩
    · have e : deed 5 (.only ns a) = none := by cases a <;> first | rfl | exact absurd rfl g
      rw [e] at q
      rw [enc_only, enc_eq a]
      simp [g]
      exact q
  · have e : deed 5 p = none := by cases p <;> first | rfl | exact absurd rfl h
    rw [e] at q
    rw [enc_eq p]
    simp [h]
    exact q
theorem sc_only_once : FnScope ["plan"] ["plan"] (defScope (top 32)) := ⟨rfl, rfl, rfl, by decide +kernel, rfl, by decide +kernel, by decide +kernel⟩
theorem c_only_once (W : Wd K mg) : Con P w K mg base "only_once" 30 (spP 1 (WDeed 6)) := by
  obtain ⟨f, fd, hm, F⟩ := W.at_ 13 (x := "only_once") (j := 32)
  refine con_of F hm sc_only_once rfl (fun _ _ _ _ _ _ us hl => match us, hl with | [_], _ => rfl) fun cdv A outer s H E hr => ⟨_, _,
      (dss_cons (ds_if (dw_or (dt_cmp (op_neA (hu64 hr)) rd_ne (de_ix (dv 0) de_int) de_str) (dw_or1 (dt_cmp (op_neA (hu64 hr)) rd_ne (de_ix (de_ix (dv 0) de_int) de_int) de_str))).dt (dss_one (ds_ret de_non)) dss_nil)
      (dss_one (ds_ret (de_tup (da_cons de_str (da_cons (de_ix (dv 0) de_int) (da_cons (de_ix (de_ix (dv 0) de_int) de_int) da_nil))))))), fun ds Φ hl hW => ?_⟩
  obtain ⟨N, p, e, hp, n, hd, q⟩ := hW
  subst e
  by_cases h : p.tag = "only"
  · obtain ⟨ns, a, rfl⟩ := tag_only h
    by_cases g : a.tag = "only"
    · obtain ⟨ms, a, rfl⟩ := tag_only g
      simp only [deed, optE] at q
      rw [enc_only] at q
      rw [enc_only, enc_only]
      simp
      exact q
    · have e : deed 6 (.only ns a) = none := by cases a <;> first | rfl | exact absurd rfl g
      rw [e] at q
      rw [enc_only, enc_eq a]
      simp [g]
      exact q
  · have e : deed 6 p = none := by cases p <;> first | rfl | exact absurd rfl h
    rw [e] at q
    rw [enc_eq p]
    simp [h]
    exact q
theorem sc_only_none : FnScope ["plan"] ["plan"] (defScope (top 33)) := ⟨rfl, rfl, rfl, by decide +kernel, rfl, by decide +kernel, by decide +kernel⟩
theorem c_only_none (W : Wd K mg) : Con P w K mg base "only_none" 30 (spP 1 (WDeed 7)) := by
  have h_names_in := c_names_in (P := P) (w := w) (base := base) W 6
  obtain ⟨f, fd, hm, F⟩ := W.at_ 14 (x := "only_none") (j := 33)
  refine con_of F hm sc_only_none rfl (fun _ _ _ _ _ _ us hl => match us, hl with | [_], _ => rfl) fun cdv A outer s H E hr => ⟨_, _,
      (dss_cons (ds_if (dw_or (dt_cmp (op_neA (hu64 hr)) rd_ne (de_ix (dv 0) de_int) de_str) (dw_or1 (dt_cmp (op_neA (hu64 hr)) rd_ne (de_ix (dv 0) de_int) (de_call h_names_in (hr.mono (by omega)) (da_cons (de_ix (dv 0) de_int) da_nil))))).dt (dss_one (ds_ret de_non)) dss_nil)
      (dss_one (ds_ret (de_ix (dv 0) de_int)))), fun ds Φ hl hW => ?_⟩
  obtain ⟨N, p, e, hp, n, hd, q⟩ := hW
  subst e
  by_cases h : p.tag = "only"
  · obtain ⟨ns, a, rfl⟩ := tag_only h
    simp [Plan.depth] at hd
    have h4 : ns.length ≤ 4 := names_len (p := .only ns a) hp n
    simp only [deed] at q
    rw [enc_only]
    simp
    refine ⟨N, a, rfl, hp.1, n, by omega, ?_⟩
    have s1 := (shp_strs fun m hm => n.short m (names_sub (p := .only ns a) hp m hm)).1
    have s2 := (shp_strs fun m hm => n.short m (names_sub hp.1 m hm)).1
    have ok : EqOk (.tuple (stsD ns)) (.tuple (stsD a.names)) := .inr ⟨s1, s2⟩
    by_cases c : ns = a.names
    · simp [c, optE] at q ok ⊢
      exact ⟨ok, q⟩
    · simp [c, optE] at q ok ⊢
      exact ⟨ok, q⟩
  · have e : deed 7 p = none := by cases p <;> first | rfl | exact absurd rfl h
    rw [e] at q
    rw [enc_eq p]
    simp [h]
    exact q
theorem sc_only_in_join : FnScope ["plan"] ["plan"] (defScope (top 44)) := ⟨rfl, rfl, rfl, by decide +kernel, rfl, by decide +kernel, by decide +kernel⟩
theorem c_only_in_join (W : Wd K mg) : Con P w K mg base "only_in_join" 30 (spP 1 (WDeed 12)) := by
  have h_only_dealt := c_only_dealt (P := P) (w := w) (base := base) W
  have h_shared_kept := c_shared_kept (P := P) (w := w) (base := base) W
  obtain ⟨f, fd, hm, F⟩ := W.at_ 16 (x := "only_in_join") (j := 44)
  refine con_of F hm sc_only_in_join rfl (fun _ _ _ _ _ _ us hl => match us, hl with | [_], _ => rfl) fun cdv A outer s H E hr => ⟨_, _,
      (dss_cons (ds_if (dw_or (dt_cmp (op_neA (hu64 hr)) rd_ne (de_ix (dv 0) de_int) de_str) (dw_or (dt_cmp (op_neA (hu64 hr)) rd_ne (de_ix (de_ix (dv 0) de_int) de_int) de_str) (dw_or1 (dt_not (dt_truth (de_call h_shared_kept (hr.mono (by omega)) (da_cons (de_ix (dv 0) de_int) (da_cons (de_ix (dv 0) de_int) da_nil)))))))).dt (dss_one (ds_ret de_non)) dss_nil)
      (dss_one (ds_ret (de_call h_only_dealt (hr.mono (by omega)) (da_cons (dv 0) (da_cons de_str da_nil)))))), fun ds Φ hl hW => ?_⟩
  obtain ⟨N, p, e, hp, n, hd, q⟩ := hW
  subst e
  by_cases h : p.tag = "only"
  · obtain ⟨ns, a, rfl⟩ := tag_only h
    by_cases g : a.tag = "join"
    · obtain ⟨a, b, rfl⟩ := tag_join g
      have h4 : ns.length ≤ 4 := names_len (p := .only ns (.join a b)) hp n
      simp [Plan.depth] at hd
      simp only [deed] at q
      rw [enc_only, enc_join]
      simp
      rw [← enc_join]
      refine ⟨N, ns, a, b, by simp, hp.1.1, hp.1.2, n, by omega, by omega, h4, ?_⟩
      by_cases c : shared ns a b = true
      · simp [c, optE] at q ⊢
        rw [enc_join] at q
        rw [← enc_only]
        exact ⟨N, ns, .join a b, a, b, "join", "join", by simp, enc_join a b, hp.1.1, hp.1.2, n, by omega, by omega, h4, q⟩
      · simp [c, optE] at q ⊢
        exact q
    · have e : deed 12 (.only ns a) = none := by cases a <;> first | rfl | exact absurd rfl g
      rw [e] at q
      rw [enc_only, enc_eq a]
      simp [g]
      exact q
  · have e : deed 12 p = none := by cases p <;> first | rfl | exact absurd rfl h
    rw [e] at q
    rw [enc_eq p]
    simp [h]
    exact q
theorem sc_same_in_either : FnScope ["plan", "one", "other"] ["plan"] (defScope (top 48)) := ⟨rfl, rfl, rfl, by decide +kernel, rfl, by decide +kernel, by decide +kernel⟩
theorem c_same_in_either (W : Wd K mg) : Con P w K mg base "same_in_either" 30 (spP 1 (WDeed 14)) := by
  have h_has_both := c_has_both (P := P) (w := w) (base := base) W
  obtain ⟨f, fd, hm, F⟩ := W.at_ 18 (x := "same_in_either") (j := 48)
  refine con_of F hm sc_same_in_either rfl (fun _ _ _ _ _ _ us hl => match us, hl with | [_], _ => rfl) fun cdv A outer s H E hr => ⟨_, _,
      (dss_cons (ds_if (dw_or (dt_cmp (op_neA (hu64 hr)) rd_ne (de_ix (dv 0) de_int) de_str) (dw_or1 (dt_cmp (op_neA (hu64 hr)) rd_ne (de_ix (de_ix (dv 0) de_int) de_int) de_str))).dt (dss_one (ds_ret de_non)) dss_nil)
      (dss_cons (ds_par (i := 1) (j := 2) (de_ix (de_ix (dv 0) de_int) de_int) (de_ix (de_ix (dv 0) de_int) de_int) rfl sc_same_in_either.nd)
      (dss_cons (ds_if (dw_or (dt_not (dt_truth (de_call h_has_both (hr.mono (by omega)) (da_cons (dv 1) (da_cons (de_slT (dv 0) (do_some de_int) (do_some de_int)) da_nil))))) (dw_or1 (dt_not (dt_truth (de_call h_has_both (hr.mono (by omega)) (da_cons (dv 2) (da_cons (de_slT (dv 0) (do_some de_int) (do_some de_int)) da_nil))))))).dt (dss_one (ds_ret de_non)) dss_nil)
      (dss_one (ds_ret (de_tup (da_cons de_str (da_cons (de_op op_catA rd_addT (de_slT (dv 0) do_none (do_some de_int)) (de_tup (da_cons (dv 1) da_nil))) (da_cons (de_op op_catA rd_addT (de_slT (dv 0) do_none (do_some de_int)) (de_tup (da_cons (dv 2) da_nil))) da_nil))))))))), fun ds Φ hl hW => ?_⟩
  obtain ⟨N, p, e, hp, n, hd, q⟩ := hW
  subst e
  by_cases h : p.tag = "same"
  · obtain ⟨x, y, a, rfl⟩ := tag_same h
    by_cases g : a.tag = "either"
    · obtain ⟨a, b, rfl⟩ := tag_either g
      simp [Plan.depth] at hd
      simp only [deed] at q
      rw [enc_same, enc_either]
      simp
      refine ⟨N, a, x, y, by simp, hp.1.1, n, by omega, ?_⟩
      by_cases c : both x y a = true
      · simp [c]
        refine ⟨N, b, x, y, by simp, hp.1.2, n, by omega, ?_⟩
        by_cases c2 : both x y b = true
        · simp [c, c2, optE, sizeL] at q ⊢
          rw [enc_either, enc_same, enc_same] at q
          exact q
        · simp [c, c2, optE] at q ⊢
          exact q
      · simp [c, optE] at q ⊢
        exact q
    · have e : deed 14 (.same x y a) = none := by cases a <;> first | rfl | exact absurd rfl g
      rw [e] at q
      rw [enc_same, enc_eq a]
      simp [g]
      exact q
  · have e : deed 14 p = none := by cases p <;> first | rfl | exact absurd rfl h
    rw [e] at q
    rw [enc_eq p]
    simp [h]
    exact q
theorem sc_same_in_join : FnScope ["plan"] ["plan"] (defScope (top 50)) := ⟨rfl, rfl, rfl, by decide +kernel, rfl, by decide +kernel, by decide +kernel⟩
theorem c_same_in_join (W : Wd K mg) : Con P w K mg base "same_in_join" 30 (spP 1 (WDeed 15)) := by
  have h_has_both := c_has_both (P := P) (w := w) (base := base) W
  obtain ⟨f, fd, hm, F⟩ := W.at_ 19 (x := "same_in_join") (j := 50)
  refine con_of F hm sc_same_in_join rfl (fun _ _ _ _ _ _ us hl => match us, hl with | [_], _ => rfl) fun cdv A outer s H E hr => ⟨_, _,
      (dss_cons (ds_if (dw_or (dt_cmp (op_neA (hu64 hr)) rd_ne (de_ix (dv 0) de_int) de_str) (dw_or (dt_cmp (op_neA (hu64 hr)) rd_ne (de_ix (de_ix (dv 0) de_int) de_int) de_str) (dw_or1 (dt_not (dt_truth (de_call h_has_both (hr.mono (by omega)) (da_cons (de_ix (de_ix (dv 0) de_int) de_int) (da_cons (de_slT (dv 0) (do_some de_int) (do_some de_int)) da_nil)))))))).dt (dss_one (ds_ret de_non)) dss_nil)
      (dss_one (ds_ret (de_tup (da_cons de_str (da_cons (de_op op_catA rd_addT (de_slT (dv 0) do_none (do_some de_int)) (de_tup (da_cons (de_ix (de_ix (dv 0) de_int) de_int) da_nil))) (da_cons (de_ix (de_ix (dv 0) de_int) de_int) da_nil))))))), fun ds Φ hl hW => ?_⟩
  obtain ⟨N, p, e, hp, n, hd, q⟩ := hW
  subst e
  by_cases h : p.tag = "same"
  · obtain ⟨x, y, a, rfl⟩ := tag_same h
    by_cases g : a.tag = "join"
    · obtain ⟨a, b, rfl⟩ := tag_join g
      simp [Plan.depth] at hd
      simp only [deed] at q
      rw [enc_same, enc_join]
      simp
      refine ⟨N, a, x, y, by simp, hp.1.1, n, by omega, ?_⟩
      by_cases c : both x y a = true
      · simp [c, optE, sizeL] at q ⊢
        rw [enc_join, enc_same] at q
        exact q
      · simp [c, optE] at q ⊢
        exact q
    · have e : deed 15 (.same x y a) = none := by cases a <;> first | rfl | exact absurd rfl g
      rw [e] at q
      rw [enc_same, enc_eq a]
      simp [g]
      exact q
  · have e : deed 15 p = none := by cases p <;> first | rfl | exact absurd rfl h
    rw [e] at q
    rw [enc_eq p]
    simp [h]
    exact q
theorem sc_same_in_only : FnScope ["plan"] ["plan"] (defScope (top 52)) := ⟨rfl, rfl, rfl, by decide +kernel, rfl, by decide +kernel, by decide +kernel⟩
theorem c_same_in_only (W : Wd K mg) : Con P w K mg base "same_in_only" 30 (spP 1 (WDeed 16)) := by
  obtain ⟨f, fd, hm, F⟩ := W.at_ 20 (x := "same_in_only") (j := 52)
  refine con_of F hm sc_same_in_only rfl (fun _ _ _ _ _ _ us hl => match us, hl with | [_], _ => rfl) fun cdv A outer s H E hr => ⟨_, _,
      (dss_cons (ds_if (dw_or (dt_cmp (op_neA (hu64 hr)) rd_ne (de_ix (dv 0) de_int) de_str) (dw_or1 (dt_cmp (op_neA (hu64 hr)) rd_ne (de_ix (de_ix (dv 0) de_int) de_int) de_str))).dt (dss_one (ds_ret de_non)) dss_nil)
      (dss_one (ds_ret (de_tup (da_cons de_str (da_cons (de_ix (de_ix (dv 0) de_int) de_int) (da_cons (de_op op_catA rd_addT (de_slT (dv 0) do_none (do_some de_int)) (de_tup (da_cons (de_ix (de_ix (dv 0) de_int) de_int) da_nil))) da_nil))))))), fun ds Φ hl hW => ?_⟩
  obtain ⟨N, p, e, hp, n, hd, q⟩ := hW
  subst e
  by_cases h : p.tag = "same"
  · obtain ⟨x, y, a, rfl⟩ := tag_same h
    by_cases g : a.tag = "only"
    · obtain ⟨ms, a, rfl⟩ := tag_only g
      simp only [deed, optE] at q
      rw [enc_only, enc_same] at q
      rw [enc_same, enc_only]
      simp [sizeL]
      exact q
    · have e : deed 16 (.same x y a) = none := by cases a <;> first | rfl | exact absurd rfl g
      rw [e] at q
      rw [enc_same, enc_eq a]
      simp [g]
      exact q
  · have e : deed 16 p = none := by cases p <;> first | rfl | exact absurd rfl h
    rw [e] at q
    rw [enc_eq p]
    simp [h]
    exact q
theorem sc_same_in_without : FnScope ["plan"] ["plan"] (defScope (top 54)) := ⟨rfl, rfl, rfl, by decide +kernel, rfl, by decide +kernel, by decide +kernel⟩
theorem c_same_in_without (W : Wd K mg) : Con P w K mg base "same_in_without" 30 (spP 1 (WDeed 17)) := by
  obtain ⟨f, fd, hm, F⟩ := W.at_ 21 (x := "same_in_without") (j := 54)
  refine con_of F hm sc_same_in_without rfl (fun _ _ _ _ _ _ us hl => match us, hl with | [_], _ => rfl) fun cdv A outer s H E hr => ⟨_, _,
      (dss_cons (ds_if (dw_or (dt_cmp (op_neA (hu64 hr)) rd_ne (de_ix (dv 0) de_int) de_str) (dw_or1 (dt_cmp (op_neA (hu64 hr)) rd_ne (de_ix (de_ix (dv 0) de_int) de_int) de_str))).dt (dss_one (ds_ret de_non)) dss_nil)
      (dss_one (ds_ret (de_tup (da_cons de_str (da_cons (de_op op_catA rd_addT (de_slT (dv 0) do_none (do_some de_int)) (de_tup (da_cons (de_ix (de_ix (dv 0) de_int) de_int) da_nil))) (da_cons (de_ix (de_ix (dv 0) de_int) de_int) da_nil))))))), fun ds Φ hl hW => ?_⟩
  obtain ⟨N, p, e, hp, n, hd, q⟩ := hW
  subst e
  by_cases h : p.tag = "same"
  · obtain ⟨x, y, a, rfl⟩ := tag_same h
    by_cases g : a.tag = "without"
    · obtain ⟨a, b, rfl⟩ := tag_without g
      simp only [deed, optE] at q
      rw [enc_without, enc_same] at q
      rw [enc_same, enc_without]
      simp [sizeL]
      exact q
    · have e : deed 17 (.same x y a) = none := by cases a <;> first | rfl | exact absurd rfl g
      rw [e] at q
      rw [enc_same, enc_eq a]
      simp [g]
      exact q
  · have e : deed 17 p = none := by cases p <;> first | rfl | exact absurd rfl h
    rw [e] at q
    rw [enc_eq p]
    simp [h]
    exact q
end
end MP
-- DL13
/-! DATA LAYER 13: a module's tuple: its length, a walk over its numbers. -/
namespace MP
open PySem PySem.Spec PyProof.Rows L2 LamX MH
section
variable {X : Cx} {tg : Expr}
theorem de_lenG {t : Str} {a : Addr} {us : List V} {pt p pos : Pos} (hm : X.mg t = some (.ref a)) (hq : ∀ H, SqT X.K H a us) (hz : X.mg "len" = none) (hg : Gl X t := by rfl) (hd : (t == ("__debug__" : Str)) = false := by decide) (hgl : Gl X "len" := by rfl)
    (he : starEach [.Name t pt] X.env = (false, eval (.Name t pt) X.env) :: starEach [] X.env := by rfl) (hpl : (backTo pos (starEach [] X.env)).any (·.1) = false := by rfl) :
    DE X (.Call (.Name "len" p) [.Name t pt] [] pos) (tCB (fun xs H Q => ∃ x n, xs = [x] ∧ LenV X.K x H n ∧ Q (.int n) H) (tCons (tC (.ref a)) tNil)) (wC (.int us.length)) := by
  refine ⟨pe_callB call_len hgl hz boot_len (pa_cons (pe_glob (v := .ref a) hg hm rfl hd) pa_nil he) (by decide) (by decide) he hpl, fun B G H σ ρ xs Φ Q R q k => ?_⟩
  exact ⟨.ref a, us.length, rfl, .inr ⟨us, hq H, rfl⟩, k _ _ G H ρ (Same.refl G) R (.int _) q⟩
theorem di_globT {t : Str} {a : Addr} {ns : List Int} {pt : Pos} (hm : X.mg t = some (.ref a)) (hq : ∀ H, SqT X.K H a (ns.map V.int)) (hg : Gl X t := by rfl) (hd : (t == ("__debug__" : Str)) = false := by decide) :
    DI X tg (.Name t pt) (iTup X.K (tC (.ref a))) (fun ρ Φ => Φ (ns.map PyData.int) ρ) := by
  refine ⟨pi_tup (pe_glob (v := .ref a) hg hm rfl hd), fun B G H σ ρ xs Φ Rc R q k => ?_⟩
  refine ⟨a, rfl, ⟨_, hq H⟩, k _ _ G H ρ (Same.refl G) R q ⟨fun i H' hi _ => ?_, fun H' _ => ⟨_, hq H', by simp⟩, fun i H' x H2 hi s ⟨e, y⟩ => ?_⟩⟩
  · have hi' : i < ns.length := by simpa using hi
    exact ⟨_, .int ns[i], hq H', by rw [List.getElem?_map, List.getElem?_eq_getElem hi'] <;> rfl⟩
  · have hi' : i < ns.length := by simpa using hi
    have y2 := y _ (hq H')
    rw [List.getElem?_map, List.getElem?_eq_getElem hi'] at y2
    cases y2
    subst e
    refine ⟨.int ns[i], by rw [List.getElem?_map, List.getElem?_eq_getElem hi'] <;> rfl, fun G1 s1 s2 => ⟨G1, Post.refl s2, .int _⟩⟩
end
section
variable {ρ : Ev} {Φ : Dt → Ev → Prop} {D : DEnds}
@[simp] theorem s_vIx {us : List V} {we : WE} {Θ : V → Ev → Prop} : wVIx us we ρ Θ = we ρ fun d ρ1 => ∃ k v, d = .int k ∧ atI us k = some v ∧ Θ v ρ1 := rfl
@[simp] theorem s_vIf {u : WT} {wa wb : WV} {Θ : V → Ev → Prop} : wVIf u wa wb ρ Θ = u ρ fun k ρ1 => if k = true then wa ρ1 Θ else wb ρ1 Θ := rfl
@[simp] theorem s_setV {i : Nat} {w : WV} : wSetV i w D ρ = w ρ fun v ρ1 => D.nx (ρ1.set i (.vl v)) := rfl
@[simp] theorem s_vlIs {i : Nat} : wVlIs i ρ Φ = ∃ v, ρ[i]? = some (.vl v) ∧ Φ (.bool (decide (v = .non))) ρ := rfl
@[simp] theorem s_callV {i : Nat} {dom : List Nat} {fr : Nat → Addr} {W : Nat → List Dt → (Dt → Prop) → Prop} {w : WA} : wCallV i dom fr W w ρ Φ = ∃ r, r ∈ dom ∧ ρ[i]? = some (.vl (.ref (fr r))) ∧ w ρ fun ds ρ1 => W r ds fun d => Φ d ρ1 := rfl
end
/-- the names of the downward rules -/
def rnm : Nat → Str
  | 5 => "only_in_either"
  | 6 => "only_once"
  | 7 => "only_none"
  | 12 => "only_in_join"
  | 14 => "same_in_either"
  | 15 => "same_in_join"
  | 16 => "same_in_only"
  | 17 => "same_in_without"
  | _ => ""
section
variable {P : Program} {w : World} {K : PySem.W.Frag} {mg : Str → Option Value} {base : Heap}
theorem rules_con (W : Wd K mg) : ∀ r ∈ downs, Con P w K mg base (rnm r) 30 (spP 1 (WDeed r)) := by
  intro r hr
  simp [downs] at hr
  rcases hr with rfl | rfl | rfl | rfl | rfl | rfl | rfl | rfl
  · exact c_only_in_either W
  · exact c_only_once W
  · exact c_only_none W
  · exact c_only_in_join W
  · exact c_same_in_either W
  · exact c_same_in_join W
  · exact c_same_in_only W
  · exact c_same_in_without W
theorem rules_at (W : Wd K mg) : ∀ r ∈ downs, mg (rnm r) = some (.ref (He.ga K (rnm r))) := by
  intro r hr
  simp [downs] at hr
  rcases hr with rfl | rfl | rfl | rfl | rfl | rfl | rfl | rfl
  · exact W.glo 12
  · exact W.glo 13
  · exact W.glo 14
  · exact W.glo 16
  · exact W.glo 18
  · exact W.glo 19
  · exact W.glo 20
  · exact W.glo 21
def usF (K : PySem.W.Frag) : List V := tForth.map (He.Dv.v K)
def usB (K : PySem.W.Frag) : List V := tBack.map (He.Dv.v K)
theorem forth_at {r : Nat} (h : r ∈ downs) : atI (usF K) (r : Int) = some (.ref (He.ga K (rnm r))) := by
  simp [downs] at h
  rcases h with rfl | rfl | rfl | rfl | rfl | rfl | rfl | rfl <;> rfl
end
end MP
-- PC5
/-! The walks: moves, lowering. -/
namespace MP
open PySem PySem.Spec PyProof.Rows L2 MH
@[simp] theorem kit_ii : kitB "int" "int" = some true := by decide
@[simp] theorem kit_ib : kitB "int" "bool" = some false := by decide
@[simp] theorem kit_tt : kitB "tuple" "tuple" = some true := by decide
@[simp] theorem ty_i (i : Int) : tyN (.int i) = some "int" := rfl
@[simp] theorem ty_t (ds : List Dt) : tyN (.tuple ds) = some "tuple" := rfl
section
variable {P : Program} {w : World} {K : PySem.W.Frag} {mg : Str → Option Value} {base : Heap}
theorem sc_is_number : FnScope ["thing", "below"] ["thing", "below"] (defScope (top 61)) := ⟨rfl, rfl, rfl, by decide +kernel, rfl, by decide +kernel, by decide +kernel⟩
theorem c_is_number (W : Wd K mg) : Con P w K mg base "is_number" 1 (spP 2 fun ds Φ => ∃ i n : Int, ds = [.int i, .int n] ∧ Φ (.bool (decide (0 ≤ i ∧ i < n)))) := by
  obtain ⟨f, fd, hm, F⟩ := W.at_ 22 (x := "is_number") (j := 61)
  refine con_of F hm sc_is_number rfl (fun _ _ _ _ _ _ us hl => match us, hl with | [_, _], _ => rfl) fun cdv A outer s H E hr => ⟨_, _,
      (dss_one (ds_ret (de_and (de_isinst (x := "") (n := "int") (dv 0) (by rfl) W.z_isinstance (by rfl) W.z_int (by decide +kernel)) (de_and (de_not (de_isinst (x := "") (n := "bool") (dv 0) (by rfl) W.z_isinstance (by rfl) W.z_bool (by decide +kernel))) (de_one (de_chain op_le op_lt rd_rB0 rd_rB0 de_int (dv 0) (dv 1))))))), fun ds Φ hl hW => ?_⟩
  obtain ⟨i, n, e, q⟩ := hW
  subst e
  simp
  by_cases c : 0 ≤ i
  · simp [c] at q ⊢
    exact .inr q
  · have c2 : i < 0 := by omega
    have c3 : ¬ (0 ≤ i ∧ i < n) := fun h => c h.1
    simp [c, c2] at q ⊢
    exact q
def WIsMove : List Dt → (Dt → Prop) → Prop := fun ds Φ => ∃ (r : List Nat) (k : Nat), ds = [mvE (r, k)] ∧ (∀ j ∈ r, j < 2) ∧ r.length ≤ 1000 ∧ k < 20 ∧ Φ (.bool true)
theorem sc_is_move : FnScope ["move", "k"] ["move"] (defScope (top 62)) := ⟨rfl, rfl, rfl, by decide +kernel, rfl, by decide +kernel, by decide +kernel⟩
theorem c_is_move (W : Wd K mg) : Con P w K mg base "is_move" 2 (spP 1 WIsMove) := by
  have h_is_number := c_is_number (P := P) (w := w) (base := base) W
  have mF : mg "FORTH" = some (.ref (He.ga K "FORTH")) := W.glo 73
  have hF : ∀ H, SqT K H (He.ga K "FORTH") (usF K) := fun H => W.tup 0 (t := ("FORTH", tForth)) rfl H
  obtain ⟨f, fd, hm, F⟩ := W.at_ 23 (x := "is_move") (j := 62)
  refine con_of F hm sc_is_move rfl (fun _ _ _ _ _ _ us hl => match us, hl with | [_], _ => rfl) fun cdv A outer s H E hr => ⟨_, _,
      (dss_cons (ds_if (dw_or (dt_not (dt_truth (de_isinst (x := "") (n := "tuple") (dv 0) (by rfl) W.z_isinstance (by rfl) W.z_tuple (by decide +kernel)))) (dw_or (dt_cmp (op_neA (hu64 hr)) rd_ne (de_callB call_len rd_len (by rfl) W.z_len boot_len (da_cons (dv 0) da_nil)) de_int) (dw_or1 (dt_not (dt_truth (de_isinst (x := "") (n := "tuple") (de_ix (dv 0) de_int) (by rfl) W.z_isinstance (by rfl) W.z_tuple (by decide +kernel))))))).dt (dss_one (ds_ret de_bl)) dss_nil)
      (dss_cons (ds_if (dt_truth (FE.de (fe_lc (own := [("k", 1)]) rfl sc_is_move.nd (di_tup (de_ix (dv 0) de_int)) (blkOk_by (own := [("k", 1)]) (N := ["move", "k"]) (sc := defScope (top 62)) (by decide +kernel)) (fun _ _ _ _ _ => (dg_name (i := 1) sc_is_move.nd)) (fun _ _ _ _ _ => (DTs.castK (dts_one (dt_not (dt_truth (de_call h_is_number (hr.mono (by omega)) (da_cons (dv 1) (da_cons de_int da_nil)))))) (by dsimp only [Cx.blk] <;> rfl))) (fun _ _ _ _ _ => (dv 1))))) (dss_one (ds_ret de_bl)) dss_nil)
      (dss_one (ds_ret (de_and (de_call h_is_number (hr.mono (by omega)) (da_cons (de_ix (dv 0) de_int) (da_cons (de_lenG mF hF W.z_len) da_nil))) (de_one (de_call h_is_number (hr.mono (by omega)) (da_cons (de_ix (dv 0) de_int) (da_cons de_int da_nil))))))))), fun ds Φ hl hW => ?_⟩
  obtain ⟨r, k, e, hr2, hl2, hk, q⟩ := hW
  subst e
  simp [mvE, pathE]
  have il : (intsD r).length = r.length := by simp [intsD]
  refine ⟨by omega, ?_⟩
  refine lc_map (F := fun j => none) (g := fun k => .int (k : Nat)) (l := r) (fun j hj C hC => ?_) ?_
  · have h2 := hr2 j hj
    simp
    refine ⟨_, _, ⟨rfl, rfl⟩, .inr ⟨by omega, ?_⟩⟩
    simpa using hC
  · simp
    refine ⟨(k : Int), 20, ⟨rfl, rfl⟩, .inr ⟨by omega, 0, 2, ⟨rfl, rfl⟩, ?_⟩⟩
    simpa using q
end
end MP
-- PC6
/-! The walks: moved, led, next_move, lowered. -/
namespace MP
open PySem PySem.Spec PyProof.Rows L2 MH
theorem paths_lt2 : ∀ {p : Plan} {r : List Nat}, r ∈ pathsOf p → ∀ j ∈ r, j < 2 := by
  intro p
  have two : ∀ {a b : Plan} (ha : ∀ {r : List Nat}, r ∈ pathsOf a → ∀ j ∈ r, j < 2) (hb : ∀ {r : List Nat}, r ∈ pathsOf b → ∀ j ∈ r, j < 2) {r : List Nat},
      r ∈ [] :: ((pathsOf a).map (0 :: ·) ++ (pathsOf b).map (1 :: ·)) → ∀ j ∈ r, j < 2 := by
    intro a b ha hb r h j hj
    rcases List.mem_cons.mp h with e | h
    · rw [e] at hj; cases hj
    · rcases List.mem_append.mp h with h | h <;> obtain ⟨t, ht, rfl⟩ := List.mem_map.mp h
      · rcases List.mem_cons.mp hj with e | hj
        · rw [e]; decide
        · exact ha ht j hj
      · rcases List.mem_cons.mp hj with e | hj
        · rw [e]; decide
        · exact hb ht j hj
  have one : ∀ {a : Plan} (ha : ∀ {r : List Nat}, r ∈ pathsOf a → ∀ j ∈ r, j < 2) {r : List Nat}, r ∈ [] :: (pathsOf a).map (0 :: ·) → ∀ j ∈ r, j < 2 := by
    intro a ha r h j hj
    rcases List.mem_cons.mp h with e | h
    · rw [e] at hj; cases hj
    · obtain ⟨t, ht, rfl⟩ := List.mem_map.mp h
      rcases List.mem_cons.mp hj with e | hj
      · rw [e]; decide
      · exact ha ht j hj
  induction p with
  | pat p =>
    intro r h j hj
    rw [List.mem_singleton.mp h] at hj
    cases hj
  | join a b ha hb => exact two ha hb
  | either a b ha hb => exact two ha hb
  | without a b ha hb => exact two ha hb
  | only ns a ha => exact one ha
  | same x y a ha => exact one ha
theorem wgt_le : ∀ p : Plan, wgt p ≤ 4 ^ p.depth ∧ 1 ≤ wgt p := by
  have two : ∀ {x y a b : Nat}, x ≤ 4 ^ a → y ≤ 4 ^ b → 1 ≤ x → 1 ≤ y → x + y + 2 ≤ 4 ^ (max a b + 1) := fun {x y a b} h1 h2 h3 h4 => by
    have e1 : 4 ^ a ≤ 4 ^ max a b := Nat.pow_le_pow_right (by decide) (Nat.le_max_left _ _)
    have e2 : 4 ^ b ≤ 4 ^ max a b := Nat.pow_le_pow_right (by decide) (Nat.le_max_right _ _)
    rw [Nat.pow_succ]
    omega
  intro p
  induction p with
  | pat p => exact ⟨Nat.le_refl 1, Nat.le_refl 1⟩
  | join a b ha hb => exact ⟨two ha.1 hb.1 ha.2 hb.2, by simp [wgt] <;> omega⟩
  | either a b ha hb => exact ⟨two ha.1 hb.1 ha.2 hb.2, by simp [wgt] <;> omega⟩
  | without a b ha hb => exact ⟨two ha.1 hb.1 ha.2 hb.2, by simp [wgt] <;> omega⟩
  | only ns a ha =>
    obtain ⟨h1, h2⟩ := ha
    refine ⟨?_, by simp [wgt] <;> omega⟩
    simp only [wgt, Plan.depth]
    rw [Nat.pow_succ]
    omega
  | same x y a ha =>
    obtain ⟨h1, h2⟩ := ha
    refine ⟨?_, by simp [wgt] <;> omega⟩
    simp only [wgt, Plan.depth]
    rw [Nat.pow_succ]
    omega
theorem downs_lt {k : Nat} (h : k ∈ downs) : k < 20 := by
  simp [downs] at h
  omega
theorem opt_non {o : Option Plan} : isNoneD (optE o) = o.isNone := by
  cases o with
  | none => rfl
  | some p => cases p <;> rfl
section
variable {P : Program} {w : World} {K : PySem.W.Frag} {mg : Str → Option Value} {base : Heap}
def WMoved : List Dt → (Dt → Prop) → Prop := fun ds Φ => ∃ (N : List Str) (p q o : Plan) (r : List Nat) (k : Nat), ds = [p.enc, mvE (r, k)] ∧ Good N p ∧ r ∈ pathsOf p ∧ k ∈ downs ∧ atPath p r = some q ∧ deed k q = some o ∧ Φ (putAt p r o).enc
theorem sc_moved : FnScope ["plan", "move", "path", "rule", "back", "form", "deed", "other", "found"] ["plan", "move"] (defScope (top 63)) := ⟨rfl, rfl, rfl, by decide +kernel, rfl, by decide +kernel, by decide +kernel⟩
theorem c_moved (W : Wd K mg) : Con P w K mg base "moved" 31 (spP 2 WMoved) := by
  have h_is_move := c_is_move (P := P) (w := w) (base := base) W
  have h_at_path := c_at_path (P := P) (w := w) (base := base) W
  have h_put_at := c_put_at (P := P) (w := w) (base := base) W 6
  have h_fits_bounds := c_fits_bounds (P := P) (w := w) (base := base) W
  have hC := rules_con (P := P) (w := w) (base := base) W
  have hfr := rules_at W
  have mF : mg "FORTH" = some (.ref (He.ga K "FORTH")) := W.glo 73
  have hF : ∀ H, SqT K H (He.ga K "FORTH") (usF K) := fun H => W.tup 0 (t := ("FORTH", tForth)) rfl H
  have mB : mg "BACK" = some (.ref (He.ga K "BACK")) := W.glo 74
  have hB : ∀ H, SqT K H (He.ga K "BACK") (usB K) := fun H => W.tup 1 (t := ("BACK", tBack)) rfl H
  obtain ⟨f, fd, hm, F⟩ := W.at_ 24 (x := "moved") (j := 63)
  refine con_of F hm sc_moved rfl (fun _ _ _ _ _ _ us hl => match us, hl with | [_, _], _ => rfl) fun cdv A outer s H E hr => ⟨_, _,
      (dss_cons (ds_if (dt_not (dt_truth (de_call h_is_move (hr.mono (by omega)) (da_cons (dv 1) da_nil)))) (dss_one ds_never) dss_nil)
      (dss_cons (ds_asg (dv 1) (dg_tup rfl (dgs_cons (dg_name (i := 2) sc_moved.nd) (dgs_cons (dg_name (i := 3) sc_moved.nd) (dgs_cons (dg_name (i := 4) sc_moved.nd) dgs_nil)))))
      (dss_cons (ds_set (i := 5) (de_call h_at_path (hr.mono (by omega)) (da_cons (dv 0) (da_cons (dv 2) da_nil))) sc_moved.nd)
      (dss_cons (ds_setV (i := 6) (dv_if (dt_cmp (op_eqA (hu64 hr)) rd_eq (dv 4) de_int) (dv_ix (dv 3) mB hB) (dv_ix (dv 3) mF hF)) sc_moved.nd)
      (dss_cons (ds_if (dw_or (dt_cmp op_isN rd_is (dv 5) de_non) (dw_or1 (dt_vlIs (i := 6)))).dt (dss_one ds_never) dss_nil)
      (dss_cons (ds_set (i := 7) (de_callV (i := 6) hC hfr (hr.mono (by omega)) (da_cons (dv 5) da_nil)) sc_moved.nd)
      (dss_cons (ds_if (dt_cmp op_isN rd_is (dv 7) de_non) (dss_one ds_never) dss_nil)
      (dss_cons (ds_set (i := 8) (de_call h_put_at (hr.mono (by omega)) (da_cons (dv 0) (da_cons (dv 2) (da_cons (dv 7) da_nil)))) sc_moved.nd)
      (dss_cons (ds_if (dt_not (dt_truth (de_call h_fits_bounds (hr.mono (by omega)) (da_cons (dv 8) da_nil)))) (dss_one ds_never) dss_nil)
      (dss_one (ds_ret (dv 8)))))))))))), fun ds Φ hl hW => ?_⟩
  obtain ⟨N, p, f, o, r, k, e, g, hr2, hk, hf, ho, q⟩ := hW
  subst e
  have hfo := at_ok g.ok hf
  have pl := Nat.le_trans (paths_len hr2) g.dp
  obtain ⟨g2, _, _⟩ := good_step g hf ho
  simp
  refine ⟨r, k, rfl, paths_lt2 hr2, by omega, downs_lt hk, ?_⟩
  simp
  refine ⟨_, rfl, rfl, pathE r, _, rfl, .int k, _, rfl, .int 0, _, rfl, rfl, p, r, ⟨rfl, rfl⟩, by simp, .inl ⟨by simp, k, rfl, _, forth_at hk, by rw [opt_non, hf]; rfl, (fun z => by cases z), k, hk, rfl, N, f, by rw [hf]; rfl, hfo.1, g.nok, Nat.le_trans hfo.2 g.dp, ?_⟩⟩
  rw [ho]
  refine ⟨by rw [opt_non]; rfl, p, r, o, rfl, by omega, by omega, ⟨f, hf⟩, N, putAt p r o, rfl, g2.ok, g2.nok, g2.dp, Nat.le_trans (paths_phi _) g2.ph, rfl, q⟩
def WLed : List Dt → (Dt → Prop) → Prop := fun ds Φ => ∃ (N : List Str) (p t : Plan) (ms : List (List Nat × Nat)), ds = [p.enc, .list (ms.map mvE)] ∧ Good N p ∧ Steps p ms t ∧ Φ t.enc
theorem sc_led : FnScope ["plan", "moves", "move"] ["plan", "moves"] (defScope (top 64)) := ⟨rfl, rfl, rfl, by decide +kernel, rfl, by decide +kernel, by decide +kernel⟩
theorem c_led (W : Wd K mg) : Con P w K mg base "led" 32 (spP 2 WLed) := by
  have h_moved := c_moved (P := P) (w := w) (base := base) W
  obtain ⟨f, fd, hm, F⟩ := W.at_ 25 (x := "led") (j := 64)
  refine con_of F hm sc_led rfl (fun _ _ _ _ _ _ us hl => match us, hl with | [_, _], _ => rfl) fun cdv A outer s H E hr => ⟨_, _,
      (dss_cons (ds_for PassesOwn.never rfl (di_list (dv 1)) (dg_name (i := 2) sc_led.nd) (dss_one (ds_set (i := 0) (de_call h_moved (hr.mono (by omega)) (da_cons (dv 0) (da_cons (dv 2) da_nil))) sc_led.nd)))
      (dss_one (ds_ret (dv 0)))), fun ds Φ hl hW => ?_⟩
  obtain ⟨N, p, t, ms, e, g, st, q⟩ := hW
  subst e
  simp
  refine loop_inv (fun (l : List (List Nat × Nat)) ρ => ∃ u b, ρ = [.da (Plan.enc u), .da (.list (ms.map mvE)), b] ∧ Good N u ∧ Steps u l t) ⟨p, .no, rfl, g, st⟩ ?_ ?_
  · rintro ⟨r, k⟩ l ρ ⟨u, b, e, gu, su⟩ hk C hC
    subst e
    simp
    cases su with
    | cons h1 h2 h3 h4 h5 =>
      rename_i f o
      refine ⟨N, u, f, o, r, k, by simp, gu, h1, h2, h3, h4, hC _ ⟨putAt u r o, _, rfl, (good_step gu h3 h4).1, h5⟩⟩
  · rintro ρ ⟨u, b, e, gu, su⟩
    subst e
    cases su
    simp
    exact q
def nmE : Option (List Nat × Nat) → Dt
  | some m => mvE m
  | none => .none
theorem nm_non (o : Option (List Nat × Nat)) : isNoneD (nmE o) = o.isNone := by cases o <;> rfl
def WNext : List Dt → (Dt → Prop) → Prop := fun ds Φ => ∃ (N : List Str) (p : Plan), ds = [p.enc] ∧ Good N p ∧ Φ (nmE (nextMove p))
theorem sc_next_move : FnScope ["plan", "path", "rule", "deed"] ["plan"] (defScope (top 67)) := ⟨rfl, rfl, rfl, by decide +kernel, rfl, by decide +kernel, by decide +kernel⟩
theorem c_next_move (W : Wd K mg) : Con P w K mg base "next_move" 31 (spP 1 WNext) := by
  have h_paths_of := c_paths_of (P := P) (w := w) (base := base) W 6
  have h_at_path := c_at_path (P := P) (w := w) (base := base) W
  have hC := rules_con (P := P) (w := w) (base := base) W
  have hfr := rules_at W
  have mF : mg "FORTH" = some (.ref (He.ga K "FORTH")) := W.glo 73
  have hF : ∀ H, SqT K H (He.ga K "FORTH") (usF K) := fun H => W.tup 0 (t := ("FORTH", tForth)) rfl H
  have mD : mg "DOWNWARD" = some (.ref (He.ga K "DOWNWARD")) := W.glo 75
  have hD : ∀ H, SqT K H (He.ga K "DOWNWARD") ((downs.map fun k => ((k : Nat) : Int)).map V.int) := fun H => W.tup 2 (t := ("DOWNWARD", tDown)) rfl H
  obtain ⟨f, fd, hm, F⟩ := W.at_ 26 (x := "next_move") (j := 67)
  refine con_of F hm sc_next_move rfl (fun _ _ _ _ _ _ us hl => match us, hl with | [_], _ => rfl) fun cdv A outer s H E hr => ⟨_, _,
      (dss_cons (ds_for PassesOwn.never rfl (di_list (de_call h_paths_of (hr.mono (by omega)) (da_cons (dv 0) da_nil))) (dg_name (i := 1) sc_next_move.nd) (dss_one (ds_for PassesOwn.never rfl (di_globT mD hD) (dg_name (i := 2) sc_next_move.nd) (dss_cons (ds_setV (i := 3) (dv_ix (dv 2) mF hF) sc_next_move.nd)
      (dss_one (ds_if (dt_cmp op_notN rd_isNot (de_callV (i := 3) hC hfr (hr.mono (by omega)) (da_cons (de_call h_at_path (hr.mono (by omega)) (da_cons (dv 0) (da_cons (dv 1) da_nil))) da_nil)) de_non) (dss_one (ds_ret (de_tup (da_cons (dv 1) (da_cons (dv 2) (da_cons de_int da_nil)))))) dss_nil))))))
      (dss_one (ds_ret de_non))), fun ds Φ hl hW => ?_⟩
  obtain ⟨N, p, e, g, q⟩ := hW
  subst e
  have hz := Nat.le_trans (paths_phi p) g.ph
  have hd := g.dp
  simp
  refine ⟨p, rfl, by omega, by omega, by omega, ?_⟩
  simp
  let PP : List Nat → Nat → Bool := fun r k => match atPath p r with
    | some q => (deed k q).isSome
    | none => false
  refine loop_inv (fun (l : List (List Nat)) ρ => ∃ a b c, ρ = [.da p.enc, a, b, c] ∧ nextMove p = l.findSome? (fun r => (ruleAt p r).map fun k => (r, k))) ⟨.no, .no, .no, rfl, rfl⟩ ?_ ?_
  · rintro r l ρ ⟨a, b, c, e, hn⟩ hr2 C hCC
    subst e
    obtain ⟨f, hf⟩ := at_paths hr2
    have hfo := at_ok g.ok hf
    refine loop_inv (g := PyData.int ∘ fun k : Nat => ((k : Nat) : Int)) (l := downs) (fun (l2 : List Nat) ρ => ∃ b c, ρ = [.da p.enc, .da (pathE r), b, c] ∧ ruleAt p r = l2.find? (PP r)) ⟨b, c, rfl, rfl⟩ ?_ ?_
    · rintro k l2 ρ ⟨b, c, e, hru⟩ hk C2 hC2
      subst e
      simp
      refine ⟨_, forth_at hk, k, hk, rfl, p, r, ⟨rfl, rfl⟩, N, f, by rw [hf]; rfl, hfo.1, g.nok, Nat.le_trans hfo.2 hd, ?_⟩
      simp only [opt_non]
      cases hdk : deed k f with
      | none =>
        have hP : PP r k = false := by show (match atPath p r with | some q => (deed k q).isSome | none => false) = false; rw [hf]; simp [hdk]
        rw [List.find?_cons, hP] at hru
        simp
        exact hC2 _ ⟨_, _, rfl, hru⟩
      | some o =>
        have hP : PP r k = true := by show (match atPath p r with | some q => (deed k q).isSome | none => false) = true; rw [hf]; simp [hdk]
        rw [List.find?_cons, hP] at hru
        rw [List.findSome?_cons, hru] at hn
        rw [hn] at q
        simp
        exact q
    · rintro ρ ⟨b, c, e, hru⟩
      subst e
      rw [List.findSome?_cons, hru] at hn
      exact hCC _ ⟨_, _, _, rfl, hn⟩
  · rintro ρ ⟨a, b, c, e, hn⟩
    subst e
    rw [hn] at q
    simp
    exact q
def WLowered : List Dt → (Dt → Prop) → Prop := fun ds Φ => ∃ (N : List Str) (p : Plan), ds = [p.enc] ∧ Good N p ∧ ∀ t ms, Steps p ms t → nextMove t = none → Φ (.tuple [t.enc, .tuple (ms.map mvE)])
theorem sc_lowered : FnScope ["plan", "moves", "move"] ["plan"] (defScope (top 68)) := ⟨rfl, rfl, rfl, by decide +kernel, rfl, by decide +kernel, by decide +kernel⟩
theorem c_lowered (W : Wd K mg) : Con P w K mg base "lowered" 32 (spP 1 WLowered) := by
  have h_moved := c_moved (P := P) (w := w) (base := base) W
  have h_next_move := c_next_move (P := P) (w := w) (base := base) W
  obtain ⟨f, fd, hm, F⟩ := W.at_ 27 (x := "lowered") (j := 68)
  refine con_of F hm sc_lowered rfl (fun _ _ _ _ _ _ us hl => match us, hl with | [_], _ => rfl) fun cdv A outer s H E hr => ⟨_, _,
      (dss_cons (ds_setO (i := 1) (fe_lst da_nil) sc_lowered.nd)
      (dss_cons (ds_set (i := 2) (de_call h_next_move (hr.mono (by omega)) (da_cons (dv 0) da_nil)) sc_lowered.nd)
      (dss_cons (ds_while PassesOwn.never (dt_cmp op_notN rd_isNot (dv 2) de_non) (dss_cons (ds_set (i := 0) (de_call h_moved (hr.mono (by omega)) (da_cons (dv 0) (da_cons (dv 2) da_nil))) sc_lowered.nd)
      (dss_cons (ds_append (i := 1) (dv 2))
      (dss_one (ds_set (i := 2) (de_call h_next_move (hr.mono (by omega)) (da_cons (dv 0) da_nil)) sc_lowered.nd)))))
      (dss_one (ds_pub 1 (ds_ret (de_tup (da_cons (dv 0) (da_cons (de_callTy call_tuple_of rd_tuple (by rfl) W.z_tuple PyProof.Rows.boot_tuple (da_cons (dv 1) da_nil)) da_nil))))))))), fun ds Φ hl hW => ?_⟩
  obtain ⟨N, p, e, g, q⟩ := hW
  subst e
  simp
  refine ⟨N, p, rfl, g, ?_⟩
  have wb : wgt p ≤ 1024 := by
    refine Nat.le_trans (wgt_le p).1 ?_
    have : 4 ^ p.depth ≤ 4 ^ 5 := Nat.pow_le_pow_right (by decide) g.dp
    omega
  refine ⟨fun m ρ => ∃ t ms, m = wgt t ∧ ρ = [.da (Plan.enc t), .ow (ms.map mvE), .da (nmE (nextMove t))] ∧ Good N t ∧ Steps p ms t ∧ ms.length + wgt t ≤ wgt p, ⟨_, p, [], rfl, rfl, g, .nil, by simp⟩, ?_⟩
  rintro m ρ ⟨t, ms, rfl, e, gt, st, hb⟩
  subst e
  simp [nm_non]
  cases hn : nextMove t with
  | none =>
    exact .inl ⟨rfl, q t ms st hn⟩
  | some rk =>
    obtain ⟨r, k⟩ := rk
    obtain ⟨h1, h2, f, o, h3, h4⟩ := next_some hn
    obtain ⟨g2, _, w2⟩ := good_step gt h3 h4
    refine .inr ⟨rfl, N, t, f, o, r, k, by simp [nmE], gt, h1, h2, h3, h4, by rw [sizeL]; omega, N, putAt t r o, rfl, g2, _, w2, putAt t r o, rfl, ms ++ [(r, k)], ⟨rfl, by simp [nmE], rfl⟩, g2, st.snoc h1 h2 h3 h4, by simp; omega⟩
end
end MP
-- PD1
/-! The walks: the law's own drawing of words, names, signs. -/
namespace MP
open PySem PySem.Spec PyProof.Rows L2 MH
@[simp] theorem s_callK {i : Nat} {W : Nat → List Dt → (Nat → Dt → Prop) → Prop} {w : WA} {ρ : Ev} {Φ : Dt → Ev → Prop} : wCallK i W w ρ Φ = ∃ a, (∃ m, ρ[i]? = some (.dk a m)) ∧ w ρ fun ds ρ1 => ∃ m, ρ1[i]? = some (.dk a m) ∧ W m ds fun m' d => Φ d (ρ1.set i (.dk a m')) := rfl
def alphaS : Str := "abcdefghijklmnopqrstuvwxyz"
def ltr (i : Nat) : Str := ⟨#[97 + i]⟩
theorem alpha_len : alphaS.length ≤ sizeLine := by decide +kernel
theorem alpha_at : ∀ i : Nat, i < 26 → ixD (.str alphaS) (.int i) = some (.str (ltr i)) := by
  intro i hi
  have e : ixD (.str alphaS) (.int (i : Nat)) = if alphaS.length ≤ sizeLine then (atI alphaS.cps.toList (i : Nat)).map fun c => .str ⟨#[c]⟩ else none := rfl
  rw [e, if_pos alpha_len]
  have h : ∀ i : Fin 26, atI alphaS.cps.toList ((i.val : Nat) : Int) = some (97 + i.val) := by decide +kernel
  rw [h ⟨i, hi⟩]
  rfl
theorem ltr_ok {i : Nat} (h : i < 26) : PyData.strOk (ltr i) = true := by
  have h : ∀ i : Fin 26, PyData.strOk (ltr i.val) = true := by decide +kernel
  exact h ⟨i, by assumption⟩
theorem ltr_len (i : Nat) : (ltr i).length = 1 := rfl
theorem app_len (x y : Str) : (x ++ y).length = x.length + y.length := by
  show (x.cps ++ y.cps).size = _
  rw [Array.size_append]
  rfl
theorem app_ok {x y : Str} (h : PyData.strOk x = true) (g : PyData.strOk y = true) : PyData.strOk (x ++ y) = true := by
  show (x.cps ++ y.cps).all _ = true
  rw [Array.all_append]
  unfold PyData.strOk at h g
  rw [h, g]
  rfl
theorem empty_ok : PyData.strOk ("" : Str) = true := by decide +kernel
section
variable {P : Program} {w : World} {K : PySem.W.Frag} {mg : Str → Option Value} {base : Heap}
def WWord : Nat → List Dt → (Nat → Dt → Prop) → Prop := fun m ds Φ => ∃ n : Nat, ds = [.int n] ∧ n ≤ 50 ∧ n + 1 ≤ m ∧ ∀ (x : Str) (m' : Nat), x.length ≤ n → PyData.strOk x = true → m ≤ m' + (n + 1) → Φ m' (.str x)
theorem sc__law_word : FnScope ["_law_deck_here", "_law_most", "_law_word_here", "_law_k"] ["_law_deck_here", "_law_most"] (defScope (top 72)) := ⟨rfl, rfl, rfl, by decide +kernel, rfl, by decide +kernel, by decide +kernel⟩
theorem c_word (W : Wd K mg) : Con P w K mg base "_law_word" 3 (spK 1 WWord) := by
  have h__law_draw := c_draw (P := P) (w := w) (base := base) W
  obtain ⟨f, fd, hm, F⟩ := W.at_ 30 (x := "_law_word") (j := 72)
  refine con_ofK F hm sc__law_word rfl (fun _ _ _ _ _ _ us hl => match us, hl with | [_, _], _ => rfl) fun cdv A outer s H E hr => ⟨_, _,
      (dss_cons (ds_set (i := 2) de_str sc__law_word.nd)
      (dss_cons (ds_for PassesOwn.never rfl (di_range W.z_range (de_callK (i := 0) h__law_draw (hr.mono (by omega)) (da_cons (de_op op_add rd_rI0 (dv 1) de_int) da_nil))) (dg_name (i := 3) sc__law_word.nd) (dss_one (ds_set (i := 2) (de_op op_add_str rd_addS (dv 2) (de_ix de_str (de_callK (i := 0) h__law_draw (hr.mono (by omega)) (da_cons de_int da_nil)))) sc__law_word.nd)))
      (dss_one (ds_ret (dv 2))))), fun a m ds Φ hl hW => ?_⟩
  obtain ⟨n, e, hn, hm, q⟩ := hW
  subst e
  simp
  refine ⟨by omega, by omega, fun v v0 v1 => ⟨v0, by omega, ?_⟩⟩
  refine loop_inv (fun (l : List Nat) ρ => ∃ (x : Str) (m' : Nat) (b : Sl), ρ = [.dk a m', .da (.int n), .da (.str x), b] ∧ x.length + l.length ≤ n ∧ PyData.strOk x = true ∧ l.length ≤ m' ∧ m + l.length ≤ m' + (n + 1))
    ⟨"", m - 1, .no, rfl, ?_, empty_ok, ?_, ?_⟩ ?_ ?_
  · rw [List.length_range]
    have : ("" : Str).length = 0 := rfl
    omega
  · rw [List.length_range]; omega
  · rw [List.length_range]; omega
  · rintro k l ρ ⟨x, m', b, e, h1, h2, h3, h4⟩ hk C hC
    subst e
    rw [List.length_cons] at h1 h3 h4
    simp
    refine ⟨by omega, fun j j0 j1 => ?_⟩
    obtain ⟨i, rfl⟩ := Int.eq_ofNat_of_zero_le j0
    have hi : i < 26 := by omega
    refine ⟨_, alpha_at i hi, _, rfl, ?_, hC _ ⟨x ++ ltr i, m' - 1, _, rfl, ?_, app_ok h2 (ltr_ok hi), by omega, by omega⟩⟩
    · rw [ltr_len, sizeL]; omega
    · rw [app_len, ltr_len]; omega
  · rintro ρ ⟨x, m', b, e, h1, h2, h3, h4⟩
    subst e
    simp at h1 h4 ⊢
    exact q x m' (by omega) h2 (by omega)
end
end MP
-- PD2
/-! The walks: the law's own drawing of signs, rows of parts, names. -/
namespace MP
open PySem PySem.Spec PyProof.Rows L2 MH
def Pat.tag : Pat → String
  | .sign _ => "sign"
  | .row _ => "row"
  | .any _ => "any"
  | .rep _ _ _ => "some"
  | .mark _ _ => "mark"
def Pat.rest : Pat → List Dt
  | .sign s => [.str s]
  | .row ps => [.tuple (ps.map Pat.enc)]
  | .any ps => [.tuple (ps.map Pat.enc)]
  | .rep lo hi p => [.int lo, hiD hi, p.enc]
  | .mark n p => [.str n, p.enc]
theorem penc_eq (p : Pat) : p.enc = .tuple (.str (Str.ofString p.tag) :: p.rest) := by cases p <;> simp [Pat.enc, Pat.tag, Pat.rest, encs_eq]
theorem penc_sign (s : Str) : (Pat.sign s).enc = .tuple [.str "sign", .str s] := penc_eq _
theorem penc_row (ps : List Pat) : (Pat.row ps).enc = .tuple [.str "row", .tuple (ps.map Pat.enc)] := penc_eq _
theorem penc_any (ps : List Pat) : (Pat.any ps).enc = .tuple [.str "any", .tuple (ps.map Pat.enc)] := penc_eq _
theorem penc_rep (lo : Int) (hi : Option Int) (p : Pat) : (Pat.rep lo hi p).enc = .tuple [.str "some", .int lo, hiD hi, p.enc] := penc_eq _
theorem penc_mark (n : Str) (p : Pat) : (Pat.mark n p).enc = .tuple [.str "mark", .str n, p.enc] := penc_eq _
theorem tag_row {p : Pat} (h : p.tag = "row") : ∃ ps, p = .row ps := by
  cases p <;> first | exact ⟨_, rfl⟩ | (simp [Pat.tag] at h)
theorem tag_any {p : Pat} (h : p.tag = "any") : ∃ ps, p = .any ps := by
  cases p <;> first | exact ⟨_, rfl⟩ | (simp [Pat.tag] at h)
@[simp] theorem peekE_nil : peekE [] = [] := rfl
@[simp] theorem peekE_cons (s : Sl) (ρ : Ev) : peekE (s :: ρ) = peekS s :: peekE ρ := rfl
@[simp] theorem peekS_da (d : Dt) : peekS (.da d) = .da d := rfl
@[simp] theorem peekS_ow (ds : List Dt) : peekS (.ow ds) = .da (.list ds) := rfl
@[simp] theorem peekS_no : peekS .no = .no := rfl
/-- parts put together -/
def splR : Pat → List Pat
  | .row qs => qs
  | p => [p]
def splA : Pat → List Pat
  | .any qs => qs
  | p => [p]
def flR (ps : List Pat) : List Pat := (ps.map splR).flatten
def flA (ps : List Pat) : List Pat := (ps.map splA).flatten
theorem splR_ne {p : Pat} (h : p.tag ≠ "row") : splR p = [p] := by cases p <;> first | rfl | exact absurd rfl h
theorem splA_ne {p : Pat} (h : p.tag ≠ "any") : splA p = [p] := by cases p <;> first | rfl | exact absurd rfl h
def rowOf (ps : List Pat) : Pat := match flR ps with
  | [p] => p
  | qs => .row qs
def anyOf (ps : List Pat) : Pat := .any (flA ps)
def signs6 : List Str := ["a", "b", "ab", "a", "b", " b"]
section
variable {P : Program} {w : World} {K : PySem.W.Frag} {mg : Str → Option Value} {base : Heap}
def WSign : Nat → List Dt → (Nat → Dt → Prop) → Prop := fun m ds Φ => ds = [] ∧ 1 ≤ m ∧ ∀ s ∈ signs6, Φ (m - 1) (Pat.sign s).enc
theorem sc__law_sign : FnScope ["_law_deck_here"] ["_law_deck_here"] (defScope (top 76)) := ⟨rfl, rfl, rfl, by decide +kernel, rfl, by decide +kernel, by decide +kernel⟩
theorem c_sign (W : Wd K mg) : Con P w K mg base "_law_sign" 3 (spK 0 WSign) := by
  have h__law_draw := c_draw (P := P) (w := w) (base := base) W
  obtain ⟨f, fd, hm, F⟩ := W.at_ 34 (x := "_law_sign") (j := 76)
  refine con_ofK F hm sc__law_sign rfl (fun _ _ _ _ _ _ us hl => match us, hl with | [_], _ => rfl) fun cdv A outer s H E hr => ⟨_, _,
      (dss_one (ds_ret (de_tup (da_cons de_str (da_cons (de_ix (FE.de (fe_lst (da_cons de_str (da_cons de_str (da_cons de_str (da_cons de_str (da_cons de_str (da_cons de_str da_nil)))))))) (de_callK (i := 0) h__law_draw (hr.mono (by omega)) (da_cons de_int da_nil))) da_nil))))), fun a m ds Φ hl hW => ?_⟩
  obtain ⟨e, hm, q⟩ := hW
  subst e
  simp
  refine ⟨hm, fun v v0 v1 => ?_⟩
  obtain ⟨i, rfl⟩ := Int.eq_ofNat_of_zero_le v0
  have hi : i < 6 := by omega
  have h : ∀ i : Fin 6, ∃ s, s ∈ signs6 ∧ atI [PyData.str "a", PyData.str "b", PyData.str "ab", PyData.str "a", PyData.str "b", PyData.str " b"] ((i.val : Nat) : Int) = some (.str s) := by
    intro i
    match i with
    | 0 => exact ⟨"a", by simp [signs6], rfl⟩
    | 1 => exact ⟨"b", by simp [signs6], rfl⟩
    | 2 => exact ⟨"ab", by simp [signs6], rfl⟩
    | 3 => exact ⟨"a", by simp [signs6], rfl⟩
    | 4 => exact ⟨"b", by simp [signs6], rfl⟩
    | 5 => exact ⟨" b", by simp [signs6], rfl⟩
  obtain ⟨s, hs, e⟩ := h ⟨i, hi⟩
  refine ⟨_, e, ?_⟩
  have := q s hs
  rw [penc_sign] at this
  exact this
def WRowOf : List Dt → (Dt → Prop) → Prop := fun ds Φ => ∃ ps : List Pat, ds = [.list (ps.map Pat.enc)] ∧ (flR ps).length ≤ 1000 ∧ Φ (rowOf ps).enc
theorem flR_cons (p : Pat) (ps : List Pat) : flR (p :: ps) = splR p ++ flR ps := by simp [flR]
theorem flA_cons (p : Pat) (ps : List Pat) : flA (p :: ps) = splA p ++ flA ps := by simp [flA]
theorem sc__law_row_of : FnScope ["_law_parts", "_law_found", "_law_part"] ["_law_parts"] (defScope (top 74)) := ⟨rfl, rfl, rfl, by decide +kernel, rfl, by decide +kernel, by decide +kernel⟩
theorem c_row_of (W : Wd K mg) : Con P w K mg base "_law_row_of" 3 (spP 1 WRowOf) := by
  obtain ⟨f, fd, hm, F⟩ := W.at_ 32 (x := "_law_row_of") (j := 74)
  refine con_of F hm sc__law_row_of rfl (fun _ _ _ _ _ _ us hl => match us, hl with | [_], _ => rfl) fun cdv A outer s H E hr => ⟨_, _,
      (dss_cons (ds_setO (i := 1) (fe_lst da_nil) sc__law_row_of.nd)
      (dss_cons (ds_for PassesOwn.never rfl (di_list (dv 0)) (dg_name (i := 2) sc__law_row_of.nd) (dss_one (ds_if (dt_cmp (op_eqA (hu64 hr)) rd_eq (de_ix (dv 2) de_int) de_str) (dss_one (ds_pub 1 (ds_setO (i := 1) (fe_op op_cat rd_addL (dv 1) (FE.de (fe_callTy call_list_of rd_list (by rfl) W.z_list PyProof.Rows.boot_list (da_cons (de_ix (dv 2) de_int) da_nil)))) sc__law_row_of.nd))) (dss_one (ds_append (i := 1) (dv 2))))))
      (dss_cons (ds_if (dt_peek (dt_cmp (op_eqA (hu64 hr)) rd_eq (de_callB call_len rd_len (by rfl) W.z_len boot_len (da_cons (dv 1) da_nil)) de_int)) (dss_one (ds_ret (de_ixO (i := 1) de_int))) dss_nil)
      (dss_one (ds_pub 1 (ds_ret (de_tup (da_cons de_str (da_cons (de_callTy call_tuple_of rd_tuple (by rfl) W.z_tuple PyProof.Rows.boot_tuple (da_cons (dv 1) da_nil)) da_nil))))))))), fun ds Φ hl hW => ?_⟩
  obtain ⟨ps, e, hl2, q⟩ := hW
  subst e
  simp
  refine loop_inv (fun (l : List Pat) ρ => ∃ (f : List Pat) (b : Sl), ρ = [.da (.list (ps.map Pat.enc)), .ow (f.map Pat.enc), b] ∧ f ++ flR l = flR ps) ⟨[], .no, rfl, by simp⟩ ?_ ?_
  · rintro p l ρ ⟨f, b, e, h1⟩ hk C hC
    subst e
    rw [flR_cons] at h1
    have hz : (f ++ (splR p ++ flR l)).length ≤ 1000 := by rw [h1]; exact hl2
    rw [List.length_append, List.length_append] at hz
    by_cases c : p.tag = "row"
    · obtain ⟨qs, rfl⟩ := tag_row c
      rw [penc_row]
      simp
      have h2 : splR (.row qs) = qs := rfl
      rw [h2] at h1 hz
      refine ⟨by rw [sizeL]; omega, hC _ ⟨f ++ qs, _, by simp; rfl, by rw [← h1]; simp⟩⟩
    · rw [splR_ne c] at h1 hz
      have hC2 := hC [.da (.list (ps.map Pat.enc)), .ow ((f ++ [p]).map Pat.enc), .da p.enc] ⟨f ++ [p], _, rfl, by rw [← h1]; simp⟩
      rw [List.map_append] at hC2
      rw [penc_eq p]
      simp [c]
      rw [← penc_eq p]
      exact ⟨by rw [sizeL]; omega, by simpa using hC2⟩
  · rintro ρ ⟨f, b, e, h1⟩
    subst e
    have h1 : f = flR ps := by rw [← h1]; simp [flR]
    subst h1
    unfold rowOf at q
    match hf : flR ps with
    | [] =>
      rw [hf] at q
      rw [penc_row] at q
      simp at q ⊢
      exact q
    | [p] =>
      rw [hf] at q
      simp at q ⊢
      exact q
    | p :: p2 :: r =>
      rw [hf] at q
      rw [penc_row] at q
      simp at q ⊢
      exact .inl ⟨by omega, q⟩
def WAnyOf : List Dt → (Dt → Prop) → Prop := fun ds Φ => ∃ ps : List Pat, ds = [.list (ps.map Pat.enc)] ∧ (flA ps).length ≤ 1000 ∧ Φ (anyOf ps).enc
theorem sc__law_any_of : FnScope ["_law_parts", "_law_found", "_law_part"] ["_law_parts"] (defScope (top 75)) := ⟨rfl, rfl, rfl, by decide +kernel, rfl, by decide +kernel, by decide +kernel⟩
theorem c_any_of (W : Wd K mg) : Con P w K mg base "_law_any_of" 3 (spP 1 WAnyOf) := by
  obtain ⟨f, fd, hm, F⟩ := W.at_ 33 (x := "_law_any_of") (j := 75)
  refine con_of F hm sc__law_any_of rfl (fun _ _ _ _ _ _ us hl => match us, hl with | [_], _ => rfl) fun cdv A outer s H E hr => ⟨_, _,
      (dss_cons (ds_setO (i := 1) (fe_lst da_nil) sc__law_any_of.nd)
      (dss_cons (ds_for PassesOwn.never rfl (di_list (dv 0)) (dg_name (i := 2) sc__law_any_of.nd) (dss_one (ds_if (dt_cmp (op_eqA (hu64 hr)) rd_eq (de_ix (dv 2) de_int) de_str) (dss_one (ds_pub 1 (ds_setO (i := 1) (fe_op op_cat rd_addL (dv 1) (FE.de (fe_callTy call_list_of rd_list (by rfl) W.z_list PyProof.Rows.boot_list (da_cons (de_ix (dv 2) de_int) da_nil)))) sc__law_any_of.nd))) (dss_one (ds_append (i := 1) (dv 2))))))
      (dss_one (ds_pub 1 (ds_ret (de_tup (da_cons de_str (da_cons (de_callTy call_tuple_of rd_tuple (by rfl) W.z_tuple PyProof.Rows.boot_tuple (da_cons (dv 1) da_nil)) da_nil)))))))), fun ds Φ hl hW => ?_⟩
  obtain ⟨ps, e, hl2, q⟩ := hW
  subst e
  simp
  refine loop_inv (fun (l : List Pat) ρ => ∃ (f : List Pat) (b : Sl), ρ = [.da (.list (ps.map Pat.enc)), .ow (f.map Pat.enc), b] ∧ f ++ flA l = flA ps) ⟨[], .no, rfl, by simp⟩ ?_ ?_
  · rintro p l ρ ⟨f, b, e, h1⟩ hk C hC
    subst e
    rw [flA_cons] at h1
    have hz : (f ++ (splA p ++ flA l)).length ≤ 1000 := by rw [h1]; exact hl2
    rw [List.length_append, List.length_append] at hz
    by_cases c : p.tag = "any"
    · obtain ⟨qs, rfl⟩ := tag_any c
      rw [penc_any]
      simp
      have h2 : splA (.any qs) = qs := rfl
      rw [h2] at h1 hz
      refine ⟨by rw [sizeL]; omega, hC _ ⟨f ++ qs, _, by simp; rfl, by rw [← h1]; simp⟩⟩
    · rw [splA_ne c] at h1 hz
      have hC2 := hC [.da (.list (ps.map Pat.enc)), .ow ((f ++ [p]).map Pat.enc), .da p.enc] ⟨f ++ [p], _, rfl, by rw [← h1]; simp⟩
      rw [List.map_append] at hC2
      rw [penc_eq p]
      simp [c]
      rw [← penc_eq p]
      exact ⟨by rw [sizeL]; omega, by simpa using hC2⟩
  · rintro ρ ⟨f, b, e, h1⟩
    subst e
    have h1 : f = flA ps := by rw [← h1]; simp [flA]
    subst h1
    unfold anyOf at q
    rw [penc_any] at q
    simp at q ⊢
    exact q
end
end MP
-- PD3
/-! The walks: the law's own names. -/
namespace MP
open PySem PySem.Spec PyProof.Rows L2 MH
/-! ### sorted texts -/
theorem leD_str : (fun a b : Str => leD (.str a) (.str b)) = sLe := PySem.W.dataLe_str (fun x : Str => x)
theorem sort_strs (zs : List Str) : sortD (stsD zs) = stsD (zs.mergeSort sLe) := by
  unfold sortD stsD
  refine (List.map_mergeSort (r := sLe) (s := leD) (f := PyData.str) (l := zs) fun a _ b _ => ?_).symm
  exact (congrFun (congrFun leD_str a) b).symm
theorem sortok_strs (zs : List Str) : SortOk (stsD zs) := by
  refine ⟨?_, .inr fun d hd => ?_, fun d hd => ?_⟩
  · intro d hd e he
    obtain ⟨x, _, rfl⟩ := List.mem_map.mp hd
    obtain ⟨y, _, rfl⟩ := List.mem_map.mp he
    rfl
  · obtain ⟨x, _, rfl⟩ := List.mem_map.mp hd
    exact ⟨fun z => (by cases z), fun xs z => (by cases z)⟩
  · obtain ⟨x, _, rfl⟩ := List.mem_map.mp hd
    simp [PyData.depth]
theorem srt_sort {zs : List Str} (n : zs.Nodup) : Srt (zs.mergeSort sLe) := by
  refine srt_of_sorted ?_ ((List.mergeSort_perm zs sLe).nodup_iff.mpr n)
  exact List.pairwise_mergeSort sLe_trans sLe_total zs
/-! ### pieces of texts -/
theorem cutS_ok {x : Str} (h : PyData.strOk x = true) (lo hi : Option Int) : PyData.strOk (cutS x lo hi) = true := by
  unfold PyData.strOk at h ⊢
  rw [← Array.all_toList, List.all_eq_true] at h ⊢
  intro c hc
  refine h c ?_
  unfold cutS at hc
  have hc : c ∈ (List.take (HT.sIx x.length x.length hi - HT.sIx x.length 0 lo) (List.drop (HT.sIx x.length 0 lo) x.cps.toList)).toArray.toList := hc
  rw [List.toList_toArray] at hc
  exact List.mem_of_mem_drop (List.mem_of_mem_take hc)
def nmK (x : Str) (at_ : Int) (f k : Nat) : Str := cutS x none (some at_) ++ ltr ((f + 7 * k) % 26) ++ cutS x (some at_) none
theorem nmK_inj {x : Str} {at_ : Int} {f j k : Nat} (h : nmK x at_ f j = nmK x at_ f k) : (f + 7 * j) % 26 = (f + 7 * k) % 26 := by
  have e : ∀ a b : Str, (a ++ b).cps = a.cps ++ b.cps := fun _ _ => rfl
  have h2 := congrArg (fun z : Str => z.cps.toList) h
  unfold nmK at h2
  simp only [e, Array.toList_append, List.append_assoc] at h2
  have h3 := List.append_cancel_left h2
  have h4 := List.append_cancel_right h3
  have h5 : [97 + (f + 7 * j) % 26] = [97 + (f + 7 * k) % 26] := h4
  simp at h5
  omega
section
variable {P : Program} {w : World} {K : PySem.W.Frag} {mg : Str → Option Value} {base : Heap}
def WNames : Nat → List Dt → (Nat → Dt → Prop) → Prop := fun m ds Φ => ∃ n : Nat, ds = [.int n] ∧ n ≤ 3 ∧ 8 ≤ m ∧ ∀ (N : List Str) (m' : Nat), Srt N → N.length = n → (∀ x ∈ N, sOk x) → m ≤ m' + 8 → Φ m' (.list (stsD N))
theorem sc__law_names : FnScope ["_law_deck_here", "_law_many", "_law_first", "_law_base", "_law_at_here", "_law_close", "_law_found", "_law_k", "_law_sign_here"] ["_law_deck_here", "_law_many"] (defScope (top 73)) := ⟨rfl, rfl, rfl, by decide +kernel, rfl, by decide +kernel, by decide +kernel⟩
theorem c_names (W : Wd K mg) : Con P w K mg base "_law_names" 5 (spK 1 WNames) := by
  have h__law_draw := c_draw (P := P) (w := w) (base := base) W
  have h__law_word := c_word (P := P) (w := w) (base := base) W
  obtain ⟨f, fd, hm, F⟩ := W.at_ 31 (x := "_law_names") (j := 73)
  refine con_ofK F hm sc__law_names rfl (fun _ _ _ _ _ _ us hl => match us, hl with | [_, _], _ => rfl) fun cdv A outer s H E hr => ⟨_, _,
      (dss_cons (ds_set (i := 2) (de_callK (i := 0) h__law_draw (hr.mono (by omega)) (da_cons de_int da_nil)) sc__law_names.nd)
      (dss_cons (ds_set (i := 3) (de_callK (i := 0) h__law_word (hr.mono (by omega)) (da_cons de_int da_nil)) sc__law_names.nd)
      (dss_cons (ds_set (i := 4) (de_callK (i := 0) h__law_draw (hr.mono (by omega)) (da_cons (de_op op_add rd_rI0 (de_callB call_len rd_len (by rfl) W.z_len boot_len (da_cons (dv 3) da_nil)) de_int) da_nil)) sc__law_names.nd)
      (dss_cons (ds_set (i := 5) (de_callK (i := 0) h__law_draw (hr.mono (by omega)) (da_cons de_int da_nil)) sc__law_names.nd)
      (dss_cons (ds_setO (i := 6) (fe_lst da_nil) sc__law_names.nd)
      (dss_cons (ds_for PassesOwn.never rfl (di_range W.z_range (dv 1)) (dg_name (i := 7) sc__law_names.nd) (dss_cons (ds_set (i := 8) (de_ix de_str (de_op op_mod rd_rI (de_op op_add rd_rI0 (dv 2) (de_op op_mul rd_rI de_int (dv 7))) de_int)) sc__law_names.nd)
      (dss_one (ds_if (dt_cmp (op_eqA (hu64 hr)) rd_eq (dv 5) de_int) (dss_cons (ds_set (i := 3) (de_op op_add_str rd_addS (dv 3) (dv 8)) sc__law_names.nd)
      (dss_one (ds_append (i := 6) (dv 3)))) (dss_one (ds_append (i := 6) (de_op op_add_str rd_addS (de_op op_add_str rd_addS (de_slS (dv 3) do_none (do_some (dv 4))) (dv 8)) (de_slS (dv 3) (do_some (dv 4)) do_none))))))))
      (dss_one (ds_pub 6 (ds_ret (FE.de (fe_sorted rfl (hu64 hr) W.z_sorted (dv 6)))))))))))), fun a m ds Φ hl hW => ?_⟩
  obtain ⟨n, e, hn, hm, q⟩ := hW
  subst e
  simp
  refine ⟨by omega, fun v v0 v1 => ⟨4, rfl, by omega, by omega, fun base0 m1 hl1 hok1 hm1 => ?_⟩⟩
  obtain ⟨f, rfl⟩ := Int.eq_ofNat_of_zero_le v0
  have lz : ∀ z : Str, z.length ≤ 100 → lenD (.str z) = some z.length := fun z hz => if_pos (by rw [sizeL]; omega)
  refine ⟨_, lz base0 (by omega), by omega, by omega, fun at_ a0 a1 => ⟨by omega, fun cl c0 c1 => ⟨by omega, ?_⟩⟩⟩
  have im : ∀ k : Nat, (((f : Int) + 7 * (k : Nat)) % 26) = (((f + 7 * k) % 26 : Nat) : Int) := fun k => by omega
  have hlt : ∀ k : Nat, (f + 7 * k) % 26 < 26 := fun k => Nat.mod_lt _ (by decide)
  have cm : ∀ k : Nat, k < n → CMul 7 (k : Nat) := fun k hk => .inl ⟨by decide, by decide⟩
  have fin : ∀ (found : List Str) (m' : Nat), found.Nodup → found.length = n → (∀ x ∈ found, sOk x) → m ≤ m' + 8 → SortOk (stsD found) ∧ found.length ≤ 100000 ∧ Φ m' (.list (sortD (stsD found))) := fun found m' nd fl fo hm2 => by
    refine ⟨sortok_strs _, by omega, ?_⟩
    rw [sort_strs]
    exact q _ m' (srt_sort nd) (by rw [List.length_mergeSort]; exact fl) (fun x hx => fo x ((List.mergeSort_perm _ _).mem_iff.mp hx)) hm2
  have stm : ∀ (xs : List Str) (x : Str), stsD xs ++ [PyData.str x] = stsD (xs ++ [x]) := fun xs x => by simp [stsD]
  by_cases hc : cl = 0
  · subst hc
    refine loop_inv (fun (l : List Nat) ρ => ∃ (done : List Nat) (found : List Str) (b : Str) (s1 s2 : Sl), done ++ l = List.range n ∧ ρ = [.dk a (m1 - 1 - 1), .da (.int n), .da (.int f), .da (.str b), .da (.int at_), .da (.int 0), .ow (stsD found), s1, s2] ∧
      found.Nodup ∧ found.length = done.length ∧ (∀ x ∈ found, sOk x ∧ x.length ≤ b.length) ∧ PyData.strOk b = true ∧ b.length + l.length ≤ 4 + n) ⟨[], [], base0, .no, .no, rfl, rfl, .nil, rfl, (fun x h => by cases h), hok1, by rw [List.length_range]; omega⟩ ?_ ?_
    · rintro k l ρ ⟨done, found, b, s1, s2, hd, e, nd, fl, fo, bo, bl⟩ hk C hC
      subst e
      have hk2 : k < n := List.mem_range.mp hk
      rw [List.length_cons] at bl
      simp
      refine ⟨cm k hk2, _, by rw [im]; exact alpha_at _ (hlt k), _, rfl, by rw [ltr_len, sizeL]; omega, by rw [sizeL]; have := congrArg List.length hd; simp at this; omega, ?_⟩
      rw [stm]
      refine hC _ ⟨done ++ [k], found ++ [b ++ ltr ((f + 7 * k) % 26)], _, _, _, by rw [← hd]; simp, rfl, ?_, by simp [fl], ?_, app_ok bo (ltr_ok (hlt k)), by rw [app_len, ltr_len]; omega⟩
      · rw [List.nodup_append]
        refine ⟨nd, by simp, fun x hx y hy e => ?_⟩
        rw [List.mem_singleton.mp hy] at e
        have := (fo x hx).2
        rw [e, app_len, ltr_len] at this
        omega
      · intro x hx
        rcases List.mem_append.mp hx with h | h
        · refine ⟨(fo x h).1, ?_⟩
          have := (fo x h).2
          rw [app_len]
          omega
        · rw [List.mem_singleton.mp h]
          exact ⟨⟨by rw [app_len, ltr_len]; omega, app_ok bo (ltr_ok (hlt k))⟩, Nat.le_refl _⟩
    · rintro ρ ⟨done, found, b, s1, s2, hd, e, nd, fl, fo, bo, bl⟩
      subst e
      rw [List.append_nil] at hd
      simp
      exact fin found (m1 - 1 - 1) nd (by rw [fl, hd, List.length_range]) (fun x hx => (fo x hx).1) (by omega)
  · refine loop_inv (fun (l : List Nat) ρ => ∃ (done : List Nat) (found : List Str) (s1 s2 : Sl), done ++ l = List.range n ∧ ρ = [.dk a (m1 - 1 - 1), .da (.int n), .da (.int f), .da (.str base0), .da (.int at_), .da (.int cl), .ow (stsD found), s1, s2] ∧
      found = done.map (nmK base0 at_ f)) ⟨[], [], .no, .no, rfl, rfl, rfl⟩ ?_ ?_
    · rintro k l ρ ⟨done, found, s1, s2, hd, e, fd2⟩ hk C hC
      subst e
      have hk2 : k < n := List.mem_range.mp hk
      have ll := congrArg List.length hd
      rw [List.length_append, List.length_range, List.length_cons] at ll
      simp [hc]
      have l1 := cutS_length base0 none (some at_)
      have l2 := cutS_length base0 (some at_) none
      refine ⟨cm k hk2, _, by rw [im]; exact alpha_at _ (hlt k), by rw [sizeL]; omega, _, rfl, by rw [ltr_len, sizeL]; omega, by rw [sizeL]; omega, by rw [app_len, ltr_len, sizeL]; omega, by rw [sizeL, fd2, List.length_map]; omega, ?_⟩
      rw [stm]
      exact hC _ ⟨done ++ [k], _, _, _, by rw [← hd]; simp, rfl, by rw [fd2, List.map_append]; rfl⟩
    · rintro ρ ⟨done, found, s1, s2, hd, e, fd2⟩
      subst e
      rw [List.append_nil] at hd
      simp
      refine fin found (m1 - 1 - 1) ?_ (by rw [fd2, hd]; simp) ?_ (by omega)
      · rw [fd2, hd]
        show List.Pairwise (· ≠ ·) _
        rw [List.pairwise_map]
        refine List.Pairwise.imp_of_mem (fun {i j} hi hj hij e => ?_) (List.pairwise_lt_range (n := n))
        have := nmK_inj e
        have := List.mem_range.mp hi
        have := List.mem_range.mp hj
        omega
      · intro x hx
        rw [fd2] at hx
        obtain ⟨k, _, rfl⟩ := List.mem_map.mp hx
        have l1 := cutS_length base0 none (some at_)
        have l2 := cutS_length base0 (some at_) none
        refine ⟨?_, ?_⟩
        · unfold nmK
          rw [app_len, app_len, ltr_len]
          omega
        · exact app_ok (app_ok (cutS_ok hok1 _ _) (ltr_ok (hlt k))) (cutS_ok hok1 _ _)
end
end MP
-- PL3
/-! Patterns that the law draws, plain: widths, marks. -/
namespace MP
open PySem PySem.Spec PyProof.Rows L2
/-- at most d levels, at most W parts side by side, at most M marks written, of names of N -/
def pokW (N : List Str) (W M : Nat) : Nat → Pat → Prop
  | 0, _ => False
  | d + 1, p => p.marks.length ≤ M ∧ match p with
    | .sign s => sOk s
    | .row ps => ps.length ≤ W ∧ ∀ q ∈ ps, pokW N W M d q
    | .any ps => ps.length ≤ W ∧ ∀ q ∈ ps, pokW N W M d q
    | .rep lo hi q => (lo = 0 ∨ lo = 1) ∧ ((hi = none ∧ q.marks = []) ∨ hi = some 1) ∧ pokW N W M d q
    | .mark n q => n ∈ N ∧ pokW N W M d q
theorem pokW_pok {N : List Str} {W M : Nat} (hW : W ≤ 1000) (hM : M ≤ 1000) : ∀ {d : Nat} {p : Pat}, pokW N W M d p → pok N d p
  | 0, _, h => h.elim
  | d + 1, p, h => by
    refine ⟨Nat.le_trans h.1 hM, ?_⟩
    cases p with
    | sign s => exact h.2
    | row ps => exact ⟨Nat.le_trans h.2.1 hW, fun q hq => pokW_pok hW hM (h.2.2 q hq)⟩
    | any ps => exact ⟨Nat.le_trans h.2.1 hW, fun q hq => pokW_pok hW hM (h.2.2 q hq)⟩
    | rep lo hi q => exact ⟨h.2.1, h.2.2.1, pokW_pok hW hM h.2.2.2⟩
    | mark n q => exact ⟨h.2.1, pokW_pok hW hM h.2.2⟩
theorem pokW_mono {N N' : List Str} {W W' M M' : Nat} (hN : ∀ n ∈ N, n ∈ N') (hW : W ≤ W') (hM : M ≤ M') : ∀ {d d' : Nat} {p : Pat}, d ≤ d' → pokW N W M d p → pokW N' W' M' d' p
  | 0, _, _, _, h => h.elim
  | d + 1, 0, _, hd, _ => absurd hd (Nat.not_succ_le_zero d)
  | d + 1, d' + 1, p, hd, h => by
    have hd' : d ≤ d' := Nat.le_of_succ_le_succ hd
    refine ⟨Nat.le_trans h.1 hM, ?_⟩
    cases p with
    | sign s => exact h.2
    | row ps => exact ⟨Nat.le_trans h.2.1 hW, fun q hq => pokW_mono hN hW hM hd' (h.2.2 q hq)⟩
    | any ps => exact ⟨Nat.le_trans h.2.1 hW, fun q hq => pokW_mono hN hW hM hd' (h.2.2 q hq)⟩
    | rep lo hi q => exact ⟨h.2.1, h.2.2.1, pokW_mono hN hW hM hd' h.2.2.2⟩
    | mark n q => exact ⟨hN n h.2.1, pokW_mono hN hW hM hd' h.2.2⟩
theorem pokW_marks {N : List Str} {W M d : Nat} {p : Pat} (h : pokW N W M d p) : p.marks.length ≤ M := by
  cases d with
  | zero => exact h.elim
  | succ d => exact h.1
/-! ### rows, anys of parts -/
theorem marks_splR (p : Pat) : ((splR p).map Pat.marks).flatten = p.marks := by
  cases p <;> simp [splR, Pat.marks, marksL_eq]
theorem marks_splA (p : Pat) : ((splA p).map Pat.marks).flatten = p.marks := by
  cases p <;> simp [splA, Pat.marks, marksL_eq]
theorem marks_flR : ∀ ps : List Pat, ((flR ps).map Pat.marks).flatten = (ps.map Pat.marks).flatten
  | [] => rfl
  | p :: ps => by rw [flR_cons, List.map_append, List.flatten_append, marks_splR, marks_flR ps, List.map_cons, List.flatten_cons]
theorem marks_flA : ∀ ps : List Pat, ((flA ps).map Pat.marks).flatten = (ps.map Pat.marks).flatten
  | [] => rfl
  | p :: ps => by rw [flA_cons, List.map_append, List.flatten_append, marks_splA, marks_flA ps, List.map_cons, List.flatten_cons]
theorem rowOf_cases (ps : List Pat) : (∃ p, flR ps = [p] ∧ rowOf ps = p) ∨ rowOf ps = .row (flR ps) := by
  unfold rowOf
  match flR ps with
  | [] => exact .inr rfl
  | [p] => exact .inl ⟨p, rfl, rfl⟩
  | p :: q :: r => exact .inr rfl
theorem marks_rowOf (ps : List Pat) : (rowOf ps).marks = (ps.map Pat.marks).flatten := by
  rw [← marks_flR]
  rcases rowOf_cases ps with ⟨p, e1, e2⟩ | e
  · rw [e1, e2]; simp
  · rw [e, Pat.marks, marksL_eq]
theorem marks_anyOf (ps : List Pat) : (anyOf ps).marks = (ps.map Pat.marks).flatten := by
  rw [← marks_flA]
  unfold anyOf
  rw [Pat.marks, marksL_eq]
theorem flat_len {α : Type} {K : Nat} : ∀ {ls : List (List α)}, (∀ l ∈ ls, l.length ≤ K) → ls.flatten.length ≤ K * ls.length
  | [], _ => by simp
  | l :: ls, h => by
    have h1 := h l List.mem_cons_self
    have h2 := flat_len (ls := ls) fun x hx => h x (List.mem_cons_of_mem _ hx)
    rw [List.flatten_cons, List.length_append, List.length_cons, Nat.mul_succ]
    omega
theorem splR_len {N : List Str} {W M d : Nat} {p : Pat} (hW : 1 ≤ W) (h : pokW N W M d p) : (splR p).length ≤ W := by
  cases d with
  | zero => exact h.elim
  | succ d => cases p <;> first | exact hW | exact h.2.1
theorem splA_len {N : List Str} {W M d : Nat} {p : Pat} (hW : 1 ≤ W) (h : pokW N W M d p) : (splA p).length ≤ W := by
  cases d with
  | zero => exact h.elim
  | succ d => cases p <;> first | exact hW | exact h.2.1
theorem flR_len {N : List Str} {W M d : Nat} {ps : List Pat} (hW : 1 ≤ W) (h : ∀ p ∈ ps, pokW N W M d p) : (flR ps).length ≤ W * ps.length := by
  have := flat_len (K := W) (ls := ps.map splR) fun l hl => by
    obtain ⟨p, hp, rfl⟩ := List.mem_map.mp hl
    exact splR_len hW (h p hp)
  rw [List.length_map] at this
  exact this
theorem flA_len {N : List Str} {W M d : Nat} {ps : List Pat} (hW : 1 ≤ W) (h : ∀ p ∈ ps, pokW N W M d p) : (flA ps).length ≤ W * ps.length := by
  have := flat_len (K := W) (ls := ps.map splA) fun l hl => by
    obtain ⟨p, hp, rfl⟩ := List.mem_map.mp hl
    exact splA_len hW (h p hp)
  rw [List.length_map] at this
  exact this
theorem splR_ok {N : List Str} {W M d : Nat} {p : Pat} (h : pokW N W M d p) : ∀ q ∈ splR p, pokW N W M d q := by
  cases d with
  | zero => exact h.elim
  | succ d =>
    cases p with
    | row ps => exact fun q hq => pokW_mono (fun _ h => h) (Nat.le_refl _) (Nat.le_refl _) (Nat.le_succ d) (h.2.2 q hq)
    | _ =>
      intro q hq
      rw [List.mem_singleton.mp hq]
      exact h
theorem splA_ok {N : List Str} {W M d : Nat} {p : Pat} (h : pokW N W M d p) : ∀ q ∈ splA p, pokW N W M d q := by
  cases d with
  | zero => exact h.elim
  | succ d =>
    cases p with
    | any ps => exact fun q hq => pokW_mono (fun _ h => h) (Nat.le_refl _) (Nat.le_refl _) (Nat.le_succ d) (h.2.2 q hq)
    | _ =>
      intro q hq
      rw [List.mem_singleton.mp hq]
      exact h
theorem flR_ok {N : List Str} {W M d : Nat} {ps : List Pat} (h : ∀ p ∈ ps, pokW N W M d p) : ∀ q ∈ flR ps, pokW N W M d q := by
  intro q hq
  obtain ⟨l, hl, hql⟩ := List.mem_flatten.mp hq
  obtain ⟨p, hp, rfl⟩ := List.mem_map.mp hl
  exact splR_ok (h p hp) q hql
theorem flA_ok {N : List Str} {W M d : Nat} {ps : List Pat} (h : ∀ p ∈ ps, pokW N W M d p) : ∀ q ∈ flA ps, pokW N W M d q := by
  intro q hq
  obtain ⟨l, hl, hql⟩ := List.mem_flatten.mp hq
  obtain ⟨p, hp, rfl⟩ := List.mem_map.mp hl
  exact splA_ok (h p hp) q hql
theorem marks_flat_len {N : List Str} {W M d : Nat} {ps : List Pat} (h : ∀ p ∈ ps, pokW N W M d p) : ((ps.map Pat.marks).flatten).length ≤ M * ps.length := by
  have := flat_len (K := M) (ls := ps.map Pat.marks) fun l hl => by
    obtain ⟨p, hp, rfl⟩ := List.mem_map.mp hl
    exact pokW_marks (h p hp)
  rw [List.length_map] at this
  exact this
theorem mul_ge {a n : Nat} (h : 1 ≤ n) : a ≤ a * n := Nat.le_mul_of_pos_right a h
theorem pok_rowOf {N : List Str} {W M d : Nat} {ps : List Pat} (hW : 1 ≤ W) (hn : 1 ≤ ps.length) (h : ∀ p ∈ ps, pokW N W M d p) : pokW N (W * ps.length) (M * ps.length) (d + 1) (rowOf ps) := by
  have up : ∀ q ∈ flR ps, pokW N (W * ps.length) (M * ps.length) d q := fun q hq => pokW_mono (fun _ h => h) (mul_ge hn) (mul_ge hn) (Nat.le_refl _) (flR_ok h q hq)
  rcases rowOf_cases ps with ⟨p, e1, e2⟩ | e
  · rw [e2]
    refine pokW_mono (fun _ h => h) (Nat.le_refl _) (Nat.le_refl _) (Nat.le_succ d) (up p (by rw [e1]; exact List.mem_singleton_self p))
  · refine ⟨by rw [marks_rowOf]; exact marks_flat_len h, ?_⟩
    rw [e]
    exact ⟨flR_len hW h, up⟩
theorem pok_anyOf {N : List Str} {W M d : Nat} {ps : List Pat} (hW : 1 ≤ W) (hn : 1 ≤ ps.length) (h : ∀ p ∈ ps, pokW N W M d p) : pokW N (W * ps.length) (M * ps.length) (d + 1) (anyOf ps) := by
  have up : ∀ q ∈ flA ps, pokW N (W * ps.length) (M * ps.length) d q := fun q hq => pokW_mono (fun _ h => h) (mul_ge hn) (mul_ge hn) (Nat.le_refl _) (flA_ok h q hq)
  exact ⟨by rw [marks_anyOf]; exact marks_flat_len h, flA_len hW h, up⟩
/-! ### marks on one way -/
mutual
def Pat.mm : Pat → Nat
  | .sign _ => 0
  | .row ps => mmS ps
  | .any ps => mmX ps
  | .rep _ _ p => p.mm
  | .mark _ p => p.mm + 1
def mmS : List Pat → Nat
  | [] => 0
  | p :: ps => p.mm + mmS ps
def mmX : List Pat → Nat
  | [] => 0
  | p :: ps => max p.mm (mmX ps)
end
theorem mmS_app : ∀ ps qs : List Pat, mmS (ps ++ qs) = mmS ps + mmS qs
  | [], qs => by simp [mmS]
  | p :: ps, qs => by rw [List.cons_append, mmS, mmS, mmS_app ps qs, Nat.add_assoc]
theorem mmX_app : ∀ ps qs : List Pat, mmX (ps ++ qs) = max (mmX ps) (mmX qs)
  | [], qs => by simp [mmX]
  | p :: ps, qs => by rw [List.cons_append, mmX, mmX, mmX_app ps qs, Nat.max_assoc]
theorem mm_splR (p : Pat) : mmS (splR p) = p.mm := by cases p <;> simp [splR, mmS, Pat.mm]
theorem mm_splA (p : Pat) : mmX (splA p) = p.mm := by cases p <;> simp [splA, mmX, Pat.mm]
theorem mm_flR : ∀ ps : List Pat, mmS (flR ps) = mmS ps
  | [] => rfl
  | p :: ps => by rw [flR_cons, mmS_app, mm_splR, mm_flR ps, mmS]
theorem mm_flA : ∀ ps : List Pat, mmX (flA ps) = mmX ps
  | [] => rfl
  | p :: ps => by rw [flA_cons, mmX_app, mm_splA, mm_flA ps, mmX]
theorem mm_rowOf (ps : List Pat) : (rowOf ps).mm = mmS ps := by
  rw [← mm_flR]
  rcases rowOf_cases ps with ⟨p, e1, e2⟩ | e
  · rw [e1, e2]; simp [mmS]
  · rw [e, Pat.mm]
theorem mm_anyOf (ps : List Pat) : (anyOf ps).mm = mmX ps := by
  rw [← mm_flA]
  unfold anyOf
  rw [Pat.mm]
mutual
theorem mm_marks : ∀ p : Pat, p.mm ≤ p.marks.length
  | .sign _ => Nat.le_refl 0
  | .row ps => by rw [Pat.mm, Pat.marks]; exact mmS_marks ps
  | .any ps => by rw [Pat.mm, Pat.marks]; exact mmX_marks ps
  | .rep _ _ p => by rw [Pat.mm, Pat.marks]; exact mm_marks p
  | .mark _ p => by rw [Pat.mm, Pat.marks, List.length_append]; exact Nat.succ_le_succ (mm_marks p)
theorem mmS_marks : ∀ ps : List Pat, mmS ps ≤ (marksL ps).length
  | [] => Nat.le_refl 0
  | p :: ps => by
    have := mm_marks p
    have := mmS_marks ps
    rw [mmS, marksL, List.length_append]
    omega
theorem mmX_marks : ∀ ps : List Pat, mmX ps ≤ (marksL ps).length
  | [] => Nat.le_refl 0
  | p :: ps => by
    have := mm_marks p
    have := mmX_marks ps
    rw [mmX, marksL, List.length_append]
    omega
end
end MP
-- PD4
/-! The walks: patterns without marks. -/
namespace MP
open PySem PySem.Spec PyProof.Rows L2 MH
section
variable {P : Program} {w : World} {K : PySem.W.Frag} {mg : Str → Option Value} {base : Heap}
theorem con_noneK {x : Str} {params : Arguments} {body : List Stmt} {scope : Scope} {f : Addr} {fd : FuncData} {ps : List Str} {k n : Nat} (F : FunD K x x params body scope [] [] f fd) (hm : mg x = some (.ref f)) (hps : ps.length = n + 1)
    (bd : ∀ (kV doc pm : Value) (an : Option Addr) (cdv ct : Value) (us : List Value), us.length = ps.length → bindArgs (PySem.W.fnOf x x params body scope .none kV doc pm an cdv ct) ⟨us, []⟩ = pure (ps.zip us))
    {W : Nat → List Dt → (Nat → Dt → Prop) → Prop} (hW : ∀ m ds Φ, ¬ W m ds Φ) : Con P w K mg base x k (spK n W) :=
  ⟨f, fd, ps, hm, F.kp, F.bindsN bd, fun vs H Q E ⟨h, _⟩ => h.trans hps.symm, fun A outer s H args us vs Q E _ _ _ _ ⟨_, _, _, _, m, _, ds, Φ, _, _, _, _, _, _, h, _⟩ => (hW m ds Φ h).elim⟩
theorem con_monoW {x : Str} {k n : Nat} {W W' : Nat → List Dt → (Nat → Dt → Prop) → Prop} (C : Con P w K mg base x k (spK n W)) (h : ∀ m ds Φ, W' m ds Φ → W m ds Φ) : Con P w K mg base x k (spK n W') := C.impK h
def WSolid (D : Nat) : Nat → List Dt → (Nat → Dt → Prop) → Prop := fun m ds Φ => ∃ e : Nat, e < D ∧ e ≤ 8 ∧ ds = [.int e] ∧ 4 ^ (e + 1) ≤ m + 1 ∧ ∀ p m', (∀ N, pokW N (2 ^ e) 0 (e + 1) p) → m + 1 ≤ m' + 4 ^ (e + 1) → Φ m' (Pat.enc p)
def WBare (D : Nat) : Nat → List Dt → (Nat → Dt → Prop) → Prop := fun m ds Φ => ∃ e : Nat, e < D ∧ e ≤ 8 ∧ ds = [.int e] ∧ 4 ^ (e + 1) ≤ m ∧ ∀ p m', (∀ N, pokW N (2 ^ e) 0 (e + 1) p) → m ≤ m' + 4 ^ (e + 1) → Φ m' (Pat.enc p)
theorem sign_ok {s : Str} (h : s ∈ signs6) : ∀ (N : List Str) (W d : Nat), pokW N W 0 (d + 1) (.sign s) := fun N W d => by
  refine ⟨Nat.le_refl 0, ?_⟩
  show sOk s
  simp [signs6] at h
  rcases h with rfl | rfl | rfl | rfl | rfl | rfl <;> exact ⟨by decide +kernel, by decide +kernel⟩
theorem two_pow_pos (e : Nat) : 1 ≤ 2 ^ e := Nat.one_le_two_pow
theorem sc__law_solid : FnScope ["_law_deck_here", "_law_deep", "_law_way"] ["_law_deck_here", "_law_deep"] (defScope (top 77)) := ⟨rfl, rfl, rfl, by decide +kernel, rfl, by decide +kernel, by decide +kernel⟩
theorem c_solid_step (W : Wd K mg) {D k : Nat} (h__law_solid : Con P w K mg base "_law_solid" k (spK 1 (WSolid D))) (h__law_bare : Con P w K mg base "_law_bare" k (spK 1 (WBare D))) (hk : 3 ≤ k) : Con P w K mg base "_law_solid" (k + 1) (spK 1 (WSolid (D + 1))) := by
  have h__law_draw := c_draw (P := P) (w := w) (base := base) W
  have h__law_sign := c_sign (P := P) (w := w) (base := base) W
  have h__law_row_of := c_row_of (P := P) (w := w) (base := base) W
  have h__law_any_of := c_any_of (P := P) (w := w) (base := base) W
  obtain ⟨f, fd, hm, F⟩ := W.at_ 35 (x := "_law_solid") (j := 77)
  refine con_ofK F hm sc__law_solid rfl (fun _ _ _ _ _ _ us hl => match us, hl with | [_, _], _ => rfl) fun cdv A outer s H E hr => ⟨_, _,
      (dss_cons (ds_set (i := 2) (de_callK (i := 0) h__law_draw (hr.mono (by omega)) (da_cons de_int da_nil)) sc__law_solid.nd)
      (dss_cons (ds_if (dw_or (dt_cmp (op_eqA (hu64 hr)) rd_eq (dv 1) de_int) (dw_or1 (dt_cmp op_lt rd_rB0 (dv 2) de_int))).dt (dss_one (ds_ret (de_callK (i := 0) h__law_sign (hr.mono (by omega)) da_nil))) dss_nil)
      (dss_cons (ds_if (dt_cmp (op_eqA (hu64 hr)) rd_eq (dv 2) de_int) (dss_one (ds_ret (de_call h__law_row_of (hr.mono (by omega)) (da_cons (FE.de (fe_lst (da_cons (de_callK (i := 0) h__law_solid (hr.mono (by omega)) (da_cons (de_op op_sub rd_rI0 (dv 1) de_int) da_nil)) (da_cons (de_callK (i := 0) h__law_bare (hr.mono (by omega)) (da_cons (de_op op_sub rd_rI0 (dv 1) de_int) da_nil)) da_nil)))) da_nil)))) dss_nil)
      (dss_cons (ds_if (dt_cmp (op_eqA (hu64 hr)) rd_eq (dv 2) de_int) (dss_one (ds_ret (de_call h__law_any_of (hr.mono (by omega)) (da_cons (FE.de (fe_lst (da_cons (de_callK (i := 0) h__law_solid (hr.mono (by omega)) (da_cons (de_op op_sub rd_rI0 (dv 1) de_int) da_nil)) (da_cons (de_callK (i := 0) h__law_solid (hr.mono (by omega)) (da_cons (de_op op_sub rd_rI0 (dv 1) de_int) da_nil)) da_nil)))) da_nil)))) dss_nil)
      (dss_cons (ds_if (dt_cmp (op_eqA (hu64 hr)) rd_eq (dv 2) de_int) (dss_one (ds_ret (de_tup (da_cons de_str (da_cons de_int (da_cons de_non (da_cons (de_callK (i := 0) h__law_solid (hr.mono (by omega)) (da_cons (de_op op_sub rd_rI0 (dv 1) de_int) da_nil)) da_nil))))))) dss_nil)
      (dss_one (ds_ret (de_call h__law_row_of (hr.mono (by omega)) (da_cons (FE.de (fe_lst (da_cons (de_callK (i := 0) h__law_bare (hr.mono (by omega)) (da_cons (de_op op_sub rd_rI0 (dv 1) de_int) da_nil)) (da_cons (de_callK (i := 0) h__law_sign (hr.mono (by omega)) da_nil) da_nil)))) da_nil))))))))), fun a m ds Φ hl hW => ?_⟩
  obtain ⟨e, he, he8, ed, hm, q⟩ := hW
  subst ed
  simp
  have m1 : 1 ≤ m := by
    have : 4 ^ (e + 1) ≥ 4 := Nat.le_self_pow (by omega) 4
    omega
  refine ⟨m1, fun v v0 v1 => ?_⟩
  have sg : ∀ s ∈ signs6, Φ (m - 1 - 1) (Pat.sign s).enc := fun s hs => q (.sign s) (m - 1 - 1) (fun N => sign_ok hs N _ _) (by
    have : 4 ^ (e + 1) ≥ 4 := Nat.le_self_pow (by omega) 4
    omega)
  have sgn : WSign (m - 1) [] fun m' d => Φ m' d := ⟨rfl, by
    have : 4 ^ (e + 1) ≥ 4 := Nat.le_self_pow (by omega) 4
    omega, sg⟩
  cases e with
  | zero => exact .inr ⟨rfl, sgn⟩
  | succ e =>
    have ei : (((e + 1 : Nat) : Int) - 1) = (e : Nat) := by omega
    rw [ei]
    have X1 : 4 ^ (e + 1 + 1) = 4 * 4 ^ (e + 1) := by rw [Nat.pow_succ, Nat.mul_comm]
    have X4 : 4 ^ (e + 1) ≥ 4 := Nat.le_self_pow (by omega) 4
    have heD : e < D := by omega
    have two : ∀ {x y : Pat}, (∀ N, pokW N (2 ^ e) 0 (e + 1) x) → (∀ N, pokW N (2 ^ e) 0 (e + 1) y) → ∀ N, ∀ p ∈ [x, y], pokW N (2 ^ e) 0 (e + 1) p := fun hx hy N p hp => by
      rcases List.mem_cons.mp hp with rfl | hp
      · exact hx N
      · rw [List.mem_singleton.mp hp]; exact hy N
    have rw2 : ∀ {x y : Pat}, (∀ N, pokW N (2 ^ e) 0 (e + 1) x) → (∀ N, pokW N (2 ^ e) 0 (e + 1) y) → ∀ N, pokW N (2 ^ (e + 1)) 0 (e + 1 + 1) (rowOf [x, y]) := fun hx hy N => by
      rw [Nat.pow_succ]
      exact pok_rowOf (ps := [_, _]) (M := 0) (two_pow_pos e) (by simp) (two hx hy N)
    have aw2 : ∀ {x y : Pat}, (∀ N, pokW N (2 ^ e) 0 (e + 1) x) → (∀ N, pokW N (2 ^ e) 0 (e + 1) y) → ∀ N, pokW N (2 ^ (e + 1)) 0 (e + 1 + 1) (anyOf [x, y]) := fun hx hy N => by
      rw [Nat.pow_succ]
      exact pok_anyOf (ps := [_, _]) (M := 0) (two_pow_pos e) (by simp) (two hx hy N)
    have rl : ∀ {x y : Pat}, (∀ N, pokW N (2 ^ e) 0 (e + 1) x) → (∀ N, pokW N (2 ^ e) 0 (e + 1) y) → (flR [x, y]).length ≤ 1000 := fun hx hy => by
      have := flR_len (two_pow_pos e) (two hx hy [])
      have : 2 ^ e ≤ 2 ^ 8 := Nat.pow_le_pow_right (by decide) (by omega)
      simp at this
      simp at *
      omega
    have al : ∀ {x y : Pat}, (∀ N, pokW N (2 ^ e) 0 (e + 1) x) → (∀ N, pokW N (2 ^ e) 0 (e + 1) y) → (flA [x, y]).length ≤ 1000 := fun hx hy => by
      have := flA_len (two_pow_pos e) (two hx hy [])
      have : 2 ^ e ≤ 2 ^ 8 := Nat.pow_le_pow_right (by decide) (by omega)
      simp at this
      simp at *
      omega
    have sgW : ∀ {s : Str}, s ∈ signs6 → ∀ N, pokW N (2 ^ e) 0 (e + 1) (.sign s) := fun hs N => sign_ok hs N _ _
    refine .inl ⟨by omega, ?_⟩
    by_cases c2 : v < 2
    · exact .inr ⟨c2, sgn⟩
    refine .inl ⟨by omega, ?_⟩
    by_cases c3 : v = 2
    · refine .inr ⟨c3, e, heD, (by omega), rfl, by omega, fun x ma hx ha => ⟨e, heD, (by omega), rfl, by omega, fun y mb hy hb => ⟨[x, y], by simp, rl hx hy, q _ mb (rw2 hx hy) (by omega)⟩⟩⟩
    refine .inl ⟨c3, ?_⟩
    by_cases c4 : v = 3
    · refine .inr ⟨c4, e, heD, (by omega), rfl, by omega, fun x ma hx ha => ⟨e, heD, (by omega), rfl, by omega, fun y mb hy hb => ⟨[x, y], by simp, al hx hy, q _ mb (aw2 hx hy) (by omega)⟩⟩⟩
    refine .inl ⟨c4, ?_⟩
    by_cases c5 : v = 4
    · refine .inr ⟨c5, e, heD, (by omega), rfl, by omega, fun x ma hx ha => ?_⟩
      have := q (.rep 1 none x) ma (fun N => ?_) (by omega)
      · rw [penc_rep] at this
        exact this
      · have hm0 : x.marks = [] := List.length_eq_zero_iff.mp (Nat.le_zero.mp (pokW_marks (hx N)))
        refine ⟨by rw [Pat.marks, hm0]; exact Nat.le_refl 0, .inr rfl, .inl ⟨rfl, hm0⟩, ?_⟩
        exact pokW_mono (fun _ h => h) (Nat.pow_le_pow_right (by decide) (Nat.le_succ e)) (Nat.le_refl _) (Nat.le_refl _) (hx N)
    refine .inl ⟨c5, e, heD, (by omega), rfl, by omega, fun x ma hx ha => ⟨rfl, by omega, fun s hs => ⟨[x, .sign s], by simp, rl hx (sgW hs), q _ (ma - 1) (rw2 hx (sgW hs)) (by omega)⟩⟩⟩
theorem sc__law_bare : FnScope ["_law_deck_here", "_law_deep", "_law_way"] ["_law_deck_here", "_law_deep"] (defScope (top 78)) := ⟨rfl, rfl, rfl, by decide +kernel, rfl, by decide +kernel, by decide +kernel⟩
theorem c_bare_step (W : Wd K mg) {D k : Nat} (h__law_solid : Con P w K mg base "_law_solid" k (spK 1 (WSolid (D + 1)))) (h__law_bare : Con P w K mg base "_law_bare" k (spK 1 (WBare D))) (hk : 3 ≤ k) : Con P w K mg base "_law_bare" (k + 1) (spK 1 (WBare (D + 1))) := by
  have h__law_draw := c_draw (P := P) (w := w) (base := base) W
  have h__law_any_of := c_any_of (P := P) (w := w) (base := base) W
  obtain ⟨f, fd, hm, F⟩ := W.at_ 36 (x := "_law_bare") (j := 78)
  refine con_ofK F hm sc__law_bare rfl (fun _ _ _ _ _ _ us hl => match us, hl with | [_, _], _ => rfl) fun cdv A outer s H E hr => ⟨_, _,
      (dss_cons (ds_set (i := 2) (de_callK (i := 0) h__law_draw (hr.mono (by omega)) (da_cons de_int da_nil)) sc__law_bare.nd)
      (dss_cons (ds_if (dt_cmp (op_eqA (hu64 hr)) rd_eq (dv 2) de_int) (dss_one (ds_ret (de_tup (da_cons de_str (da_cons (de_tup da_nil) da_nil))))) dss_nil)
      (dss_cons (ds_if (dw_and (dt_cmp op_gt rd_rB0 (dv 1) de_int) (dw_and1 (dt_cmp (op_eqA (hu64 hr)) rd_eq (dv 2) de_int))).dt (dss_one (ds_ret (de_tup (da_cons de_str (da_cons de_int (da_cons de_non (da_cons (de_callK (i := 0) h__law_solid (hr.mono (by omega)) (da_cons (de_op op_sub rd_rI0 (dv 1) de_int) da_nil)) da_nil))))))) dss_nil)
      (dss_cons (ds_if (dw_and (dt_cmp op_gt rd_rB0 (dv 1) de_int) (dw_and1 (dt_cmp (op_eqA (hu64 hr)) rd_eq (dv 2) de_int))).dt (dss_one (ds_ret (de_tup (da_cons de_str (da_cons de_int (da_cons de_int (da_cons (de_callK (i := 0) h__law_bare (hr.mono (by omega)) (da_cons (de_op op_sub rd_rI0 (dv 1) de_int) da_nil)) da_nil))))))) dss_nil)
      (dss_cons (ds_if (dw_and (dt_cmp op_gt rd_rB0 (dv 1) de_int) (dw_and1 (dt_cmp (op_eqA (hu64 hr)) rd_eq (dv 2) de_int))).dt (dss_one (ds_ret (de_call h__law_any_of (hr.mono (by omega)) (da_cons (FE.de (fe_lst (da_cons (de_callK (i := 0) h__law_bare (hr.mono (by omega)) (da_cons (de_op op_sub rd_rI0 (dv 1) de_int) da_nil)) (da_cons (de_callK (i := 0) h__law_solid (hr.mono (by omega)) (da_cons (de_op op_sub rd_rI0 (dv 1) de_int) da_nil)) da_nil)))) da_nil)))) dss_nil)
      (dss_one (ds_ret (de_callK (i := 0) h__law_solid (hr.mono (by omega)) (da_cons (dv 1) da_nil))))))))), fun a m ds Φ hl hW => ?_⟩
  obtain ⟨e, he, he8, ed, hm, q⟩ := hW
  subst ed
  simp
  have X4 : 4 ^ (e + 1) ≥ 4 := Nat.le_self_pow (by omega) 4
  refine ⟨by omega, fun v v0 v1 => ?_⟩
  have so : WSolid (D + 1) (m - 1) [PyData.int e] fun m' d => Φ m' d := ⟨e, he, he8, rfl, by omega, fun p m' hp hm' => q p m' hp (by omega)⟩
  by_cases c0 : v = 0
  · refine .inr ⟨c0, ?_⟩
    have := q (.row []) (m - 1) (fun N => ⟨Nat.le_refl 0, Nat.zero_le _, fun p hp => by cases hp⟩) (by omega)
    rw [penc_row] at this
    exact this
  refine .inl ⟨c0, ?_⟩
  cases e with
  | zero => exact .inl ⟨rfl, .inl ⟨rfl, .inl ⟨rfl, so⟩⟩⟩
  | succ e =>
    have ei : (((e + 1 : Nat) : Int) - 1) = (e : Nat) := by omega
    rw [ei]
    have X1 : 4 ^ (e + 1 + 1) = 4 * 4 ^ (e + 1) := by rw [Nat.pow_succ, Nat.mul_comm]
    have heD : e < D := by omega
    have up : ∀ {x : Pat}, (∀ N, pokW N (2 ^ e) 0 (e + 1) x) → ∀ N, pokW N (2 ^ (e + 1)) 0 (e + 1) x := fun hx N => pokW_mono (fun _ h => h) (Nat.pow_le_pow_right (by decide) (Nat.le_succ e)) (Nat.le_refl _) (Nat.le_refl _) (hx N)
    have hm0 : ∀ {x : Pat}, (∀ N, pokW N (2 ^ e) 0 (e + 1) x) → x.marks = [] := fun hx => List.length_eq_zero_iff.mp (Nat.le_zero.mp (pokW_marks (hx [])))
    have rp : ∀ {x : Pat} {hi : Option Int}, (hi = none ∨ hi = some 1) → (∀ N, pokW N (2 ^ e) 0 (e + 1) x) → ∀ N, pokW N (2 ^ (e + 1)) 0 (e + 1 + 1) (.rep 0 hi x) := fun hh hx N => by
      refine ⟨by rw [Pat.marks, hm0 hx]; exact Nat.le_refl 0, .inl rfl, ?_, up hx N⟩
      rcases hh with h | h
      · exact .inl ⟨h, hm0 hx⟩
      · exact .inr h
    refine .inr ⟨Nat.succ_pos e, ?_⟩
    by_cases c1 : v = 1
    · refine .inr ⟨c1, e, (by omega), (by omega), rfl, by omega, fun x ma hx ha => ?_⟩
      have := q (.rep 0 none x) ma (rp (.inl rfl) hx) (by omega)
      rw [penc_rep] at this
      exact this
    refine .inl ⟨c1, .inr ⟨Nat.succ_pos e, ?_⟩⟩
    by_cases c2 : v = 2
    · refine .inr ⟨c2, e, heD, (by omega), rfl, by omega, fun x ma hx ha => ?_⟩
      have := q (.rep 0 (some 1) x) ma (rp (.inr rfl) hx) (by omega)
      rw [penc_rep] at this
      exact this
    refine .inl ⟨c2, .inr ⟨Nat.succ_pos e, ?_⟩⟩
    by_cases c3 : v = 3
    · refine .inr ⟨c3, e, heD, (by omega), rfl, by omega, fun x ma hx ha => ⟨e, (by omega), (by omega), rfl, by omega, fun y mb hy hb => ?_⟩⟩
      have two : ∀ N, ∀ p ∈ [x, y], pokW N (2 ^ e) 0 (e + 1) p := fun N p hp => by
        rcases List.mem_cons.mp hp with rfl | hp
        · exact hx N
        · rw [List.mem_singleton.mp hp]; exact hy N
      refine ⟨[x, y], by simp, ?_, q _ mb (fun N => ?_) (by omega)⟩
      · have := flA_len (two_pow_pos e) (two [])
        have : 2 ^ e ≤ 2 ^ 8 := Nat.pow_le_pow_right (by decide) (by omega)
        simp at *
        omega
      · rw [Nat.pow_succ]
        exact pok_anyOf (ps := [_, _]) (M := 0) (two_pow_pos e) (by simp) (two N)
    exact .inl ⟨c3, so⟩
theorem c_bare_solid (W : Wd K mg) : ∀ D, Con P w K mg base "_law_solid" (2 * D + 3) (spK 1 (WSolid D)) ∧ Con P w K mg base "_law_bare" (2 * D + 3) (spK 1 (WBare D))
  | 0 => by
    constructor
    · obtain ⟨f, fd, hm, F⟩ := W.at_ 35 (x := "_law_solid") (j := 77)
      exact con_noneK F hm (ps := ["_law_deck_here", "_law_deep"]) rfl (fun _ _ _ _ _ _ us hl => match us, hl with | [_, _], _ => rfl) fun m ds Φ ⟨e, he, _⟩ => absurd he (Nat.not_lt_zero _)
    · obtain ⟨f, fd, hm, F⟩ := W.at_ 36 (x := "_law_bare") (j := 78)
      exact con_noneK F hm (ps := ["_law_deck_here", "_law_deep"]) rfl (fun _ _ _ _ _ _ us hl => match us, hl with | [_, _], _ => rfl) fun m ds Φ ⟨e, he, _⟩ => absurd he (Nat.not_lt_zero _)
  | D + 1 => by
    obtain ⟨h1, h2⟩ := c_bare_solid W D
    have h3 := c_solid_step W h1 h2 (by omega)
    have h4 := c_bare_step W h3 (h2.mono (by omega)) (by omega)
    exact ⟨h3.mono (by omega), h4⟩
end
end MP
-- PD5
/-! The walks: patterns with marks. -/
namespace MP
open PySem PySem.Spec PyProof.Rows L2 MH
section
variable {P : Program} {w : World} {K : PySem.W.Frag} {mg : Str → Option Value} {base : Heap}
theorem t_eqT {i : Nat} {ρ : Ev} {Θ : Bool → Ev → Prop} {x c : Int} (h : ρ[i]? = some (.da (.int x))) (e : x = c) (k : Θ true ρ) : wTest (w2 fEq (wVar i) (wC (.int c))) ρ Θ := by
  subst e
  exact ⟨_, h, .inl rfl, true, congrArg PyData.bool (by simp), k⟩
theorem t_eqF {i : Nat} {ρ : Ev} {Θ : Bool → Ev → Prop} {x c : Int} (h : ρ[i]? = some (.da (.int x))) (e : x ≠ c) (k : Θ false ρ) : wTest (w2 fEq (wVar i) (wC (.int c))) ρ Θ :=
  ⟨_, h, .inl rfl, false, congrArg PyData.bool (by simp [e]), k⟩
section
variable {α : Type} {g : α → Dt} {vs : List Nat} {wg : WG} {wt : WT} {we : WE}
theorem lc_inv (I : List α → List Dt → Ev → Prop) (step : ∀ a r acc ρ, I (a :: r) acc ρ → ∀ (C : Dt → Ev → Prop) (Cf : Ev → Prop), (∀ x ρ', I r (acc ++ [x]) (wipeE ρ' vs) → C x ρ') → (∀ ρ', I r acc (wipeE ρ' vs) → Cf ρ') →
      wg (g a) ρ fun ρ1 => wt ρ1 fun b ρ2 => if b = true then we ρ2 C else Cf ρ2) :
    ∀ {l : List α} {acc : List Dt} {ρ : Ev} {k : List Dt → Ev → Prop}, I l acc ρ → (∀ xs ρ', I [] (acc ++ xs) ρ' → k xs ρ') → wLc wg wt we vs (l.map g) ρ k
  | [], acc, ρ, k, h0, he => he [] ρ (by rw [List.append_nil]; exact h0)
  | a :: l, acc, ρ, k, h0, he => by
    refine step a l acc ρ h0 (fun x ρ3 => wLc wg wt we vs (l.map g) (wipeE ρ3 vs) (fun xs ρ4 => k (x :: xs) ρ4)) (fun ρ2 => wLc wg wt we vs (l.map g) (wipeE ρ2 vs) k) (fun x ρ' hI => ?_) (fun ρ' hI => ?_)
    · exact lc_inv I step hI fun xs ρ'' h => he (x :: xs) ρ'' (by rw [List.append_assoc] at h; exact h)
    · exact lc_inv I step hI he
end
theorem cut_lo (xs : List Str) (k : Nat) : cutD (stsD xs) none (some (k : Int)) = stsD (xs.take k) := by
  unfold cutD stsD
  rw [HT.sIx_nat, HT.sIx_none, List.drop_zero, Nat.sub_zero, List.length_map, List.map_take]
  rcases Nat.le_total k xs.length with h | h
  · rw [Nat.min_eq_left h]
  · rw [Nat.min_eq_right h, List.take_of_length_le (by simp), List.take_of_length_le (by simpa using h)]
theorem cut_hi (xs : List Str) (k : Nat) : cutD (stsD xs) (some (k : Int)) none = stsD (xs.drop k) := by
  unfold cutD stsD
  rw [HT.sIx_nat, HT.sIx_none, List.length_map, List.map_drop]
  rcases Nat.le_total k xs.length with h | h
  · rw [Nat.min_eq_left h, List.take_of_length_le (by simp)]
  · rw [Nat.min_eq_right h, List.drop_of_length_le (by simp), List.drop_of_length_le (by simpa using h)]
    simp
/-- draws of a pattern with marks -/
def dmk : Nat → Nat
  | 0 => 20
  | e + 1 => 2 * dmk e + 40
def wmk (e : Nat) : Nat := 4 * 3 ^ e
def WMk (D : Nat) : Nat → List Dt → (Nat → Dt → Prop) → Prop := fun m ds Φ => ∃ (ns : List Str) (e : Nat), e < D ∧ e ≤ 4 ∧ ds = [.list (stsD ns), .int e] ∧ ns.length ≤ 3 ∧ (∀ n ∈ ns, sOk n) ∧ dmk e ≤ m ∧
  ∀ p m', pokW ns (wmk e) (wmk e) (e + 3) p → p.mm ≤ ns.length → (∀ x ∈ ns, x ∈ p.marks) → m ≤ m' + dmk e → Φ m' (Pat.enc p)
theorem sc__law_marked : FnScope ["_law_deck_here", "_law_names_here", "_law_deep", "_law_parts", "_law_name", "_law_way", "_law_cut", "_law_before", "_law_at_here"] ["_law_deck_here", "_law_names_here", "_law_deep"] (defScope (top 79)) := ⟨rfl, rfl, rfl, by decide +kernel, rfl, by decide +kernel, by decide +kernel⟩
theorem c_marked_step (W : Wd K mg) {D k : Nat} (h__law_marked : Con P w K mg base "_law_marked" k (spK 2 (WMk D))) (hk : 10 ≤ k) : Con P w K mg base "_law_marked" (k + 1) (spK 2 (WMk (D + 1))) := by
  have h__law_draw := c_draw (P := P) (w := w) (base := base) W
  have h__law_bare := (c_bare_solid (P := P) (w := w) (base := base) W 2).2
  have h__law_row_of := c_row_of (P := P) (w := w) (base := base) W
  have h__law_any_of := c_any_of (P := P) (w := w) (base := base) W
  obtain ⟨f, fd, hm, F⟩ := W.at_ 37 (x := "_law_marked") (j := 79)
  refine con_ofK F hm sc__law_marked rfl (fun _ _ _ _ _ _ us hl => match us, hl with | [_, _, _], _ => rfl) fun cdv A outer s H E hr => ⟨_, _,
      (dss_cons (ds_if (dt_cmp (op_eqA (hu64 hr)) rd_eq (dv 1) (FE.de (fe_lst da_nil))) (dss_one (ds_ret (de_callK (i := 0) h__law_bare (hr.mono (by omega)) (da_cons (de_callB (call_min2 rfl) rd_min2 (by rfl) W.z_min boot_min (da_cons de_int (da_cons (dv 2) da_nil))) da_nil)))) dss_nil)
      (dss_cons (ds_if (dt_cmp (op_eqA (hu64 hr)) rd_eq (dv 2) de_int) (dss_cons (ds_setLcD (i := 3) (own := [("_law_name", 4)]) rfl sc__law_marked.nd rfl rfl (sw_true rfl rfl rfl (by decide +kernel)) (di_list (dv 1)) (blkOk_by (own := [("_law_name", 4)]) (N := ["_law_deck_here", "_law_names_here", "_law_deep", "_law_parts", "_law_name", "_law_way", "_law_cut", "_law_before", "_law_at_here"]) (sc := defScope (top 79)) (by decide +kernel)) (fun _ _ _ _ _ => (dg_name (i := 4) sc__law_marked.nd)) (fun _ _ _ _ _ => dts_nil) (fun _ _ _ _ _ => (DE.castK (de_tup (da_cons de_str (da_cons (dv 4) (da_cons (de_callK (i := 0) h__law_bare (hr.mono (by omega)) (da_cons de_int da_nil)) da_nil)))) (by dsimp only [Cx.blk] <;> rfl))))
      (dss_one (ds_ret (de_call h__law_row_of (hr.mono (by omega)) (da_cons (FE.de (fe_op op_cat rd_addL (dv 3) (FE.de (fe_lst (da_cons (de_tup (da_cons de_str (da_cons (de_tup da_nil) da_nil))) da_nil))))) da_nil))))) dss_nil)
      (dss_cons (ds_set (i := 5) (de_callK (i := 0) h__law_draw (hr.mono (by omega)) (da_cons de_int da_nil)) sc__law_marked.nd)
      (dss_cons (ds_if (dt_cmp (op_eqA (hu64 hr)) rd_eq (dv 5) de_int) (dss_cons (ds_set (i := 6) (de_callK (i := 0) h__law_draw (hr.mono (by omega)) (da_cons (de_op op_add rd_rI0 (de_callB call_len rd_len (by rfl) W.z_len boot_len (da_cons (dv 1) da_nil)) de_int) da_nil)) sc__law_marked.nd)
      (dss_cons (ds_set (i := 7) (de_callK (i := 0) h__law_marked (hr.mono (by omega)) (da_cons (FE.de (fe_slL (dv 1) do_none (do_some (dv 6)))) (da_cons (de_op op_sub rd_rI0 (dv 2) de_int) da_nil))) sc__law_marked.nd)
      (dss_one (ds_ret (de_call h__law_row_of (hr.mono (by omega)) (da_cons (FE.de (fe_lst (da_cons (dv 7) (da_cons (de_callK (i := 0) h__law_bare (hr.mono (by omega)) (da_cons de_int da_nil)) (da_cons (de_callK (i := 0) h__law_marked (hr.mono (by omega)) (da_cons (FE.de (fe_slL (dv 1) (do_some (dv 6)) do_none)) (da_cons (de_op op_sub rd_rI0 (dv 2) de_int) da_nil))) da_nil))))) da_nil)))))) dss_nil)
      (dss_cons (ds_if (dt_cmp (op_eqA (hu64 hr)) rd_eq (dv 5) de_int) (dss_cons (ds_set (i := 6) (de_callK (i := 0) h__law_draw (hr.mono (by omega)) (da_cons (de_op op_add rd_rI0 (de_callB call_len rd_len (by rfl) W.z_len boot_len (da_cons (dv 1) da_nil)) de_int) da_nil)) sc__law_marked.nd)
      (dss_one (ds_ret (de_call h__law_any_of (hr.mono (by omega)) (da_cons (FE.de (fe_lst (da_cons (de_callK (i := 0) h__law_marked (hr.mono (by omega)) (da_cons (dv 1) (da_cons (de_op op_sub rd_rI0 (dv 2) de_int) da_nil))) (da_cons (de_callK (i := 0) h__law_marked (hr.mono (by omega)) (da_cons (FE.de (fe_slL (dv 1) (do_some (dv 6)) do_none)) (da_cons (de_op op_sub rd_rI0 (dv 2) de_int) da_nil))) da_nil)))) da_nil))))) dss_nil)
      (dss_cons (ds_if (dt_cmp (op_eqA (hu64 hr)) rd_eq (dv 5) de_int) (dss_one (ds_ret (de_tup (da_cons de_str (da_cons de_int (da_cons de_int (da_cons (de_callK (i := 0) h__law_marked (hr.mono (by omega)) (da_cons (dv 1) (da_cons (de_op op_sub rd_rI0 (dv 2) de_int) da_nil))) da_nil))))))) dss_nil)
      (dss_cons (ds_if (dt_cmp (op_eqA (hu64 hr)) rd_eq (dv 5) de_int) (dss_one (ds_ret (de_call h__law_row_of (hr.mono (by omega)) (da_cons (FE.de (fe_lst (da_cons (de_callK (i := 0) h__law_bare (hr.mono (by omega)) (da_cons de_int da_nil)) (da_cons (de_callK (i := 0) h__law_marked (hr.mono (by omega)) (da_cons (dv 1) (da_cons (de_op op_sub rd_rI0 (dv 2) de_int) da_nil))) (da_cons (de_callK (i := 0) h__law_bare (hr.mono (by omega)) (da_cons de_int da_nil)) da_nil))))) da_nil)))) dss_nil)
      (dss_cons (ds_set (i := 8) (de_callK (i := 0) h__law_draw (hr.mono (by omega)) (da_cons (de_callB call_len rd_len (by rfl) W.z_len boot_len (da_cons (dv 1) da_nil)) da_nil)) sc__law_marked.nd)
      (dss_one (ds_ret (de_tup (da_cons de_str (da_cons (de_ix (dv 1) (dv 8)) (da_cons (de_callK (i := 0) h__law_marked (hr.mono (by omega)) (da_cons (FE.de (fe_op op_cat rd_addL (FE.de (fe_slL (dv 1) do_none (do_some (dv 8)))) (FE.de (fe_slL (dv 1) (do_some (de_op op_add rd_rI0 (dv 8) de_int)) do_none)))) (da_cons (de_op op_sub rd_rI0 (dv 2) de_int) da_nil))) da_nil)))))))))))))), fun a m ds Φ hl hW => ?_⟩
  obtain ⟨ns, e, he, he4, ed, hn3, hso, hm, q⟩ := hW
  subst ed
  have s1 := (shp_strs hso).2
  have s2 := (shp_strs (ns := []) fun m hm => by cases hm).2
  have ok : EqOk (.list (stsD ns)) (.list []) := .inr ⟨s1, s2⟩
  have ev : PyData.eqv (.list (stsD ns)) (.list []) = decide (ns = []) := by rw [← stsD_nil, v_strsL]
  by_cases cn : ns = []
  · rw [decide_eq_true cn] at ev
    refine ⟨_, rfl, ok, _, congrArg PyData.bool ev, iteT ?_⟩
    simp
    have h0 : ∀ j : Nat, j < 2 → WBare 2 m [PyData.int j] fun m' d => Φ m' d := fun j hj => ⟨j, hj, by omega, rfl, by
      have : 4 ^ (j + 1) ≤ 4 ^ 2 := Nat.pow_le_pow_right (by decide) (by omega)
      have : 20 ≤ dmk e := by cases e <;> simp [dmk] <;> omega
      omega, fun p m' hp hm' => q p m' (pokW_mono (fun _ h => h) (by
        have : 2 ^ j ≤ 2 ^ 1 := Nat.pow_le_pow_right (by decide) (by omega)
        have : 1 ≤ 3 ^ e := Nat.one_le_pow _ _ (by decide)
        unfold wmk
        omega) (Nat.zero_le _) (by omega) (hp ns)) (by
        have := mm_marks p
        have := pokW_marks (hp ns)
        omega) (fun x hx => by rw [cn] at hx; cases hx) (by
        have : 4 ^ (j + 1) ≤ 4 ^ 2 := Nat.pow_le_pow_right (by decide) (by omega)
        have : 20 ≤ dmk e := by cases e <;> simp [dmk] <;> omega
        omega)⟩
    refine ⟨1, e, ⟨rfl, rfl⟩, ?_⟩
    cases e with
    | zero => exact h0 0 (by decide)
    | succ e =>
      have : ¬ (((e + 1 : Nat) : Int) < 1) := by omega
      rw [if_neg this]
      exact h0 1 (by decide)
  rw [decide_eq_false cn] at ev
  refine ⟨_, rfl, ok, _, congrArg PyData.bool ev, iteF ?_⟩
  cases e with
  | zero =>
    refine t_eqT rfl rfl (iteT ?_)
    simp
    refine ⟨by omega, ?_⟩
    refine lc_inv (g := PyData.str) (l := ns) (acc := []) (fun (l : List Str) acc ρ => ∃ (m' : Nat) (ps : List Pat), ρ = [.dk a m', .da (.list (stsD ns)), .da (.int 0), .no, .no, .no, .no, .no, .no] ∧ acc = ps.map Pat.enc ∧ (∀ p ∈ ps, pokW ns 1 1 2 p) ∧ ps.length + l.length = ns.length ∧
      mmS ps ≤ ps.length ∧ (∀ x ∈ ns, x ∈ l ∨ x ∈ (ps.map Pat.marks).flatten) ∧ (∀ x ∈ l, x ∈ ns) ∧ 4 * l.length ≤ m' ∧ m + 4 * l.length ≤ m' + 12) ?_ ⟨m, [], rfl, rfl, (fun p hp => by cases hp), by simp, Nat.le_refl 0, (fun x hx => .inl hx), (fun x hx => hx), by simp [dmk] at hm; omega, by omega⟩ ?_
    · rintro x r acc ρ ⟨m', ps, e1, e2, e3, e4, e5, e6, e7, e8, e9⟩ C Cf hC _
      subst e1 e2
      rw [List.length_cons] at e4 e8 e9
      simp
      refine ⟨0, by decide, by decide, rfl, by omega, fun p mb hp hb => hC _ _ ⟨mb, ps ++ [.mark x p], rfl, by rw [List.map_append, List.map_cons, List.map_nil, penc_mark], fun y hy => ?_, by simp; omega, ?_, fun y hy => ?_, fun y hy => e7 y (List.mem_cons_of_mem _ hy), by omega, by omega⟩⟩
      · rcases List.mem_append.mp hy with h | h
        · exact e3 y h
        · rw [List.mem_singleton.mp h]
          refine ⟨?_, e7 x List.mem_cons_self, pokW_mono (fun _ h => h) (Nat.le_refl _) (Nat.zero_le _) (Nat.le_refl _) (hp ns)⟩
          rw [Pat.marks, List.length_append, List.length_singleton]
          have := pokW_marks (hp ns)
          omega
      · have := mm_marks p
        have := pokW_marks (hp ns)
        rw [mmS_app, List.length_append, List.length_singleton, mmS, mmS, Pat.mm]
        omega
      · rw [List.map_append, List.flatten_append]
        rcases e6 y hy with h | h
        · rcases List.mem_cons.mp h with rfl | h
          · exact .inr (List.mem_append_right _ (by simp [Pat.marks]))
          · exact .inl h
        · exact .inr (List.mem_append_left _ h)
    · rintro xs ρ ⟨m', ps, e1, e2, e3, e4, e5, e6, e7, e8, e9⟩
      subst e1
      have e2 : xs = ps.map Pat.enc := by simpa using e2
      subst e2
      simp at e4
      have hps : ∀ p ∈ ps ++ [Pat.row []], pokW ns 1 1 2 p := fun p hp => by
        rcases List.mem_append.mp hp with h | h
        · exact e3 p h
        · rw [List.mem_singleton.mp h]
          exact ⟨Nat.zero_le _, Nat.zero_le _, fun q hq => by cases hq⟩
      have hlen : (ps ++ [Pat.row []]).length = ns.length + 1 := by simp [e4]
      have hok := pok_rowOf (Nat.le_refl 1) (by rw [hlen]; omega) hps
      have hfl := flR_len (Nat.le_refl 1) hps
      rw [hlen] at hok hfl
      simp
      refine ⟨by rw [sizeL]; omega, ps ++ [.row []], by simp [penc_row], by omega, q _ m' (pokW_mono (fun _ h => h) ?_ ?_ (Nat.le_refl _) hok) ?_ (fun x hx => ?_) (by simp [dmk]; omega)⟩
      · simp [wmk]; omega
      · simp [wmk]; omega
      · rw [mm_rowOf, mmS_app]
        simp [mmS, Pat.mm]
        omega
      · rw [marks_rowOf, List.map_append, List.flatten_append]
        rcases e6 x hx with h | h
        · cases h
        · exact List.mem_append_left _ h
  | succ e =>
    have ei : (((e + 1 : Nat) : Int) - 1) = (e : Nat) := by omega
    have dm : dmk (e + 1) = 2 * dmk e + 40 := rfl
    have wm : wmk (e + 1) = wmk e * 3 := by unfold wmk; rw [Nat.pow_succ, Nat.mul_assoc]
    have w4 : wmk (e + 1) ≤ 1000 := by
      have : 3 ^ (e + 1) ≤ 3 ^ 4 := Nat.pow_le_pow_right (by decide) (by omega)
      unfold wmk
      omega
    have w1 : 1 ≤ wmk e := by
      have : 1 ≤ 3 ^ e := Nat.one_le_pow _ _ (by decide)
      unfold wmk
      omega
    have w2 : 2 ≤ wmk e := by
      have : 1 ≤ 3 ^ e := Nat.one_le_pow _ _ (by decide)
      unfold wmk
      omega
    have bare : ∀ {j : Nat} {p : Pat}, j < 2 → (∀ N, pokW N (2 ^ j) 0 (j + 1) p) → pokW ns (wmk e) (wmk e) (e + 3) p ∧ p.mm = 0 := fun {j p} hj hp => by
      refine ⟨pokW_mono (fun _ h => h) ?_ (Nat.zero_le _) (by omega) (hp ns), ?_⟩
      · have : 2 ^ j ≤ 2 ^ 1 := Nat.pow_le_pow_right (by decide) (by omega)
        omega
      · have := mm_marks p
        have := pokW_marks (hp ns)
        omega
    have up : ∀ {ms : List Str} {p : Pat}, (∀ x ∈ ms, x ∈ ns) → pokW ms (wmk e) (wmk e) (e + 3) p → pokW ns (wmk e) (wmk e) (e + 3) p := fun h hp => pokW_mono h (Nat.le_refl _) (Nat.le_refl _) (Nat.le_refl _) hp
    have rw3 : ∀ {x y z : Pat}, pokW ns (wmk e) (wmk e) (e + 3) x → pokW ns (wmk e) (wmk e) (e + 3) y → pokW ns (wmk e) (wmk e) (e + 3) z → pokW ns (wmk (e + 1)) (wmk (e + 1)) (e + 1 + 3) (rowOf [x, y, z]) ∧ (flR [x, y, z]).length ≤ 1000 := fun {x y z} hx hy hz => by
      have h3 : ∀ p ∈ [x, y, z], pokW ns (wmk e) (wmk e) (e + 3) p := by
        intro p hp
        simp at hp
        rcases hp with rfl | rfl | rfl
        · exact hx
        · exact hy
        · exact hz
      rw [wm]
      refine ⟨pok_rowOf (ps := [_, _, _]) w1 (by simp) h3, ?_⟩
      have := flR_len w1 h3
      rw [show [x, y, z].length = 3 from rfl] at this
      omega
    refine t_eqF rfl (by omega) (iteF ?_)
    refine ⟨a, ⟨m, rfl⟩, m, rfl, by omega, 6, rfl, by decide, by decide, fun v v0 v1 => ?_⟩
    by_cases c0 : v = 0
    · refine t_eqT rfl c0 (iteT ?_)
      simp
      refine ⟨by omega, by omega, fun v v0 v1 => ?_⟩
      obtain ⟨k, rfl⟩ := Int.eq_ofNat_of_zero_le v0
      rw [cut_lo, cut_hi]
      have t1 : ∀ x ∈ ns.take k, x ∈ ns := fun x hx => List.mem_of_mem_take hx
      have t2 : ∀ x ∈ ns.drop k, x ∈ ns := fun x hx => List.mem_of_mem_drop hx
      have l1 := List.length_take (i := k) (l := ns)
      have l2 := List.length_drop (i := k) (l := ns)
      refine ⟨_, e, (by omega), (by omega), rfl, by omega, fun x hx => hso x (t1 x hx), by omega, fun p1 ma hp1 hm1 hc1 ha => ⟨0, (by decide), (by decide), rfl, by omega, fun p2 mb hp2 hb => ⟨_, e, (by omega), (by omega), rfl, by omega, fun x hx => hso x (t2 x hx), by omega, fun p3 mc hp3 hm3 hc3 hcc => ?_⟩⟩⟩
      obtain ⟨b1, b2⟩ := bare (by decide) hp2
      obtain ⟨g1, g2⟩ := rw3 (up t1 hp1) b1 (up t2 hp3)
      refine ⟨[p1, p2, p3], by simp, g2, q _ mc g1 ?_ (fun x hx => ?_) (by omega)⟩
      · rw [mm_rowOf]
        simp [mmS]
        omega
      · rw [marks_rowOf]
        rw [← List.take_append_drop k ns] at hx
        rcases List.mem_append.mp hx with h | h
        · simp [hc1 x h]
        · simp [hc3 x h]
    refine t_eqF rfl c0 (iteF ?_)
    by_cases c1 : v = 1
    · refine t_eqT rfl c1 (iteT ?_)
      simp
      refine ⟨by omega, by omega, fun v v0 v1 => ?_⟩
      obtain ⟨k, rfl⟩ := Int.eq_ofNat_of_zero_le v0
      rw [cut_hi]
      have t2 : ∀ x ∈ ns.drop k, x ∈ ns := fun x hx => List.mem_of_mem_drop hx
      have l2 := List.length_drop (i := k) (l := ns)
      refine ⟨_, e, (by omega), (by omega), rfl, by omega, hso, by omega, fun p1 ma hp1 hm1 hc1 ha => ⟨_, e, (by omega), (by omega), rfl, by omega, fun x hx => hso x (t2 x hx), by omega, fun p2 mc hp2 hm2 hc2 hcc => ?_⟩⟩
      have h3 : ∀ p ∈ [p1, p2], pokW ns (wmk e) (wmk e) (e + 3) p := by
        intro p hp
        simp at hp
        rcases hp with rfl | rfl
        · exact hp1
        · exact up t2 hp2
      have g1 := pok_anyOf (ps := [p1, p2]) w1 (by simp) h3
      have g2 := flA_len w1 h3
      rw [show [p1, p2].length = 2 from rfl] at g1 g2
      refine ⟨[p1, p2], by simp, by omega, q _ mc (pokW_mono (fun _ h => h) (by omega) (by omega) (Nat.le_refl _) g1) ?_ (fun x hx => ?_) (by omega)⟩
      · rw [mm_anyOf]
        simp [mmX]
        omega
      · rw [marks_anyOf]
        simp [hc1 x hx]
    refine t_eqF rfl c1 (iteF ?_)
    by_cases c2 : v = 2
    · refine t_eqT rfl c2 (iteT ?_)
      simp
      refine ⟨_, e, (by omega), (by omega), rfl, by omega, hso, by omega, fun p1 ma hp1 hm1 hc1 ha => ?_⟩
      have := q (.rep 0 (some 1) p1) ma ⟨?_, .inl rfl, .inr rfl, pokW_mono (fun _ h => h) (by omega) (by omega) (by omega) hp1⟩ hm1 hc1 (by omega)
      · rw [penc_rep] at this
        exact this
      · have := pokW_marks hp1
        rw [Pat.marks]
        omega
    refine t_eqF rfl c2 (iteF ?_)
    by_cases c3 : v = 3
    · refine t_eqT rfl c3 (iteT ?_)
      simp
      refine ⟨1, (by decide), (by decide), rfl, by omega, fun p1 ma hp1 ha => ⟨_, e, (by omega), (by omega), rfl, by omega, hso, by omega, fun p2 mb hp2 hm2 hc2 hb => ⟨1, (by decide), (by decide), rfl, by omega, fun p3 mc hp3 hc => ?_⟩⟩⟩
      obtain ⟨b1, b2⟩ := bare (by decide) hp1
      obtain ⟨b3, b4⟩ := bare (by decide) hp3
      obtain ⟨g1, g2⟩ := rw3 b1 hp2 b3
      refine ⟨[p1, p2, p3], by simp, g2, q _ mc g1 ?_ (fun x hx => ?_) (by omega)⟩
      · rw [mm_rowOf]
        simp [mmS]
        omega
      · rw [marks_rowOf]
        simp [hc2 x hx]
    refine t_eqF rfl c3 (iteF ?_)
    simp
    have n0 : 0 < ns.length := List.length_pos_iff.mpr cn
    refine ⟨by omega, n0, by omega, fun v v0 v1 => ?_⟩
    obtain ⟨k, rfl⟩ := Int.eq_ofNat_of_zero_le v0
    have hk2 : k < ns.length := by omega
    rw [cut_lo, show ((k : Nat) : Int) + 1 = ((k + 1 : Nat) : Int) by omega, cut_hi, stsD_app]
    have t1 : ∀ x ∈ ns.take k ++ ns.drop (k + 1), x ∈ ns := fun x hx => by
      rcases List.mem_append.mp hx with h | h
      · exact List.mem_of_mem_take h
      · exact List.mem_of_mem_drop h
    have l1 := List.length_take (i := k) (l := ns)
    have l2 := List.length_drop (i := k + 1) (l := ns)
    refine ⟨.str ns[k], ?_, by rw [sizeL]; simp; omega, _, e, (by omega), (by omega), rfl, by rw [List.length_append]; omega, fun x hx => hso x (t1 x hx), by omega, fun p1 ma hp1 hm1 hc1 ha => ?_⟩
    · rw [at_nat (by simpa using hk2)]
      simp [stsD, hk2]
    have := q (.mark ns[k] p1) ma ⟨?_, List.getElem_mem hk2, pokW_mono (fun _ h => h) (by omega) (by omega) (by omega) (up t1 hp1)⟩ ?_ (fun x hx => ?_) (by omega)
    · rw [penc_mark] at this
      exact this
    · have := pokW_marks hp1
      rw [Pat.marks, List.length_append, List.length_singleton]
      omega
    · rw [List.length_append] at hm1
      rw [Pat.mm]
      omega
    · rw [Pat.marks]
      by_cases cx : x = ns[k]
      · rw [cx]; simp
      · refine List.mem_append_left _ (hc1 x ?_)
        rw [← List.take_append_drop k ns, List.drop_eq_getElem_cons hk2] at hx
        rcases List.mem_append.mp hx with h | h
        · exact List.mem_append_left _ h
        · rcases List.mem_cons.mp h with h | h
          · exact absurd h cx
          · exact List.mem_append_right _ h
theorem c_marked_pat (W : Wd K mg) : ∀ D, Con P w K mg base "_law_marked" (D + 10) (spK 2 (WMk D))
  | 0 => by
    obtain ⟨f, fd, hm, F⟩ := W.at_ 37 (x := "_law_marked") (j := 79)
    exact con_noneK F hm (ps := ["_law_deck_here", "_law_names_here", "_law_deep"]) rfl (fun _ _ _ _ _ _ us hl => match us, hl with | [_, _, _], _ => rfl) fun m ds Φ ⟨_, e, he, _⟩ => absurd he (Nat.not_lt_zero _)
  | D + 1 => (c_marked_step W (c_marked_pat W D) (by omega)).mono (by omega)
end
end MP
-- PD6
/-! The walks: plans drawn. -/
namespace MP
open PySem PySem.Spec PyProof.Rows L2 MH
@[simp] theorem ex_two {α β : Type} {x : α} {y : β} {p : α → β → Prop} : (∃ a b, (x = a ∧ y = b) ∧ p a b) = p x y :=
  propext ⟨fun ⟨_, _, ⟨e1, e2⟩, h⟩ => by subst e1 e2; exact h, fun h => ⟨x, y, ⟨rfl, rfl⟩, h⟩⟩
@[simp] theorem ex_two' {α β : Type} {x : α} {y : β} {p : α → β → Prop} : (∃ a b, (x = a ∧ b = y) ∧ p a b) = p x y :=
  propext ⟨fun ⟨_, _, ⟨e1, e2⟩, h⟩ => by subst e1 e2; exact h, fun h => ⟨x, y, ⟨rfl, rfl⟩, h⟩⟩
theorem t_ltT {i : Nat} {ρ : Ev} {Θ : Bool → Ev → Prop} {x c : Int} (h : ρ[i]? = some (.da (.int x))) (e : x < c) (k : Θ true ρ) : wTest (w2 (fI0 fun i j => .bool (decide (i < j))) (wVar i) (wC (.int c))) ρ Θ :=
  ⟨_, h, x, c, rfl, rfl, true, congrArg PyData.bool (decide_eq_true e), k⟩
theorem t_ltF {i : Nat} {ρ : Ev} {Θ : Bool → Ev → Prop} {x c : Int} (h : ρ[i]? = some (.da (.int x))) (e : ¬ x < c) (k : Θ false ρ) : wTest (w2 (fI0 fun i j => .bool (decide (i < j))) (wVar i) (wC (.int c))) ρ Θ :=
  ⟨_, h, x, c, rfl, rfl, false, congrArg PyData.bool (decide_eq_false e), k⟩
/-- at most three marks on one way, in all patterns of a plan -/
def Plan.mok : Plan → Prop
  | .pat p => p.mm ≤ 3
  | .join a b => a.mok ∧ b.mok
  | .either a b => a.mok ∧ b.mok
  | .without a b => a.mok ∧ b.mok
  | .only _ a => a.mok
  | .same _ _ a => a.mok
def dpl : Nat → Nat
  | 0 => 210
  | e + 1 => 2 * dpl e + 210
/-- a plan as the law draws it -/
structure Drawn (ns all : List Str) (e : Nat) (p : Plan) : Prop where
  ok : p.ok all
  nm : p.names = ns
  dp : p.depth ≤ e
  ph : phi p + 1 ≤ 2 ^ (e + 1)
  lv : leaves p ≤ 2 ^ e
  mm : p.mok
structure NmsOk (ns sp : List Str) : Prop where
  srt : Srt ns
  srs : Srt sp
  nd : (ns ++ sp).Nodup
  few : (ns ++ sp).length ≤ 3
  ok : ∀ n ∈ ns ++ sp, sOk n
theorem pok_monoN {N N' : List Str} (hN : ∀ n ∈ N, n ∈ N') : ∀ {d : Nat} {p : Pat}, pok N d p → pok N' d p
  | 0, _, h => h.elim
  | d + 1, p, h => by
    refine ⟨h.1, ?_⟩
    cases p with
    | sign s => exact h.2
    | row ps => exact ⟨h.2.1, fun q hq => pok_monoN hN (h.2.2 q hq)⟩
    | any ps => exact ⟨h.2.1, fun q hq => pok_monoN hN (h.2.2 q hq)⟩
    | rep lo hi q => exact ⟨h.2.1, h.2.2.1, pok_monoN hN h.2.2.2⟩
    | mark n q => exact ⟨hN n h.2.1, pok_monoN hN h.2.2⟩
theorem ok_monoN {N N' : List Str} (hN : ∀ n ∈ N, n ∈ N') : ∀ {p : Plan}, p.ok N → p.ok N'
  | .pat _, h => pok_monoN hN h
  | .join a b, h => ⟨ok_monoN (p := a) hN h.1, ok_monoN (p := b) hN h.2⟩
  | .either a b, h => ⟨ok_monoN (p := a) hN h.1, ok_monoN (p := b) hN h.2⟩
  | .without a b, h => ⟨ok_monoN (p := a) hN h.1, ok_monoN (p := b) hN h.2.1, h.2.2⟩
  | .only _ a, h => ⟨ok_monoN (p := a) hN h.1, h.2⟩
  | .same _ _ a, h => ⟨ok_monoN (p := a) hN h.1, h.2⟩
theorem drawn_pat {ns sp : List Str} {e j : Nat} {p : Pat} (nk : NmsOk ns sp) (hj : j ≤ 2) (h : pokW ns (wmk j) (wmk j) (j + 3) p) (hm : p.mm ≤ ns.length) (hc : ∀ x ∈ ns, x ∈ p.marks) : Drawn ns (ns ++ sp) e (.pat p) := by
  have hw : wmk j ≤ 1000 := by
    have : 3 ^ j ≤ 3 ^ 2 := Nat.pow_le_pow_right (by decide) hj
    unfold wmk
    omega
  have h2 : pokW ns (wmk j) (wmk j) 12 p := pokW_mono (fun _ h => h) (Nat.le_refl _) (Nat.le_refl _) (by omega) h
  have h3 := pokW_pok hw hw h2
  have few := nk.few
  rw [List.length_append] at few
  refine ⟨pok_monoN (fun n hn => List.mem_append_left _ hn) h3, ?_, Nat.zero_le _, ?_, Nat.one_le_two_pow, by show p.mm ≤ 3; omega⟩
  · exact (sset_eq nk.srt fun k => ⟨hc k, fun hk => marks_sub h3 k hk⟩).symm
  · show 1 + 1 ≤ 2 ^ (e + 1)
    have : 1 ≤ 2 ^ e := Nat.one_le_two_pow
    rw [Nat.pow_succ]
    omega
theorem zip_ni (ns : List Str) (ss : List Int) : zipD (stsD ns) (ss.map PyData.int) = (ns.zip ss).map fun p => .tuple [.str p.1, .int p.2] := by
  unfold zipD stsD
  rw [List.zip_map, List.map_map]
  rfl
/-- a choice of names -/
def pick (f : Int → Bool) (ns : List Str) (ss : List Int) : List Str := ((ns.zip ss).filter fun p => f p.2).map (·.1)
theorem pick_sub {f : Int → Bool} {ns : List Str} {ss : List Int} (h : ns.length = ss.length) : (pick f ns ss).Sublist ns := by
  have e : (ns.zip ss).map (·.1) = ns := List.map_fst_zip (by omega)
  unfold pick
  have h2 : (((ns.zip ss).filter fun p => f p.2).map (·.1)).Sublist ((ns.zip ss).map (·.1)) := List.Sublist.map _ List.filter_sublist
  rw [e] at h2
  exact h2
theorem pick_or {ns : List Str} {ss : List Int} (h : ns.length = ss.length) : ∀ x ∈ ns, x ∈ pick (fun s => !(s == 1)) ns ss ∨ x ∈ pick (fun s => !(s == 0)) ns ss := by
  intro x hx
  obtain ⟨i, hi, rfl⟩ := List.getElem_of_mem hx
  have hi2 : i < ss.length := by omega
  have hm : (ns[i], ss[i]) ∈ ns.zip ss := by
    rw [List.mem_iff_getElem]
    exact ⟨i, by rw [List.length_zip]; omega, by simp⟩
  by_cases c : ss[i] = 1
  · exact .inr (List.mem_map.mpr ⟨_, List.mem_filter.mpr ⟨hm, by simp [c]⟩, rfl⟩)
  · exact .inl (List.mem_map.mpr ⟨_, List.mem_filter.mpr ⟨hm, by simp [c]⟩, rfl⟩)
theorem NmsOk.sub {ns sp ms : List Str} (nk : NmsOk ns sp) (h : ms.Sublist ns) : NmsOk ms sp := by
  have h2 : (ms ++ sp).Sublist (ns ++ sp) := List.Sublist.append h (List.Sublist.refl sp)
  exact ⟨nk.srt.sublist h, nk.srs, nk.nd.sublist h2, Nat.le_trans h2.length_le nk.few, fun n hn => nk.ok n (h2.subset hn)⟩
theorem drawn_up {ns ms sp : List Str} {e : Nat} {p : Plan} (h : ms.Sublist ns) (d : Drawn ms (ms ++ sp) e p) : Drawn ms (ns ++ sp) e p :=
  ⟨ok_monoN (fun n hn => (List.Sublist.append h (List.Sublist.refl sp)).subset hn) d.ok, d.nm, d.dp, d.ph, d.lv, d.mm⟩
section
variable {P : Program} {w : World} {K : PySem.W.Frag} {mg : Str → Option Value} {base : Heap}
def WPlan (D : Nat) : Nat → List Dt → (Nat → Dt → Prop) → Prop := fun m ds Φ => ∃ (ns sp : List Str) (e : Nat), e < D ∧ e ≤ 2 ∧ ds = [.list (stsD ns), .list (stsD sp), .int e] ∧ NmsOk ns sp ∧ dpl e ≤ m ∧
  ∀ p m', Drawn ns (ns ++ sp) e p → m ≤ m' + dpl e → Φ m' (Plan.enc p)
theorem sc__law_plan : FnScope ["_law_deck_here", "_law_names_here", "_law_spare", "_law_deep", "_law_way", "_law_sides", "_law_name", "_law_ones", "_law_side", "_law_others", "_law_first", "_law_more", "_law_one", "_law_other"] ["_law_deck_here", "_law_names_here", "_law_spare", "_law_deep"] (defScope (top 80)) := ⟨rfl, rfl, rfl, by decide +kernel, rfl, by decide +kernel, by decide +kernel⟩
theorem c_plan_step (W : Wd K mg) {D k : Nat} (h__law_plan : Con P w K mg base "_law_plan" k (spK 3 (WPlan D))) (hk : 13 ≤ k) : Con P w K mg base "_law_plan" (k + 1) (spK 3 (WPlan (D + 1))) := by
  have h__law_draw := c_draw (P := P) (w := w) (base := base) W
  have h__law_marked := c_marked_pat (P := P) (w := w) (base := base) W 3
  obtain ⟨f, fd, hm, F⟩ := W.at_ 38 (x := "_law_plan") (j := 80)
  refine con_ofK F hm sc__law_plan rfl (fun _ _ _ _ _ _ us hl => match us, hl with | [_, _, _, _], _ => rfl) fun cdv A outer s H E hr => ⟨_, _,
      (dss_cons (ds_set (i := 4) (de_callK (i := 0) h__law_draw (hr.mono (by omega)) (da_cons de_int da_nil)) sc__law_plan.nd)
      (dss_cons (ds_if (dw_or (dt_cmp (op_eqA (hu64 hr)) rd_eq (dv 3) de_int) (dw_or1 (dt_cmp op_lt rd_rB0 (dv 4) de_int))).dt (dss_one (ds_ret (de_tup (da_cons de_str (da_cons (de_callK (i := 0) h__law_marked (hr.mono (by omega)) (da_cons (dv 1) (da_cons de_int da_nil))) da_nil))))) dss_nil)
      (dss_cons (ds_if (dw_or (dt_cmp (op_eqA (hu64 hr)) rd_eq (dv 4) de_int) (dw_or1 (dt_cmp (op_eqA (hu64 hr)) rd_eq (dv 4) de_int))).dt (dss_cons (ds_setLcD (i := 5) (own := [("_law_name", 6)]) rfl sc__law_plan.nd rfl rfl (sw_true rfl rfl rfl (by decide +kernel)) (di_list (dv 1)) (blkOk_by (own := [("_law_name", 6)]) (N := ["_law_deck_here", "_law_names_here", "_law_spare", "_law_deep", "_law_way", "_law_sides", "_law_name", "_law_ones", "_law_side", "_law_others", "_law_first", "_law_more", "_law_one", "_law_other"]) (sc := defScope (top 80)) (by decide +kernel)) (fun _ _ _ _ _ => (dg_name (i := 6) sc__law_plan.nd)) (fun _ _ _ _ _ => dts_nil) (fun _ _ _ _ _ => (DE.castK (de_callK (i := 0) h__law_draw (hr.mono (by omega)) (da_cons de_int da_nil)) (by dsimp only [Cx.blk] <;> rfl))))
      (dss_cons (ds_setLcD (i := 7) (own := [("_law_name", 6), ("_law_side", 8)]) rfl sc__law_plan.nd rfl rfl (sw_true rfl rfl rfl (by decide +kernel)) (di_zipLL W.z_zip (dv 1) (dv 5)) (blkOk_by (own := [("_law_name", 6), ("_law_side", 8)]) (N := ["_law_deck_here", "_law_names_here", "_law_spare", "_law_deep", "_law_way", "_law_sides", "_law_name", "_law_ones", "_law_side", "_law_others", "_law_first", "_law_more", "_law_one", "_law_other"]) (sc := defScope (top 80)) (by decide +kernel)) (fun _ _ _ _ _ => (DG.castK (dg_tup (n := 2) rfl (dgs_cons (dg_name (i := 6) sc__law_plan.nd) (dgs_cons (dg_name (i := 8) sc__law_plan.nd) dgs_nil))) (by dsimp only [Cx.blk] <;> rfl))) (fun _ _ _ _ _ => (DTs.castK (dts_one (dt_cmp (op_neA (hu64 hr)) rd_ne (dv 8) de_int)) (by dsimp only [Cx.blk] <;> rfl))) (fun _ _ _ _ _ => (dv 6)))
      (dss_cons (ds_setLcD (i := 9) (own := [("_law_name", 6), ("_law_side", 8)]) rfl sc__law_plan.nd rfl rfl (sw_true rfl rfl rfl (by decide +kernel)) (di_zipLL W.z_zip (dv 1) (dv 5)) (blkOk_by (own := [("_law_name", 6), ("_law_side", 8)]) (N := ["_law_deck_here", "_law_names_here", "_law_spare", "_law_deep", "_law_way", "_law_sides", "_law_name", "_law_ones", "_law_side", "_law_others", "_law_first", "_law_more", "_law_one", "_law_other"]) (sc := defScope (top 80)) (by decide +kernel)) (fun _ _ _ _ _ => (DG.castK (dg_tup (n := 2) rfl (dgs_cons (dg_name (i := 6) sc__law_plan.nd) (dgs_cons (dg_name (i := 8) sc__law_plan.nd) dgs_nil))) (by dsimp only [Cx.blk] <;> rfl))) (fun _ _ _ _ _ => (DTs.castK (dts_one (dt_cmp (op_neA (hu64 hr)) rd_ne (dv 8) de_int)) (by dsimp only [Cx.blk] <;> rfl))) (fun _ _ _ _ _ => (dv 6)))
      (dss_cons (ds_set (i := 10) (de_callK (i := 0) h__law_plan (hr.mono (by omega)) (da_cons (dv 7) (da_cons (dv 2) (da_cons (de_op op_sub rd_rI0 (dv 3) de_int) da_nil)))) sc__law_plan.nd)
      (dss_one (ds_ret (de_tup (da_cons (de_ix (FE.de (fe_lst (da_cons de_str (da_cons de_str da_nil)))) (de_op op_sub rd_rI0 (dv 4) de_int)) (da_cons (dv 10) (da_cons (de_callK (i := 0) h__law_plan (hr.mono (by omega)) (da_cons (dv 9) (da_cons (dv 2) (da_cons (de_op op_sub rd_rI0 (dv 3) de_int) da_nil)))) da_nil)))))))))) dss_nil)
      (dss_cons (ds_if (dt_cmp (op_eqA (hu64 hr)) rd_eq (dv 4) de_int) (dss_cons (ds_set (i := 10) (de_callK (i := 0) h__law_plan (hr.mono (by omega)) (da_cons (dv 1) (da_cons (dv 2) (da_cons (de_op op_sub rd_rI0 (dv 3) de_int) da_nil)))) sc__law_plan.nd)
      (dss_one (ds_ret (de_tup (da_cons de_str (da_cons (dv 10) (da_cons (de_callK (i := 0) h__law_plan (hr.mono (by omega)) (da_cons (dv 1) (da_cons (dv 2) (da_cons (de_op op_sub rd_rI0 (dv 3) de_int) da_nil)))) da_nil))))))) dss_nil)
      (dss_cons (ds_if (dt_cmp (op_eqA (hu64 hr)) rd_eq (dv 4) de_int) (dss_cons (ds_set (i := 11) (FE.de (fe_sorted rfl (hu64 hr) W.z_sorted (FE.de (fe_op op_cat rd_addL (dv 1) (FE.de (fe_slL (dv 2) do_none (do_some de_int))))))) sc__law_plan.nd)
      (dss_one (ds_ret (de_tup (da_cons de_str (da_cons (de_callTy call_tuple_of rd_tuple (by rfl) W.z_tuple PyProof.Rows.boot_tuple (da_cons (dv 1) da_nil)) (da_cons (de_callK (i := 0) h__law_plan (hr.mono (by omega)) (da_cons (dv 11) (da_cons (FE.de (fe_slL (dv 2) (do_some de_int) do_none)) (da_cons (de_op op_sub rd_rI0 (dv 3) de_int) da_nil)))) da_nil))))))) dss_nil)
      (dss_cons (ds_if (dw_and (dt_cmp (op_eqA (hu64 hr)) rd_eq (dv 4) de_int) (dw_and1 (dt_cmp (op_neA (hu64 hr)) rd_ne (dv 1) (FE.de (fe_lst da_nil))))).dt (dss_cons (ds_set (i := 12) (de_ix (dv 1) (de_callK (i := 0) h__law_draw (hr.mono (by omega)) (da_cons (de_callB call_len rd_len (by rfl) W.z_len boot_len (da_cons (dv 1) da_nil)) da_nil))) sc__law_plan.nd)
      (dss_cons (ds_set (i := 13) (de_ix (dv 1) (de_callK (i := 0) h__law_draw (hr.mono (by omega)) (da_cons (de_callB call_len rd_len (by rfl) W.z_len boot_len (da_cons (dv 1) da_nil)) da_nil))) sc__law_plan.nd)
      (dss_one (ds_ret (de_tup (da_cons de_str (da_cons (dv 12) (da_cons (dv 13) (da_cons (de_callK (i := 0) h__law_plan (hr.mono (by omega)) (da_cons (dv 1) (da_cons (dv 2) (da_cons (de_op op_sub rd_rI0 (dv 3) de_int) da_nil)))) da_nil))))))))) dss_nil)
      (dss_one (ds_ret (de_tup (da_cons de_str (da_cons (de_callK (i := 0) h__law_marked (hr.mono (by omega)) (da_cons (dv 1) (da_cons (de_op op_add rd_rI0 de_int (de_callK (i := 0) h__law_draw (hr.mono (by omega)) (da_cons de_int da_nil))) da_nil))) da_nil))))))))))), fun a m ds Φ hl hW => ?_⟩
  obtain ⟨ns, sp, e, he, he2, ed, nk, hm, q⟩ := hW
  subst ed
  have d0 : 210 ≤ dpl e := by cases e <;> simp [dpl]
  refine ⟨a, ⟨m, rfl⟩, m, rfl, by omega, 8, rfl, by decide, by decide, fun v v0 v1 => ?_⟩
  have few := nk.few
  rw [List.length_append] at few
  have nso : ∀ n ∈ ns, sOk n := fun n hn => nk.ok n (List.mem_append_left _ hn)
  have dm2 : ∀ j, j ≤ 2 → dmk j ≤ 200 := fun j hj => by
    match j, hj with
    | 0, _ => decide
    | 1, _ => decide
    | 2, _ => decide
  have pat : ∀ (ma : Nat) (j : Nat), j ≤ 2 → m ≤ ma + 2 → WMk 3 ma [.list (stsD ns), .int j] fun m' d => Φ m' (.tuple [.str "pattern", d]) := fun ma j hj hma => by
    have := dm2 j hj
    refine ⟨ns, j, by omega, by omega, rfl, by omega, nso, by omega, fun p m' hp hm2 hc hm' => ?_⟩
    have := q (.pat p) m' (drawn_pat nk hj hp hm2 hc) (by omega)
    rw [enc_pat] at this
    exact this
  by_cases ce : e = 0
  · refine t_eqT rfl (by omega) (iteT (iteT ?_))
    simp
    exact pat (m - 1) 2 (by decide) (by omega)
  refine t_eqF rfl (by omega) (iteF ?_)
  by_cases c2 : v < 2
  · refine t_ltT rfl c2 (iteT ?_)
    simp
    exact pat (m - 1) 2 (by decide) (by omega)
  refine t_ltF rfl c2 (iteF ?_)
  obtain ⟨e, rfl⟩ : ∃ e', e = e' + 1 := ⟨e - 1, by omega⟩
  have ei : (((e + 1 : Nat) : Int) - 1) = (e : Nat) := by omega
  have dm : dpl (e + 1) = 2 * dpl e + 210 := rfl
  have pw : 2 ^ (e + 1 + 1) = 2 * 2 ^ (e + 1) ∧ 2 ^ (e + 1) = 2 * 2 ^ e := ⟨by rw [Nat.pow_succ, Nat.mul_comm], by rw [Nat.pow_succ, Nat.mul_comm]⟩
  have p1 : 1 ≤ 2 ^ e := Nat.one_le_two_pow
  have call : ∀ {ms : List Str} {ma : Nat} {Ψ : Nat → Dt → Prop}, ms.Sublist ns → dpl e ≤ ma → (∀ p m', Drawn ms (ns ++ sp) e p → ma ≤ m' + dpl e → Ψ m' (Plan.enc p)) → WPlan D ma [.list (stsD ms), .list (stsD sp), .int (e : Nat)] Ψ := fun {ms ma Ψ} hs hma k => by
    exact ⟨ms, sp, e, by omega, by omega, rfl, nk.sub hs, hma, fun p m' hp hm' => k p m' (drawn_up hs hp) hm'⟩
  by_cases c3 : v = 2 ∨ v = 3
  · have : ∀ {Θ : Bool → Ev → Prop} {ρ : Ev}, ρ[4]? = some (.da (.int v)) → Θ true ρ → wOr (wTest (w2 fEq (wVar 4) (wC (.int 2)))) (wTest (w2 fEq (wVar 4) (wC (.int 3)))) ρ Θ := fun {Θ ρ} h k => by
      by_cases c : v = 2
      · exact t_eqT h c (iteT k)
      · exact t_eqF h c (iteF (t_eqT h (c3.resolve_left c) k))
    refine this rfl (iteT ?_)
    simp
    refine ⟨by omega, ?_⟩
    refine lc_inv (g := PyData.str) (l := ns) (acc := []) (fun (l : List Str) acc ρ => ∃ (m' : Nat) (ss : List Int), ρ = [.dk a m', .da (.list (stsD ns)), .da (.list (stsD sp)), .da (.int ((e : Int) + 1)), .da (.int v), .no, .no, .no, .no, .no, .no, .no, .no, .no] ∧
      acc = ss.map PyData.int ∧ ss.length + l.length = ns.length ∧ l.length ≤ m' ∧ m + l.length ≤ m' + 1 + ns.length) ?_ ⟨m - 1, [], rfl, rfl, by simp, by omega, by omega⟩ ?_
    · rintro x r acc ρ ⟨m', ss, e1, e2, e3, e4, e5⟩ C Cf hC _
      subst e1 e2
      rw [List.length_cons] at e3 e4 e5
      simp
      refine ⟨by omega, fun u u0 u1 => hC _ _ ⟨m' - 1, ss ++ [u], rfl, by simp, by simp; omega, by omega, by omega⟩⟩
    · rintro xs ρ ⟨m', ss, e1, e2, e3, e4, e5⟩
      subst e1
      have e2 : xs = ss.map PyData.int := by simpa using e2
      subst e2
      have hl : ns.length = ss.length := by simpa using e3.symm
      simp
      rw [zip_ni]
      have zl : ((ns.zip ss).map fun p => PyData.tuple [.str p.1, .int p.2]).length ≤ 1000000 := by
        rw [List.length_map, List.length_zip]
        omega
      have fm : ∀ f : Int → Bool, (ns.zip ss).filterMap (fun p => if f p.2 = true then some (PyData.str p.1) else none) = stsD (pick f ns ss) := fun f => by
        unfold pick stsD
        rw [List.map_map, ← List.filterMap_eq_map, List.filterMap_filter]
        rfl
      have e1ms : e3 = e3 := rfl
      simp at e4 e5
      refine ⟨zl, ?_⟩
      refine lc_map (F := fun p => if (!(p.2 == 1)) = true then some (PyData.str p.1) else none) (l := ns.zip ss) (fun p hp C hC => ?_) ?_
      · obtain ⟨x, u⟩ := p
        by_cases c : u = 1
        · simp [c] at hC ⊢
          exact hC
        · simp [c] at hC ⊢
          exact hC
      rw [fm fun u => !(u == 1)]
      simp
      rw [zip_ni]
      refine ⟨zl, ?_⟩
      refine lc_map (F := fun p => if (!(p.2 == 0)) = true then some (PyData.str p.1) else none) (l := ns.zip ss) (fun p hp C hC => ?_) ?_
      · obtain ⟨x, u⟩ := p
        by_cases c : u = 0
        · simp [c] at hC ⊢
          exact hC
        · simp [c] at hC ⊢
          exact hC
      rw [fm fun u => !(u == 0)]
      simp
      refine call (pick_sub hl) (by omega) fun pa ma ha hma => ?_
      have names : ∀ {pb : Plan}, pb.names = pick (fun u => !(u == 0)) ns ss → sset (pa.names ++ pb.names) = ns := fun {pb} hb => by
        refine (sset_eq nk.srt fun k => ?_).symm
        rw [List.mem_append, ha.nm, hb]
        constructor
        · exact pick_or hl k
        · rintro (h | h)
          · exact (pick_sub hl).subset h
          · exact (pick_sub hl).subset h
      have dA := ha.dp
      have pA := ha.ph
      have lA := ha.lv
      rcases c3 with c | c
      · subst c
        refine ⟨_, rfl, call (pick_sub hl) (by omega) fun pb mb hb hmb => ?_⟩
        have := q (.join pa pb) mb ⟨⟨ha.ok, hb.ok⟩, names hb.nm, ?_, ?_, ?_, ⟨ha.mm, hb.mm⟩⟩ (by omega)
        · rw [enc_join] at this
          exact this
        · have := hb.dp; simp only [Plan.depth]; omega
        · have := hb.ph; simp only [phi]; omega
        · have := hb.lv; simp only [leaves]; omega
      · subst c
        refine ⟨_, rfl, call (pick_sub hl) (by omega) fun pb mb hb hmb => ?_⟩
        have := q (.either pa pb) mb ⟨⟨ha.ok, hb.ok⟩, names hb.nm, ?_, ?_, ?_, ⟨ha.mm, hb.mm⟩⟩ (by omega)
        · rw [enc_either] at this
          exact this
        · have := hb.dp; simp only [Plan.depth]; omega
        · have := hb.ph; simp only [phi]; omega
        · have := hb.lv; simp only [leaves]; omega
  refine t_eqF rfl (fun z => c3 (.inl z)) (iteF (t_eqF rfl (fun z => c3 (.inr z)) (iteF ?_)))
  by_cases c4 : v = 4
  · refine t_eqT rfl c4 (iteT ?_)
    simp
    refine call (List.Sublist.refl ns) (by omega) fun pa ma ha hma => call (List.Sublist.refl ns) (by omega) fun pb mb hb hmb => ?_
    have := q (.without pa pb) mb ⟨⟨ha.ok, hb.ok, ha.nm.trans hb.nm.symm⟩, ha.nm, ?_, ?_, ?_, ⟨ha.mm, hb.mm⟩⟩ (by omega)
    · rw [enc_without] at this
      exact this
    · have := ha.dp; have := hb.dp; simp only [Plan.depth]; omega
    · have := ha.ph; have := hb.ph; simp only [phi]; omega
    · have := ha.lv; have := hb.lv; simp only [leaves]; omega
  refine t_eqF rfl c4 (iteF ?_)
  by_cases c5 : v = 5
  · refine t_eqT rfl c5 (iteT ?_)
    simp
    rw [show (1 : Int) = ((1 : Nat) : Int) from rfl, cut_lo, cut_hi, stsD_app, sort_strs]
    have l1 := List.length_take (i := 1) (l := sp)
    have hsub : (ns ++ sp.take 1 ++ sp.drop 1) = ns ++ sp := by rw [List.append_assoc, List.take_append_drop]
    have hnd := nk.nd
    rw [← hsub] at hnd
    have pm := List.mergeSort_perm (ns ++ sp.take 1) sLe
    have nk2 : NmsOk ((ns ++ sp.take 1).mergeSort sLe) (sp.drop 1) := by
      refine ⟨srt_sort (List.nodup_append.mp hnd).1, nk.srs.sublist (List.drop_sublist 1 sp), ?_, ?_, ?_⟩
      · exact (pm.append_right (sp.drop 1)).nodup_iff.mpr hnd
      · rw [(pm.append_right (sp.drop 1)).length_eq, hsub]; exact nk.few
      · intro n hn
        have := (pm.append_right (sp.drop 1)).mem_iff.mp hn
        rw [hsub] at this
        exact nk.ok n this
    refine ⟨by rw [sizeL]; simp; omega, sortok_strs _, by simp; omega, _, _, e, by omega, by omega, rfl, nk2, by omega, fun pa ma ha hma => ?_⟩
    have hmem : ∀ n ∈ ns, n ∈ pa.names := fun n hn => by
      rw [ha.nm]
      exact pm.mem_iff.mpr (List.mem_append_left _ hn)
    have := q (.only ns pa) ma ⟨⟨ok_monoN (fun n hn => ?_) ha.ok, nk.srt, hmem⟩, rfl, ?_, ?_, ?_, ha.mm⟩ (by omega)
    · rw [enc_only] at this
      exact this
    · have := (pm.append_right (sp.drop 1)).mem_iff.mp hn
      rw [hsub] at this
      exact this
    · have := ha.dp; simp only [Plan.depth]; omega
    · have := ha.ph; have := ha.lv; simp only [phi]; omega
    · have := ha.lv; simp only [leaves]; omega
  refine t_eqF rfl c5 (iteF ?_)
  simp
  have last : 1 ≤ m - 1 ∧ ∀ (v : Int), 0 ≤ v → v < 2 → WMk 3 (m - 1 - 1) [PyData.list (stsD ns), PyData.int (1 + v)] fun m' d => Φ m' (PyData.tuple [PyData.str "pattern", d]) := by
    refine ⟨by omega, fun v v0 v1 => ?_⟩
    obtain ⟨k, rfl⟩ := Int.eq_ofNat_of_zero_le v0
    rw [show (1 + ((k : Nat) : Int)) = ((1 + k : Nat) : Int) by omega]
    exact pat (m - 1 - 1) (1 + k) (by omega) (by omega)
  by_cases c6 : v = 6
  · refine .inr ⟨c6, ?_⟩
    have s1 := (shp_strs nso).2
    have s2 := (shp_strs (ns := []) fun m hm => by cases hm).2
    have ev : PyData.eqv (.list (stsD ns)) (.list []) = decide (ns = []) := by rw [← stsD_nil, v_strsL]
    refine ⟨.inr ⟨s1, s2⟩, ?_⟩
    by_cases cn : ns = []
    · exact .inl ⟨by rw [ev, decide_eq_true cn], last⟩
    · have n0 : 0 < ns.length := List.length_pos_iff.mpr cn
      refine .inr ⟨by rw [ev, decide_eq_false cn], by omega, n0, by omega, fun v v0 v1 => ?_⟩
      obtain ⟨k, rfl⟩ := Int.eq_ofNat_of_zero_le v0
      have at_ : ∀ k : Nat, (hk : k < ns.length) → atI (stsD ns) (k : Nat) = some (.str ns[k]) := fun k hk => by
        rw [at_nat (by simpa using hk)]
        simp [stsD, hk]
      refine ⟨_, at_ k (by omega), by omega, n0, by omega, fun v w0 w1 => ?_⟩
      obtain ⟨j, rfl⟩ := Int.eq_ofNat_of_zero_le w0
      refine ⟨_, at_ j (by omega), ?_⟩
      refine ⟨ns, sp, e, by omega, by omega, rfl, nk, by omega, fun pa ma ha hma => ?_⟩
      have hk2 : k < ns.length := by omega
      have hj2 : j < ns.length := by omega
      have := q (.same ns[k] ns[j] pa) ma ⟨⟨ha.ok, by rw [ha.nm]; exact List.getElem_mem hk2, by rw [ha.nm]; exact List.getElem_mem hj2⟩, ha.nm, ?_, ?_, ?_, ha.mm⟩ (by omega)
      · rw [enc_same] at this
        exact this
      · have := ha.dp; simp only [Plan.depth]; omega
      · have := ha.ph; have := ha.lv; simp only [phi]; omega
      · have := ha.lv; simp only [leaves]; omega
  · exact .inl ⟨c6, last⟩
theorem c_plan (W : Wd K mg) : ∀ D, Con P w K mg base "_law_plan" (D + 13) (spK 3 (WPlan D))
  | 0 => by
    obtain ⟨f, fd, hm, F⟩ := W.at_ 38 (x := "_law_plan") (j := 80)
    exact con_noneK F hm (ps := ["_law_deck_here", "_law_names_here", "_law_spare", "_law_deep"]) rfl (fun _ _ _ _ _ _ us hl => match us, hl with | [_, _, _, _], _ => rfl) fun m ds Φ ⟨_, _, e, he, _⟩ => absurd he (Nat.not_lt_zero _)
  | D + 1 => (c_plan_step W (c_plan W D) (by omega)).mono (by omega)
end
end MP
-- PE1
/-! The walks: the law's own names, paths. -/
namespace MP
open PySem PySem.Spec PyProof.Rows L2 MH
theorem sset_congr {xs ys : List Str} (h : ∀ k, k ∈ xs ↔ k ∈ ys) : sset xs = sset ys := sset_eq (srt_sset xs) fun k => mem_sset.trans (h k)
section
variable {P : Program} {w : World} {K : PySem.W.Frag} {mg : Str → Option Value} {base : Heap}
def WNamed (d : Nat) : List Dt → (Dt → Prop) → Prop := fun ds Φ => ∃ N p, ds = [Pat.enc p] ∧ pok N d p ∧ Φ (.list (stsD (sset p.marks)))
theorem sc__law_named : FnScope ["_law_pattern", "_law_found", "_law_part"] ["_law_pattern"] (defScope (top 86)) := ⟨rfl, rfl, rfl, by decide +kernel, rfl, by decide +kernel, by decide +kernel⟩
theorem c_named (W : Wd K mg) : ∀ d, Con P w K mg base "_law_named" (d + 2) (spP 1 (WNamed d))
  | 0 => by
    obtain ⟨f, fd, hm, F⟩ := W.at_ 44 (x := "_law_named") (j := 86)
    exact con_none F hm (ps := ["_law_pattern"]) rfl (fun _ _ _ _ _ _ us hl => match us, hl with | [_], _ => rfl) fun ds Φ ⟨N, p, _, h, _⟩ => h
  | d + 1 => by
    have h__law_named := c_named W d
    obtain ⟨f, fd, hm, F⟩ := W.at_ 44 (x := "_law_named") (j := 86)
    refine con_of F hm sc__law_named rfl (fun _ _ _ _ _ _ us hl => match us, hl with | [_], _ => rfl) fun cdv A outer s H E hr => ⟨_, _,
      (dss_cons (ds_if (dt_cmp (op_eqA (hu64 hr)) rd_eq (de_ix (dv 0) de_int) de_str) (dss_one (ds_ret (FE.de (fe_sortSet (x := "") (y := "") rfl (hu64 hr) (FE.de (fe_op op_cat rd_addL (FE.de (fe_lst (da_cons (de_ix (dv 0) de_int) da_nil))) (de_call h__law_named (hr.mono (by omega)) (da_cons (de_ix (dv 0) de_int) da_nil)))) rfl W.z_sorted rfl W.z_set)))) dss_nil)
      (dss_cons (ds_set (i := 1) (FE.de (fe_lst da_nil)) sc__law_named.nd)
      (dss_cons (ds_if (dt_cmp (op_inA (hu65 hr)) rd_in (de_ix (dv 0) de_int) (de_tup (da_cons de_str (da_cons de_str da_nil)))) (dss_one (ds_for PassesOwn.never rfl (di_tup (de_ix (dv 0) de_int)) (dg_name (i := 2) sc__law_named.nd) (dss_one (ds_set (i := 1) (FE.de (fe_op op_cat rd_addL (dv 1) (de_call h__law_named (hr.mono (by omega)) (da_cons (dv 2) da_nil)))) sc__law_named.nd)))) dss_nil)
      (dss_cons (ds_if (dt_cmp (op_eqA (hu64 hr)) rd_eq (de_ix (dv 0) de_int) de_str) (dss_one (ds_set (i := 1) (de_call h__law_named (hr.mono (by omega)) (da_cons (de_ix (dv 0) de_int) da_nil)) sc__law_named.nd)) dss_nil)
      (dss_one (ds_ret (FE.de (fe_sortSet (x := "") (y := "") rfl (hu64 hr) (dv 1) rfl W.z_sorted rfl W.z_set)))))))), fun ds Φ hl hW => ?_⟩
    obtain ⟨N, p, e, hp, q⟩ := hW
    subst e
    cases p with
    | sign s =>
      rw [penc_sign]
      simp
      exact ⟨[], rfl, by decide, [], rfl, by decide, q⟩
    | row ps =>
      rw [penc_row]
      simp
      have hz : ((ps.map Pat.marks).flatten).length ≤ 1000 := by
        have := hp.1
        rw [Pat.marks, marksL_eq] at this
        exact this
      refine loop_inv (fun (l : List Pat) ρ => ∃ (f : List Str) (b : Sl), ρ = [.da (.tuple [.str "row", .tuple (ps.map Pat.enc)]), .da (.list (stsD f)), b] ∧ f.length + ((l.map Pat.marks).flatten).length ≤ 1000 ∧ ∀ k, (k ∈ f ∨ k ∈ (l.map Pat.marks).flatten) ↔ k ∈ (ps.map Pat.marks).flatten) ⟨[], .no, rfl, by simpa using hz, fun k => by simp⟩ ?_ ?_
      · rintro t l ρ ⟨f, b, e, h1, h2⟩ ht C hC
        subst e
        have hl := sset_len t.marks
        rw [List.map_cons, List.flatten_cons, List.length_append] at h1
        simp
        refine ⟨N, t, rfl, hp.2.2 t ht, _, rfl, by rw [stsD_len, sizeL]; omega, ?_⟩
        rw [stsD_app]
        refine hC _ ⟨f ++ sset t.marks, _, rfl, by rw [List.length_append]; omega, fun k => ?_⟩
        rw [← h2 k, List.map_cons, List.flatten_cons]
        simp only [List.mem_append, mem_sset]
        constructor
        · rintro ((h | h) | h)
          · exact .inl h
          · exact .inr (.inl h)
          · exact .inr (.inr h)
        · rintro (h | h | h)
          · exact .inl (.inl h)
          · exact .inl (.inr h)
          · exact .inr h
      · rintro ρ ⟨f, b, e, h1, h2⟩
        subst e
        simp at h1 h2
        simp
        refine ⟨f, rfl, by omega, f, rfl, by omega, ?_⟩
        rw [Pat.marks, marksL_eq] at q
        rw [sset_congr fun k => ?_]
        · exact q
        · rw [h2 k]
          simp
    | any ps =>
      rw [penc_any]
      simp
      have hz : ((ps.map Pat.marks).flatten).length ≤ 1000 := by
        have := hp.1
        rw [Pat.marks, marksL_eq] at this
        exact this
      refine loop_inv (fun (l : List Pat) ρ => ∃ (f : List Str) (b : Sl), ρ = [.da (.tuple [.str "any", .tuple (ps.map Pat.enc)]), .da (.list (stsD f)), b] ∧ f.length + ((l.map Pat.marks).flatten).length ≤ 1000 ∧ ∀ k, (k ∈ f ∨ k ∈ (l.map Pat.marks).flatten) ↔ k ∈ (ps.map Pat.marks).flatten) ⟨[], .no, rfl, by simpa using hz, fun k => by simp⟩ ?_ ?_
      · rintro t l ρ ⟨f, b, e, h1, h2⟩ ht C hC
        subst e
        have hl := sset_len t.marks
        rw [List.map_cons, List.flatten_cons, List.length_append] at h1
        simp
        refine ⟨N, t, rfl, hp.2.2 t ht, _, rfl, by rw [stsD_len, sizeL]; omega, ?_⟩
        rw [stsD_app]
        refine hC _ ⟨f ++ sset t.marks, _, rfl, by rw [List.length_append]; omega, fun k => ?_⟩
        rw [← h2 k, List.map_cons, List.flatten_cons]
        simp only [List.mem_append, mem_sset]
        constructor
        · rintro ((h | h) | h)
          · exact .inl h
          · exact .inr (.inl h)
          · exact .inr (.inr h)
        · rintro (h | h | h)
          · exact .inl (.inl h)
          · exact .inl (.inr h)
          · exact .inr h
      · rintro ρ ⟨f, b, e, h1, h2⟩
        subst e
        simp at h1 h2
        simp
        refine ⟨f, rfl, by omega, f, rfl, by omega, ?_⟩
        rw [Pat.marks, marksL_eq] at q
        rw [sset_congr fun k => ?_]
        · exact q
        · rw [h2 k]
          simp
    | rep lo hi a =>
      rw [penc_rep]
      simp
      have hz := pok_len hp
      rw [Pat.marks] at hz q
      have hl := sset_len a.marks
      refine ⟨N, a, rfl, hp.2.2.2, _, .inl rfl, by omega, _, rfl, by omega, ?_⟩
      rw [sset_congr fun k => mem_sset]
      exact q
    | mark x a =>
      rw [penc_mark]
      simp
      have hz := pok_len hp
      rw [Pat.marks] at hz q
      rw [List.length_append, List.length_singleton] at hz
      have hl := sset_len a.marks
      refine ⟨N, a, rfl, hp.2.2, _, rfl, by rw [stsD_len, sizeL]; omega, x :: sset a.marks, rfl, by rw [List.length_cons]; omega, x :: sset a.marks, rfl, by rw [List.length_cons]; omega, ?_⟩
      rw [sset_congr (ys := a.marks ++ [x]) fun k => ?_]
      · exact q
      · rw [List.mem_cons, mem_sset, List.mem_append, List.mem_singleton]
        exact Or.comm
def WThere (d : Nat) : List Dt → (Dt → Prop) → Prop := fun ds Φ => ∃ N p, ds = [Plan.enc p] ∧ p.ok N ∧ NOk N ∧ p.depth < d ∧ Φ (.list (stsD p.names))
theorem sc__law_there : FnScope ["_law_plan_here"] ["_law_plan_here"] (defScope (top 94)) := ⟨rfl, rfl, rfl, by decide +kernel, rfl, by decide +kernel, by decide +kernel⟩
theorem c_there (W : Wd K mg) : ∀ d, Con P w K mg base "_law_there" (d + 15) (spP 1 (WThere d))
  | 0 => by
    obtain ⟨f, fd, hm, F⟩ := W.at_ 52 (x := "_law_there") (j := 94)
    exact con_none F hm (ps := ["_law_plan_here"]) rfl (fun _ _ _ _ _ _ us hl => match us, hl with | [_], _ => rfl) fun ds Φ ⟨N, p, _, _, _, h, _⟩ => absurd h (Nat.not_lt_zero _)
  | d + 1 => by
    have h__law_named := c_named (P := P) (w := w) (base := base) W 12
    have h__law_there := c_there W d
    obtain ⟨f, fd, hm, F⟩ := W.at_ 52 (x := "_law_there") (j := 94)
    refine con_of F hm sc__law_there rfl (fun _ _ _ _ _ _ us hl => match us, hl with | [_], _ => rfl) fun cdv A outer s H E hr => ⟨_, _,
      (dss_cons (ds_if (dt_cmp (op_eqA (hu64 hr)) rd_eq (de_ix (dv 0) de_int) de_str) (dss_one (ds_ret (de_call h__law_named (hr.mono (by omega)) (da_cons (de_ix (dv 0) de_int) da_nil)))) dss_nil)
      (dss_cons (ds_if (dt_cmp (op_eqA (hu64 hr)) rd_eq (de_ix (dv 0) de_int) de_str) (dss_one (ds_ret (FE.de (fe_callTy call_list_of rd_list (by rfl) W.z_list PyProof.Rows.boot_list (da_cons (de_ix (dv 0) de_int) da_nil))))) dss_nil)
      (dss_cons (ds_if (dt_cmp (op_inA (hu65 hr)) rd_in (de_ix (dv 0) de_int) (de_tup (da_cons de_str (da_cons de_str da_nil)))) (dss_one (ds_ret (de_call h__law_there (hr.mono (by omega)) (da_cons (de_ix (FE.de (fe_lst (da_cons (de_ix (dv 0) de_int) (da_cons (de_ix (dv 0) (de_neg de_int)) da_nil)))) (de_callTy call_int1 rd_int (by rfl) W.z_int PyProof.Rows.boot_int (da_cons (de_cmp (op_eqA (hu64 hr)) rd_eq (de_ix (dv 0) de_int) de_str) da_nil))) da_nil)))) dss_nil)
      (dss_one (ds_ret (FE.de (fe_sortSet (x := "") (y := "") rfl (hu64 hr) (FE.de (fe_op op_cat rd_addL (de_call h__law_there (hr.mono (by omega)) (da_cons (de_ix (dv 0) de_int) da_nil)) (de_call h__law_there (hr.mono (by omega)) (da_cons (de_ix (dv 0) de_int) da_nil)))) rfl W.z_sorted rfl W.z_set))))))), fun ds Φ hl hW => ?_⟩
    obtain ⟨N, p, e, hp, n, hd, q⟩ := hW
    subst e
    cases p with
    | pat p =>
      rw [enc_pat]
      simp
      exact ⟨N, p, rfl, hp, q⟩
    | only ns a =>
      rw [enc_only]
      simp
      exact q
    | join a b =>
      rw [enc_join]
      simp
      simp [Plan.depth] at hd
      have h1 := names_len hp.1 n
      have h2 := names_len hp.2 n
      exact ⟨N, a, rfl, hp.1, n, by omega, N, b, rfl, hp.2, n, by omega, _, rfl, _, rfl, by rw [stsD_len, stsD_len, sizeL]; omega, a.names ++ b.names, stsD_app _ _, by rw [List.length_append]; omega, _, rfl, by rw [List.length_append]; omega, q⟩
    | either a b =>
      rw [enc_either]
      simp
      simp [Plan.depth] at hd
      have h1 := names_len hp.1 n
      have h2 := names_len hp.2 n
      exact ⟨N, a, rfl, hp.1, n, by omega, N, b, rfl, hp.2, n, by omega, _, rfl, _, rfl, by rw [stsD_len, stsD_len, sizeL]; omega, a.names ++ b.names, stsD_app _ _, by rw [List.length_append]; omega, _, rfl, by rw [List.length_append]; omega, q⟩
    | without a b =>
      rw [enc_without]
      simp
      simp [Plan.depth] at hd
      exact ⟨0, rfl, _, rfl, N, a, rfl, hp.1, n, by omega, q⟩
    | same x y a =>
      rw [enc_same]
      simp
      simp [Plan.depth] at hd
      exact ⟨1, rfl, _, rfl, N, a, rfl, hp.1, n, by omega, q⟩
end
end MP
-- PE2
/-! The walks: the law's own paths, forms that stand low. -/
namespace MP
open PySem PySem.Spec PyProof.Rows L2 MH
section
variable {P : Program} {w : World} {K : PySem.W.Frag} {mg : Str → Option Value} {base : Heap}
theorem lpaths_loop {d : Nat} {p : Plan} {Φ : Dt → Prop} (x : Dt) (hd : p.depth < d + 1) (hd3 : d + 1 ≤ 1000) (hz : (pathsOf p).length ≤ 1000) (q : Φ (.list ((pathsOf p).map pathE))) :
    wLoop (fun d ρ Φ => Φ (List.set ρ 3 (Sl.da d)))
    (wSet 1
      (wPub
        (w2F fAddL (wVar 1)
          (wPub fun ρ Φ =>
            ∃ d_1,
              ρ[2]? = some (Sl.da d_1) ∧
                ∃ d_2,
                  ρ[3]? = some (Sl.da d_2) ∧
                    ∃ d_3,
                      ixD d_1 d_2 = some d_3 ∧
                        WPathsOf d [d_3] fun d =>
                          ∃ ds,
                            d = PyData.list ds ∧
                              ds.length ≤ 1000000 ∧
                                wLc (fun d ρ Φ => Φ (List.set ρ 4 (Sl.da d))) (fun ρ Φ => Φ true ρ)
                                  (w2 fAddT (fun ρ Φ => ∃ d, ρ[3]? = some (Sl.da d) ∧ Φ (PyData.tuple [d]) ρ) (wVar 4))
                                  [4] ds (List.set ρ 4 Sl.no) Φ))))
    { nx := fun ρ => ∃ d, ρ[1]? = some (Sl.da d) ∧ Φ d, rt := fun d x => Φ d } (rgD p.inner.length)
    [Sl.da x, Sl.da (PyData.list [PyData.tuple []]), Sl.da (PyData.list (p.inner.map Plan.enc)), Sl.no, Sl.no] := by
  have hall : ∀ done l : List Nat, done ++ l = List.range p.inner.length → ([] :: (done.map fun k => (pathsOf (p.inner.getD k p)).map (k :: ·)).flatten : List (List Nat)).length ≤ 1000 := fun done l h => by
    have e := pathsOf_eq p
    rw [← h] at e
    rw [e, List.map_append, List.flatten_append] at hz
    simp only [List.length_cons, List.length_append] at hz ⊢
    omega
  refine loop_inv (fun (l : List Nat) ρ => ∃ (done : List Nat) (found : List (List Nat)) (a b : Sl), done ++ l = List.range p.inner.length ∧ found = [] :: (done.map fun k => (pathsOf (p.inner.getD k p)).map (k :: ·)).flatten ∧
    ρ = [.da x, .da (.list (found.map pathE)), .da (.list (p.inner.map Plan.enc)), a, b]) ⟨[], [[]], .no, .no, rfl, rfl, rfl⟩ ?_ ?_
  · rintro k l ρ ⟨done, found, a, b, hdl, ef, e⟩ hk C hC
    subst e
    have hk2 : k < p.inner.length := List.mem_range.mp hk
    have hin : p.inner[k] ∈ p.inner := List.getElem_mem hk2
    have hnx := hall (done ++ [k]) l (by rw [← hdl]; simp)
    have hl2 := hall done (k :: l) hdl
    rw [← ef] at hl2
    rw [List.map_append, List.flatten_append] at hnx
    simp [hk2] at hnx
    have hix : ixD (.list (p.inner.map Plan.enc)) (.int (k : Nat)) = some (p.inner[k]).enc := by
      rw [ixL, at_nat (by simpa using hk2), List.getElem?_map, List.getElem?_eq_getElem hk2]
      rfl
    simp only [s_setO, s_set, s_pub, w2F]
    refine ⟨_, rfl, _, rfl, _, rfl, _, hix, p.inner[k], rfl, Nat.lt_of_lt_of_le (inner_depth _ hin) (by omega), by omega, by omega, _, rfl, by simp; omega, ?_⟩
    refine lc_map (F := fun r => some (pathE (k :: r))) (g := pathE) (l := pathsOf p.inner[k]) (fun r hr C hC => ?_) ?_
    · simp [pathE, intsD]
      refine ⟨by have := paths_len hr; have := inner_depth _ hin; rw [sizeL]; omega, ?_⟩
      exact hC
    · have eF : (pathsOf p.inner[k]).filterMap (fun r => some (pathE (k :: r))) = ((pathsOf p.inner[k]).map (k :: ·)).map pathE := by
        rw [List.filterMap_eq_map', List.map_map]
        rfl
      rw [eF]
      refine ⟨_, _, rfl, rfl, by simp; rw [sizeL]; omega, ?_⟩
      rw [← List.map_append]
      refine hC _ ⟨done ++ [k], found ++ (pathsOf p.inner[k]).map (k :: ·), .da (.int (k : Nat)), .no, by rw [← hdl]; simp, by rw [ef, List.map_append, List.flatten_append]; simp [hk2], rfl⟩
  · rintro ρ ⟨done, found, a, b, hdl, ef, e⟩
    subst e
    rw [List.append_nil] at hdl
    rw [hdl, ← pathsOf_eq] at ef
    subst ef
    exact ⟨_, rfl, q⟩
theorem sc__law_paths : FnScope ["_law_plan_here", "_law_found", "_law_parts", "_law_k", "_law_path"] ["_law_plan_here"] (defScope (top 92)) := ⟨rfl, rfl, rfl, by decide +kernel, rfl, by decide +kernel, by decide +kernel⟩
theorem c_lpaths (W : Wd K mg) : ∀ d, Con P w K mg base "_law_paths" (d + 2) (spP 1 (WPathsOf d))
  | 0 => by
    obtain ⟨f, fd, hm, F⟩ := W.at_ 50 (x := "_law_paths") (j := 92)
    exact con_none F hm (ps := ["_law_plan_here"]) rfl (fun _ _ _ _ _ _ us hl => match us, hl with | [_], _ => rfl) fun ds Φ ⟨_, _, h, _⟩ => absurd h (Nat.not_lt_zero _)
  | d + 1 => by
    have h__law_paths := c_lpaths W d
    obtain ⟨f, fd, hm, F⟩ := W.at_ 50 (x := "_law_paths") (j := 92)
    refine con_of F hm sc__law_paths rfl (fun _ _ _ _ _ _ us hl => match us, hl with | [_], _ => rfl) fun cdv A outer s H E hr => ⟨_, _,
      (dss_cons (ds_set (i := 1) (FE.de (fe_lst (da_cons (de_tup da_nil) da_nil))) sc__law_paths.nd)
      (dss_cons (ds_set (i := 2) (FE.de (fe_lst da_nil)) sc__law_paths.nd)
      (dss_cons (ds_if (dt_cmp (op_inA (hu65 hr)) rd_in (de_ix (dv 0) de_int) (de_tup (da_cons de_str (da_cons de_str da_nil)))) (dss_one (ds_set (i := 2) (FE.de (fe_lst (da_cons (de_ix (dv 0) (de_neg de_int)) da_nil))) sc__law_paths.nd)) (dss_one (ds_if (dt_cmp (op_neA (hu64 hr)) rd_ne (de_ix (dv 0) de_int) de_str) (dss_one (ds_set (i := 2) (FE.de (fe_lst (da_cons (de_ix (dv 0) de_int) (da_cons (de_ix (dv 0) de_int) da_nil)))) sc__law_paths.nd)) dss_nil)))
      (dss_cons (ds_for PassesOwn.never rfl (di_range W.z_range (de_callB call_len rd_len (by rfl) W.z_len boot_len (da_cons (dv 2) da_nil))) (dg_name (i := 3) sc__law_paths.nd) (dss_one (ds_set (i := 1) (FE.de (fe_op op_cat rd_addL (dv 1) (FE.de (fe_lc (own := [("_law_path", 4)]) rfl sc__law_paths.nd (di_list (de_call h__law_paths (hr.mono (by omega)) (da_cons (de_ix (dv 2) (dv 3)) da_nil))) (blkOk_by (own := [("_law_path", 4)]) (N := ["_law_plan_here", "_law_found", "_law_parts", "_law_k", "_law_path"]) (sc := defScope (top 92)) (by decide +kernel)) (fun _ _ _ _ _ => (dg_name (i := 4) sc__law_paths.nd)) (fun _ _ _ _ _ => dts_nil) (fun _ _ _ _ _ => (DE.castK (de_op op_catA rd_addT (de_tup (da_cons (dv 3) da_nil)) (dv 4)) (by dsimp only [Cx.blk] <;> rfl))))))) sc__law_paths.nd)))
      (dss_one (ds_ret (dv 1))))))), fun ds Φ hl hW => ?_⟩
    obtain ⟨p, e, hd, hd3, hz, q⟩ := hW
    subst e
    have fin := fun x => lpaths_loop (Φ := Φ) x hd hd3 hz q
    cases p with
    | pat p => rw [enc_pat]; simp; exact fin _
    | only ns a => rw [enc_only]; simp; exact fin _
    | join a b =>  rw [enc_join]; simp; exact fin _
    | either a b => rw [enc_either]; simp; exact fin _
    | without a b =>rw [enc_without]; simp; exact fin _
    | same x y a => rw [enc_same]; simp; exact fin _
theorem sc__law_at : FnScope ["_law_plan_here", "_law_path", "_law_k"] ["_law_plan_here", "_law_path"] (defScope (top 93)) := ⟨rfl, rfl, rfl, by decide +kernel, rfl, by decide +kernel, by decide +kernel⟩
theorem c_lat (W : Wd K mg) : Con P w K mg base "_law_at" 2 (spP 2 fun ds Φ => ∃ (p q : Plan) (r : List Nat), ds = [p.enc, pathE r] ∧ atPath p r = some q ∧ Φ q.enc) := by
  obtain ⟨f, fd, hm, F⟩ := W.at_ 51 (x := "_law_at") (j := 93)
  refine con_of F hm sc__law_at rfl (fun _ _ _ _ _ _ us hl => match us, hl with | [_, _], _ => rfl) fun cdv A outer s H E hr => ⟨_, _,
      (dss_cons (ds_for PassesOwn.never rfl (di_tup (dv 1)) (dg_name (i := 2) sc__law_at.nd) (dss_one (ds_if (dt_cmp (op_inA (hu65 hr)) rd_in (de_ix (dv 0) de_int) (de_tup (da_cons de_str (da_cons de_str da_nil)))) (dss_one (ds_set (i := 0) (de_ix (dv 0) (de_neg de_int)) sc__law_at.nd)) (dss_one (ds_set (i := 0) (de_ix (dv 0) (de_op op_add rd_rI0 de_int (dv 2))) sc__law_at.nd)))))
      (dss_one (ds_ret (dv 0)))), fun ds Φ hl hW => ?_⟩
  obtain ⟨p, q0, r, e, hq0, q⟩ := hW
  subst e
  simp [pathE, intsD]
  refine loop_inv (fun (l : List Nat) ρ => ∃ t b, ρ = [.da (Plan.enc t), .da (pathE r), b] ∧ atPath t l = some q0) ⟨p, .no, rfl, hq0⟩ ?_ ?_
  · rintro k l ρ ⟨t, b, e, ht⟩ hk C hC
    subst e
    have hk2 : k < t.inner.length := by
      unfold atPath at ht
      rcases Nat.lt_or_ge k t.inner.length with c | c
      · exact c
      · rw [List.getElem?_eq_none c] at ht
        cases ht
    have hi : t.inner[k]? = some t.inner[k] := List.getElem?_eq_getElem hk2
    unfold atPath at ht
    rw [hi] at ht
    have hC2 := hC [.da (t.inner[k]).enc, .da (pathE r), .da (.int (k : Nat))] ⟨_, _, rfl, ht⟩
    have one : ∀ {x : Plan}, t.inner = [x] → t.inner[k] = x := fun {x} hx => by
      have : k = 0 := by rw [hx] at hk2; simpa using hk2
      subst this
      simp [hx]
    have two : ∀ {x y : Plan} (z : Str), t.inner = [x, y] → atI [PyData.str z, x.enc, y.enc] (1 + (k : Nat)) = some (t.inner[k]).enc := fun {x y} z hx => by
      rw [hx] at hk2
      have : k = 0 ∨ k = 1 := by simp at hk2; omega
      rcases this with rfl | rfl
      · simp [hx]
      · have : (1 + ((1 : Nat) : Int)) = 2 := rfl
        rw [this]
        simp [hx]
    cases t with
    | pat p => simp [Plan.inner] at hk2
    | only ns a => rw [one rfl] at hC2; rw [enc_only]; simp; exact hC2
    | same x y a => rw [one rfl] at hC2; rw [enc_same]; simp; exact hC2
    | join a b =>
      rw [enc_join]
      simp
      exact ⟨_, two _ rfl, hC2⟩
    | either a b =>
      rw [enc_either]
      simp
      exact ⟨_, two _ rfl, hC2⟩
    | without a b =>
      rw [enc_without]
      simp
      exact ⟨_, two _ rfl, hC2⟩
  · rintro ρ ⟨t, b, e, ht⟩
    subst e
    cases ht
    simp
    exact q
end
end MP
-- PE3
/-! The walks: the law's own look at what stands low; a form more on top. -/
namespace MP
open PySem PySem.Spec PyProof.Rows L2 MH
theorem in_strsL (x : Str) (ys : List Str) : InOk (.str x) (.list (stsD ys)) ∧ inD (.str x) (.list (stsD ys)) = decide (x ∈ ys) := by
  constructor
  · exact .inl ⟨rfl, by simp [stsD, flatD]⟩
  · show (stsD ys).any _ = _
    rw [Bool.eq_iff_iff]
    simp [stsD]
theorem at_last {l : List Dt} (h : 0 < l.length) : atI l (-1) = l[l.length - 1]? := by
  unfold atI ixN
  rw [if_neg (by decide), if_pos (by omega)]
  show l[((-1 : Int) + (l.length : Nat)).toNat]? = _
  rw [show ((-1 : Int) + (l.length : Nat)).toNat = l.length - 1 by omega]
section
variable {P : Program} {w : World} {K : PySem.W.Frag} {mg : Str → Option Value} {base : Heap}
def WOnlyLow : List Dt → (Dt → Prop) → Prop := fun ds Φ => ∃ (N ns : List Str) (a : Plan), ds = [(Plan.only ns a).enc] ∧ (Plan.only ns a).ok N ∧ NOk N ∧ a.depth ≤ 5 ∧ (∀ k ∈ downs, deed k (.only ns a) = none) ∧ Φ (.bool true)
theorem sc__law_only_low : FnScope ["_law_plan_here", "_law_inner", "_law_others", "_law_name"] ["_law_plan_here"] (defScope (top 95)) := ⟨rfl, rfl, rfl, by decide +kernel, rfl, by decide +kernel, by decide +kernel⟩
theorem c_only_low (W : Wd K mg) : Con P w K mg base "_law_only_low" 25 (spP 1 WOnlyLow) := by
  have h__law_there := c_there (P := P) (w := w) (base := base) W 6
  obtain ⟨f, fd, hm, F⟩ := W.at_ 53 (x := "_law_only_low") (j := 95)
  refine con_of F hm sc__law_only_low rfl (fun _ _ _ _ _ _ us hl => match us, hl with | [_], _ => rfl) fun cdv A outer s H E hr => ⟨_, _,
      (dss_cons (ds_set (i := 1) (de_ix (dv 0) de_int) sc__law_only_low.nd)
      (dss_cons (ds_if (dw_or (dt_cmp (op_inA (hu65 hr)) rd_in (de_ix (dv 1) de_int) (de_tup (da_cons de_str (da_cons de_str da_nil)))) (dw_or1 (dt_cmp (op_eqA (hu64 hr)) rd_eq (FE.de (fe_callTy call_list_of rd_list (by rfl) W.z_list PyProof.Rows.boot_list (da_cons (de_ix (dv 0) de_int) da_nil))) (de_call h__law_there (hr.mono (by omega)) (da_cons (dv 1) da_nil))))).dt (dss_one (ds_ret de_bl)) dss_nil)
      (dss_cons (ds_if (dt_cmp (op_neA (hu64 hr)) rd_ne (de_ix (dv 1) de_int) de_str) (dss_one (ds_ret de_bl)) dss_nil)
      (dss_cons (ds_set (i := 2) (de_call h__law_there (hr.mono (by omega)) (da_cons (de_ix (dv 1) de_int) da_nil)) sc__law_only_low.nd)
      (dss_one (ds_ret (de_cmp (op_neA (hu64 hr)) rd_ne (FE.de (fe_lc (own := [("_law_name", 3)]) rfl sc__law_only_low.nd (di_list (de_call h__law_there (hr.mono (by omega)) (da_cons (de_ix (dv 1) de_int) da_nil))) (blkOk_by (own := [("_law_name", 3)]) (N := ["_law_plan_here", "_law_inner", "_law_others", "_law_name"]) (sc := defScope (top 95)) (by decide +kernel)) (fun _ _ _ _ _ => (dg_name (i := 3) sc__law_only_low.nd)) (fun _ _ _ _ _ => (DTs.castK (dts_one (dw_and (dt_cmp (op_inA (hu65 hr)) rd_in (dv 3) (dv 2)) (dw_and1 (dt_cmp (op_notInA (hu65 hr)) rd_notIn (dv 3) (de_ix (dv 0) de_int)))).dt) (by dsimp only [Cx.blk] <;> rfl))) (fun _ _ _ _ _ => (dv 3)))) (FE.de (fe_lst da_nil))))))))), fun ds Φ hl hW => ?_⟩
  obtain ⟨N, ns, a, e, hp, n, hd, hk, q⟩ := hW
  subst e
  have hn7 : ns ≠ a.names := fun z => by
    have := hk 7 (by simp [downs])
    simp [deed, z] at this
  have h4 : ns.length ≤ 4 := names_len (p := .only ns a) hp n
  have s1 := (shp_strs fun m hm => n.short m (names_sub (p := .only ns a) hp m hm)).2
  have s2 := (shp_strs fun m hm => n.short m (names_sub hp.1 m hm)).2
  have ok : EqOk (.list (stsD ns)) (.list (stsD a.names)) := .inr ⟨s1, s2⟩
  have ev : PyData.eqv (.list (stsD ns)) (.list (stsD a.names)) = false := by rw [v_strsL]; exact decide_eq_false hn7
  rw [enc_only]
  by_cases g : a.tag = "join"
  · obtain ⟨a, b, rfl⟩ := tag_join g
    have hsh : ¬ shared ns a b = true := fun z => by
      have := hk 12 (by simp [downs])
      simp [deed, z] at this
    rw [enc_join]
    simp
    rw [← enc_join]
    have hd2 := hd
    simp [Plan.depth] at hd2
    refine ⟨N, .join a b, rfl, hp.1, n, by omega, ok, .inl ⟨ev, N, b, rfl, hp.1.2, n, by omega, N, a, rfl, hp.1.1, n, by omega, _, rfl, ?_, ?_⟩⟩
    · have := names_len hp.1.1 n
      simp
      omega
    · refine lc_map (F := fun x => if x ∈ b.names ∧ ¬ x ∈ ns then some (.str x) else none) (g := PyData.str) (l := a.names) (fun x hx C hC => ?_) ?_
      · obtain ⟨h1, h2⟩ := in_strsL x b.names
        obtain ⟨h3, h5⟩ := in_strs x ns
        by_cases c : x ∈ b.names
        · by_cases c2 : x ∈ ns
          · simp [h1, h2, h3, h5, c, c2] at hC ⊢
            exact hC
          · simp [h1, h2, h3, h5, c, c2] at hC ⊢
            exact hC
        · simp [h1, h2, h3, h5, c] at hC ⊢
          exact hC
      · have e : a.names.filterMap (fun x => if x ∈ b.names ∧ ¬ x ∈ ns then some (PyData.str x) else none) = stsD (a.names.filter fun n => decide (n ∈ b.names) && !decide (n ∈ ns)) := by
          unfold stsD
          rw [← List.filterMap_eq_map, List.filterMap_filter]
          congr 1
          funext x
          by_cases c : x ∈ b.names <;> by_cases c2 : x ∈ ns <;> simp [c, c2]
        rw [e]
        have s1 := (shp_strs (ns := a.names.filter fun n => decide (n ∈ b.names) && !decide (n ∈ ns)) fun m hm => n.short m (names_sub hp.1.1 m (List.mem_filter.mp hm).1)).2
        have s2 := (shp_strs (ns := []) fun m hm => by cases hm).2
        refine ⟨.inr ⟨s1, s2⟩, ?_⟩
        have ev : PyData.eqv (.list (stsD (a.names.filter fun n => decide (n ∈ b.names) && !decide (n ∈ ns)))) (.list []) = false := by
          rw [← stsD_nil, v_strsL]
          refine decide_eq_false fun z => hsh ?_
          unfold shared
          rw [z]
          rfl
        rw [ev]
        exact q
  · have g5 : a.tag ≠ "either" := fun z => by
      obtain ⟨b, c, rfl⟩ := tag_either z
      have := hk 5 (by simp [downs])
      simp [deed] at this
    have g6 : a.tag ≠ "only" := fun z => by
      obtain ⟨b, c, rfl⟩ := tag_only z
      have := hk 6 (by simp [downs])
      simp [deed] at this
    rw [enc_eq a]
    simp
    rw [← enc_eq a]
    exact .inl ⟨⟨fun z => g5 z.symm, fun z => g6 z.symm⟩, N, a, rfl, hp.1, n, by omega, ok, .inl ⟨ev, .inr ⟨g, q⟩⟩⟩
def WSameLow : List Dt → (Dt → Prop) → Prop := fun ds Φ => ∃ (N : List Str) (x y : Str) (a : Plan), ds = [(Plan.same x y a).enc] ∧ (Plan.same x y a).ok N ∧ NOk N ∧ a.depth ≤ 5 ∧ (∀ k ∈ downs, deed k (.same x y a) = none) ∧ Φ (.bool true)
theorem sc__law_same_low : FnScope ["_law_plan_here", "_law_inner", "_law_first", "_law_name", "_law_second"] ["_law_plan_here"] (defScope (top 96)) := ⟨rfl, rfl, rfl, by decide +kernel, rfl, by decide +kernel, by decide +kernel⟩
theorem c_same_low (W : Wd K mg) : Con P w K mg base "_law_same_low" 25 (spP 1 WSameLow) := by
  have h__law_there := c_there (P := P) (w := w) (base := base) W 6
  obtain ⟨f, fd, hm, F⟩ := W.at_ 54 (x := "_law_same_low") (j := 96)
  refine con_of F hm sc__law_same_low rfl (fun _ _ _ _ _ _ us hl => match us, hl with | [_], _ => rfl) fun cdv A outer s H E hr => ⟨_, _,
      (dss_cons (ds_set (i := 1) (de_ix (dv 0) de_int) sc__law_same_low.nd)
      (dss_cons (ds_if (dt_cmp (op_inA (hu65 hr)) rd_in (de_ix (dv 1) de_int) (de_tup (da_cons de_str (da_cons de_str da_nil)))) (dss_one (ds_ret de_bl)) dss_nil)
      (dss_cons (ds_if (dt_cmp (op_inA (hu65 hr)) rd_in (de_ix (dv 1) de_int) (de_tup (da_cons de_str (da_cons de_str da_nil)))) (dss_cons (ds_setLcD (i := 2) (own := [("_law_name", 3)]) rfl sc__law_same_low.nd rfl rfl (sw_true rfl rfl rfl (by decide +kernel)) (di_tup (de_slT (dv 0) (do_some de_int) (do_some de_int))) (blkOk_by (own := [("_law_name", 3)]) (N := ["_law_plan_here", "_law_inner", "_law_first", "_law_name", "_law_second"]) (sc := defScope (top 96)) (by decide +kernel)) (fun _ _ _ _ _ => (dg_name (i := 3) sc__law_same_low.nd)) (fun _ _ _ _ _ => (DTs.castK (dts_one (dt_cmp (op_notInA (hu65 hr)) rd_notIn (dv 3) (de_call h__law_there (hr.mono (by omega)) (da_cons (de_ix (dv 1) de_int) da_nil)))) (by dsimp only [Cx.blk] <;> rfl))) (fun _ _ _ _ _ => (dv 3)))
      (dss_cons (ds_setLcD (i := 4) (own := [("_law_name", 3)]) rfl sc__law_same_low.nd rfl rfl (sw_true rfl rfl rfl (by decide +kernel)) (di_tup (de_slT (dv 0) (do_some de_int) (do_some de_int))) (blkOk_by (own := [("_law_name", 3)]) (N := ["_law_plan_here", "_law_inner", "_law_first", "_law_name", "_law_second"]) (sc := defScope (top 96)) (by decide +kernel)) (fun _ _ _ _ _ => (dg_name (i := 3) sc__law_same_low.nd)) (fun _ _ _ _ _ => (DTs.castK (dts_one (dt_cmp (op_notInA (hu65 hr)) rd_notIn (dv 3) (de_call h__law_there (hr.mono (by omega)) (da_cons (de_ix (dv 1) de_int) da_nil)))) (by dsimp only [Cx.blk] <;> rfl))) (fun _ _ _ _ _ => (dv 3)))
      (dss_one (ds_ret (de_or (de_cmp (op_neA (hu64 hr)) rd_ne (dv 2) (FE.de (fe_lst da_nil))) (de_one (de_and (de_cmp (op_eqA (hu64 hr)) rd_eq (de_ix (dv 1) de_int) de_str) (de_one (de_cmp (op_neA (hu64 hr)) rd_ne (dv 4) (FE.de (fe_lst da_nil))))))))))) dss_nil)
      (dss_one (ds_ret de_bl))))), fun ds Φ hl hW => ?_⟩
  obtain ⟨N, x, y, a, e, hp, n, hd, hk, q⟩ := hW
  subst e
  rw [enc_same]
  have flt : ∀ (p : Plan), (([x, y] : List Str).filterMap fun z => if z ∈ p.names then none else some (PyData.str z)) = stsD ([x, y].filter fun z => !decide (z ∈ p.names)) := fun p => by
    unfold stsD
    rw [← List.filterMap_eq_map, List.filterMap_filter]
    congr 1
    funext z
    by_cases c : z ∈ p.names <;> simp [c]
  have hxy : sOk x ∧ sOk y := ⟨n.short x (names_sub hp.1 x hp.2.1), n.short y (names_sub hp.1 y hp.2.2)⟩
  have eq0 : ∀ (p : Plan), EqOk (.list (stsD ([x, y].filter fun z => !decide (z ∈ p.names)))) (.list []) ∧ PyData.eqv (.list (stsD ([x, y].filter fun z => !decide (z ∈ p.names)))) (.list []) = both x y p := fun p => by
    have s1 := (shp_strs (ns := [x, y].filter fun z => !decide (z ∈ p.names)) fun m hm => by
      have := (List.mem_filter.mp hm).1
      simp at this
      rcases this with rfl | rfl
      · exact hxy.1
      · exact hxy.2).2
    have s2 := (shp_strs (ns := []) fun m hm => by cases hm).2
    refine ⟨.inr ⟨s1, s2⟩, ?_⟩
    rw [← stsD_nil, v_strsL]
    unfold both
    by_cases c : x ∈ p.names <;> by_cases c2 : y ∈ p.names <;> simp [c, c2]
  have stp : ∀ (p : Plan) {z : Str} {C : Option Dt → Prop}, C (if z ∈ p.names then none else some (.str z)) → InOk (.str z) (.list (stsD p.names)) ∧ (inD (.str z) (.list (stsD p.names)) = true ∧ C none ∨ inD (.str z) (.list (stsD p.names)) = false ∧ C (some (.str z))) := fun p {z C} h => by
    obtain ⟨h1, h2⟩ := in_strsL z p.names
    refine ⟨h1, ?_⟩
    rw [h2]
    by_cases c : z ∈ p.names
    · rw [if_pos c] at h
      exact .inl ⟨decide_eq_true c, h⟩
    · rw [if_neg c] at h
      exact .inr ⟨decide_eq_false c, h⟩
  cases a with
  | pat p => rw [enc_pat]; simp; exact q
  | same z w a => rw [enc_same]; simp; exact q
  | only ns a =>
    have := hk 16 (by simp [downs])
    simp [deed] at this
  | without a b =>
    have := hk 17 (by simp [downs])
    simp [deed] at this
  | join a b =>
    have hb : both x y a = false := by
      cases z : both x y a with
      | false => rfl
      | true =>
        have := hk 15 (by simp [downs])
        simp [deed, z] at this
    simp [Plan.depth] at hd
    rw [enc_join]
    simp
    refine lc_map (F := fun z => if z ∈ a.names then none else some (.str z)) (g := PyData.str) (l := [x, y]) (fun z hz C hC => ?_) ?_
    · simp
      exact ⟨N, a, rfl, hp.1.1, n, by omega, stp a (C := fun o => C o _) hC⟩
    rw [flt a]
    simp
    refine lc_map (F := fun z => if z ∈ b.names then none else some (.str z)) (g := PyData.str) (l := [x, y]) (fun z hz C hC => ?_) ?_
    · simp
      exact ⟨N, b, rfl, hp.1.2, n, by omega, stp b (C := fun o => C o _) hC⟩
    obtain ⟨o1, o2⟩ := eq0 a
    simp
    rw [hb] at o2
    exact ⟨o1, .inr ⟨o2, q⟩⟩
  | either a b =>
    have hb : (both x y a && both x y b) = false := by
      cases z : (both x y a && both x y b) with
      | false => rfl
      | true =>
        have := hk 14 (by simp [downs])
        simp only [deed, z] at this
        cases this
    simp [Plan.depth] at hd
    rw [enc_either]
    simp
    refine lc_map (F := fun z => if z ∈ a.names then none else some (.str z)) (g := PyData.str) (l := [x, y]) (fun z hz C hC => ?_) ?_
    · simp
      exact ⟨N, a, rfl, hp.1.1, n, by omega, stp a (C := fun o => C o _) hC⟩
    rw [flt a]
    simp
    refine lc_map (F := fun z => if z ∈ b.names then none else some (.str z)) (g := PyData.str) (l := [x, y]) (fun z hz C hC => ?_) ?_
    · simp
      exact ⟨N, b, rfl, hp.1.2, n, by omega, stp b (C := fun o => C o _) hC⟩
    rw [flt b]
    obtain ⟨o1, o2⟩ := eq0 a
    obtain ⟨o3, o4⟩ := eq0 b
    simp
    refine ⟨o1, ?_⟩
    cases ca : both x y a with
    | false =>
      rw [ca] at o2
      exact .inr ⟨o2, q⟩
    | true =>
      rw [ca] at o2
      rw [ca, Bool.true_and] at hb
      rw [hb] at o4
      exact .inl ⟨o2, o3, by rw [o4]; exact q⟩
theorem next_none {p f : Plan} {r : List Nat} (h : nextMove p = none) (hr : r ∈ pathsOf p) (hf : atPath p r = some f) : ∀ k ∈ downs, deed k f = none := by
  intro k hk
  unfold nextMove at h
  rw [List.findSome?_eq_none_iff] at h
  have h1 := h r hr
  rw [Option.map_eq_none_iff] at h1
  unfold ruleAt at h1
  rw [List.find?_eq_none] at h1
  have h2 := h1 k hk
  rw [hf] at h2
  cases e : deed k f with
  | none => rfl
  | some o => exact (h2 (by simp [e])).elim
def WLow : List Dt → (Dt → Prop) → Prop := fun ds Φ => ∃ (N : List Str) (p : Plan), ds = [p.enc] ∧ Good N p ∧ nextMove p = none ∧ Φ (.bool true)
theorem sc__law_low : FnScope ["_law_plan_here", "_law_path", "_law_form"] ["_law_plan_here"] (defScope (top 97)) := ⟨rfl, rfl, rfl, by decide +kernel, rfl, by decide +kernel, by decide +kernel⟩
theorem c_low (W : Wd K mg) : Con P w K mg base "_law_low" 26 (spP 1 WLow) := by
  have h__law_paths := c_lpaths (P := P) (w := w) (base := base) W 6
  have h__law_at := c_lat (P := P) (w := w) (base := base) W
  have h__law_only_low := c_only_low (P := P) (w := w) (base := base) W
  have h__law_same_low := c_same_low (P := P) (w := w) (base := base) W
  obtain ⟨f, fd, hm, F⟩ := W.at_ 55 (x := "_law_low") (j := 97)
  refine con_of F hm sc__law_low rfl (fun _ _ _ _ _ _ us hl => match us, hl with | [_], _ => rfl) fun cdv A outer s H E hr => ⟨_, _,
      (dss_cons (ds_for PassesOwn.never rfl (di_list (de_call h__law_paths (hr.mono (by omega)) (da_cons (dv 0) da_nil))) (dg_name (i := 1) sc__law_low.nd) (dss_cons (ds_set (i := 2) (de_call h__law_at (hr.mono (by omega)) (da_cons (dv 0) (da_cons (dv 1) da_nil))) sc__law_low.nd)
      (dss_one (ds_if (dw_or (dw_and (dt_cmp (op_eqA (hu64 hr)) rd_eq (de_ix (dv 2) de_int) de_str) (dw_and1 (dt_not (dt_truth (de_call h__law_only_low (hr.mono (by omega)) (da_cons (dv 2) da_nil)))))).dt (dw_or1 (dw_and (dt_cmp (op_eqA (hu64 hr)) rd_eq (de_ix (dv 2) de_int) de_str) (dw_and1 (dt_not (dt_truth (de_call h__law_same_low (hr.mono (by omega)) (da_cons (dv 2) da_nil)))))).dt)).dt (dss_one (ds_ret de_bl)) dss_nil))))
      (dss_one (ds_ret de_bl))), fun ds Φ hl hW => ?_⟩
  obtain ⟨N, p, e, g, hn, q⟩ := hW
  subst e
  simp
  have hz := Nat.le_trans (paths_phi p) g.ph
  have hd := g.dp
  refine ⟨p, rfl, by omega, by omega, by omega, _, rfl, ?_⟩
  refine loop_inv (fun (l : List (List Nat)) ρ => ∃ a b, ρ = [.da p.enc, a, b]) ⟨.no, .no, rfl⟩ ?_ ?_
  · rintro r l ρ ⟨a, b, e⟩ hr2 C hC
    subst e
    obtain ⟨f, hf⟩ := at_paths hr2
    obtain ⟨fo, fd2⟩ := at_ok g.ok hf
    have hk := next_none hn hr2 hf
    simp
    refine ⟨p, f, r, ⟨rfl, rfl⟩, hf, ?_⟩
    have hC2 := hC [.da p.enc, .da (pathE r), .da f.enc] ⟨_, _, rfl⟩
    by_cases g1 : f.tag = "only"
    · obtain ⟨ns, b, rfl⟩ := tag_only g1
      simp [Plan.depth] at fd2
      rw [enc_only] at hC2 ⊢
      simp
      rw [← enc_only]
      exact ⟨N, ns, b, rfl, fo, g.nok, by omega, hk, .inr ⟨rfl, by rw [enc_only]; exact hC2⟩⟩
    · by_cases g2 : f.tag = "same"
      · obtain ⟨x, y, b, rfl⟩ := tag_same g2
        simp [Plan.depth] at fd2
        rw [enc_same] at hC2 ⊢
        simp
        rw [← enc_same]
        exact ⟨N, x, y, b, rfl, fo, g.nok, by omega, hk, .inr ⟨rfl, by rw [enc_same]; exact hC2⟩⟩
      · rw [enc_eq f] at hC2 ⊢
        simp [g1, g2]
        exact hC2
  · rintro ρ ⟨a, b, e⟩
    exact q
def WTopped : Nat → List Dt → (Nat → Dt → Prop) → Prop := fun m ds Φ => ∃ (ns all : List Str) (e : Nat) (p : Plan), ds = [p.enc, .list (stsD ns)] ∧ e ≤ 2 ∧ Drawn ns all e p ∧ Srt ns ∧ ns.length ≤ 3 ∧ (∀ n ∈ ns, sOk n) ∧ 1 ≤ m ∧
  ∀ p m', p.ok all → p.names = ns → p.depth ≤ 3 → phi p ≤ 12 → p.mok → m ≤ m' + 1 → Φ m' (Plan.enc p)
theorem sc__law_topped : FnScope ["_law_deck_here", "_law_plan_here", "_law_names_here"] ["_law_deck_here", "_law_plan_here", "_law_names_here"] (defScope (top 98)) := ⟨rfl, rfl, rfl, by decide +kernel, rfl, by decide +kernel, by decide +kernel⟩
theorem c_topped (W : Wd K mg) : Con P w K mg base "_law_topped" 26 (spK 2 WTopped) := by
  have h__law_draw := c_draw (P := P) (w := w) (base := base) W
  have h__law_paths := c_lpaths (P := P) (w := w) (base := base) W 6
  obtain ⟨f, fd, hm, F⟩ := W.at_ 56 (x := "_law_topped") (j := 98)
  refine con_ofK F hm sc__law_topped rfl (fun _ _ _ _ _ _ us hl => match us, hl with | [_, _, _], _ => rfl) fun cdv A outer s H E hr => ⟨_, _,
      (dss_cons (ds_if (dw_or (dt_cmp op_gt rd_rB0 (de_callB call_len rd_len (by rfl) W.z_len boot_len (da_cons (de_call h__law_paths (hr.mono (by omega)) (da_cons (dv 1) da_nil)) da_nil)) de_int) (dw_or1 (dt_cmp (op_eqA (hu64 hr)) rd_eq (dv 2) (FE.de (fe_lst da_nil))))).dt (dss_one (ds_ret (dv 1))) dss_nil)
      (dss_cons (ds_if (dt_cmp (op_eqA (hu64 hr)) rd_eq (de_callK (i := 0) h__law_draw (hr.mono (by omega)) (da_cons de_int da_nil)) de_int) (dss_one (ds_ret (de_tup (da_cons de_str (da_cons (de_callTy call_tuple_of rd_tuple (by rfl) W.z_tuple PyProof.Rows.boot_tuple (da_cons (dv 2) da_nil)) (da_cons (dv 1) da_nil)))))) dss_nil)
      (dss_one (ds_ret (de_tup (da_cons de_str (da_cons (de_ix (dv 2) de_int) (da_cons (de_ix (dv 2) (de_neg de_int)) (da_cons (dv 1) da_nil))))))))), fun a m ds Φ hl hW => ?_⟩
  obtain ⟨ns, all, e, p, ed, he, hp, hs, h3, hso, hm, q⟩ := hW
  subst ed
  have dp := hp.dp
  have ph := hp.ph
  have lv := hp.lv
  have p1 : 2 ^ (e + 1) ≤ 2 ^ 3 := Nat.pow_le_pow_right (by decide) (by omega)
  have p2 : 2 ^ e ≤ 2 ^ 2 := Nat.pow_le_pow_right (by decide) (by omega)
  have hz := paths_phi p
  have same : Φ m p.enc := q p m hp.ok hp.nm (by omega) (by omega) hp.mm (by omega)
  have s1 := (shp_strs hso).2
  have s2 := (shp_strs (ns := []) fun m hm => by cases hm).2
  have ok : EqOk (.list (stsD ns)) (.list []) := .inr ⟨s1, s2⟩
  have ev : PyData.eqv (.list (stsD ns)) (.list []) = decide (ns = []) := by rw [← stsD_nil, v_strsL]
  simp
  refine ⟨p, rfl, by omega, by omega, by omega, ?_⟩
  refine ⟨_, rfl, ?_⟩
  by_cases c6 : (((pathsOf p).map pathE).length : Int) ≤ 6
  · refine .inl ⟨c6, ok, ?_⟩
    by_cases cn : ns = []
    · exact .inr ⟨by rw [ev, decide_eq_true cn], same⟩
    · have n0 : 0 < ns.length := List.length_pos_iff.mpr cn
      refine .inl ⟨by rw [ev, decide_eq_false cn], hm, fun v v0 v1 => ?_⟩
      by_cases c0 : v = 0
      · refine .inr ⟨c0, ?_⟩
        have := q (.only ns p) (m - 1) ⟨hp.ok, hs, fun n hn => by rw [hp.nm]; exact hn⟩ rfl (by simp only [Plan.depth]; omega) (by simp only [phi]; omega) hp.mm (by omega)
        rw [enc_only] at this
        exact this
      · refine .inl ⟨c0, .str ns[0], ?_, .str ns[ns.length - 1], ?_, ?_⟩
        · have := at_nat (l := stsD ns) (k := 0) (by simpa using n0)
          rw [show (((0 : Nat) : Int)) = 0 from rfl] at this
          rw [this]
          simp [stsD, n0]
        · have := at_last (l := stsD ns) (by simpa using n0)
          rw [this]
          simp [stsD]
        · have := q (.same ns[0] ns[ns.length - 1] p) (m - 1) ⟨hp.ok, by rw [hp.nm]; exact List.getElem_mem _, by rw [hp.nm]; exact List.getElem_mem _⟩ hp.nm (by simp only [Plan.depth]; omega) (by simp only [phi]; omega) hp.mm (by omega)
          rw [enc_same] at this
          exact this
  · exact .inr ⟨by omega, same⟩
end
end MP
-- PL4
/-! The ways of a pattern through a text, plain. -/
namespace MP
open PySem PySem.Spec PyProof.Rows L2
/-- a piece: its name, where it begins, where it ends -/
abbrev Pc := Str × Nat × Nat
abbrev Way := Nat × List Pc
def pcE (x : Pc) : Dt := .tuple [.str x.1, .int (x.2.1 : Nat), .int (x.2.2 : Nat)]
def wayE (x : Way) : Dt := .tuple [.int (x.1 : Nat), .tuple (x.2.map pcE)]
def leP (a b : Pc) : Bool := leD (pcE a) (pcE b)
def sortP (l : List Pc) : List Pc := l.mergeSort leP
theorem leD_total : PySem.W.TotalLe leD := by
  unfold leD PySem.W.dataLe
  exact PySem.W.sortLe_total _ _ _
theorem leP_trans (a b c : Pc) (h : leP a b = true) (g : leP b c = true) : leP a c = true := leD_total.trans _ _ _ h g
theorem leP_total (a b : Pc) : (leP a b || leP b a) = true := by
  rcases leD_total.total (pcE a) (pcE b) with h | h
  · simp [leP, h]
  · simp [leP, h]
theorem leD_anti {a b : Dt} (h : leD a b = true) (g : leD b a = true) : PySem.W.keyToks a = PySem.W.keyToks b := by
  have h : (!PySem.W.dataLt b a) = true := h
  have g : (!PySem.W.dataLt a b) = true := g
  rw [Bool.not_eq_true'] at h g
  exact (listOrd itemOrd).total _ _ g h
theorem leP_anti {a b : Pc} (h : leP a b = true) (g : leP b a = true) : a = b := by
  have e := leD_anti h g
  obtain ⟨n, x, y⟩ := a
  obtain ⟨m, u, v⟩ := b
  simp only [pcE, PySem.W.keyToks, PySem.W.keyToksAll, List.cons_append, List.nil_append, List.cons.injEq, Sum.inl.injEq, Sum.inr.injEq, true_and, and_true] at e
  obtain ⟨e1, e2, e3⟩ := e
  have e1 : n = m := str_ext e1
  have e2 : x = u := by omega
  have e3 : y = v := by omega
  rw [e1, e2, e3]
theorem sortP_sorted (l : List Pc) : (sortP l).Pairwise fun a b => leP a b = true := List.pairwise_mergeSort leP_trans leP_total l
theorem sortP_perm (l : List Pc) : (sortP l).Perm l := List.mergeSort_perm l leP
theorem sortP_app {a b : List Pc} {x : Pc} (ha : a.Pairwise fun a b => leP a b = true) (hb : b.Pairwise fun a b => leP a b = true) (h : sortP (a ++ [x]) = sortP (b ++ [x])) : a = b := by
  have p : (a ++ [x]).Perm (b ++ [x]) := (sortP_perm _).symm.trans (h ▸ sortP_perm _)
  have p2 : a.Perm b := (List.perm_append_right_iff [x]).mp p
  exact List.Perm.eq_of_pairwise (fun _ _ _ _ h g => leP_anti h g) ha hb p2
theorem sort_pcs (l : List Pc) : sortD (l.map pcE) = (sortP l).map pcE :=
  (List.map_mergeSort (r := leP) (s := leD) (f := pcE) (l := l) fun a _ b _ => rfl).symm
/-! ### ways -/
def addW (acc : List Way) (o : Way) : List Way := if o ∈ acc then acc else acc ++ [o]
def thenI (pcs : List Pc) (acc : List Way) (l : List Way) : List Way := l.foldl (fun acc m => addW acc (m.1, sortP (pcs ++ m.2))) acc
def thenF (f : Nat → List Way) (begun : List Way) : List Way := begun.foldl (fun acc b => thenI b.2 acc (f b.1)) []
def newW (found l : List Way) : List Way := l.filter fun o => !decide (o ∈ found)
def turns (f : Nat → List Way) : Nat → List Way → List Way → List Way
  | 0, _, found => found
  | k + 1, last, found => turns f k (thenF f last) (found ++ newW found (thenF f last))
def sees (t : Str) (i : Nat) (s : Str) : Bool := decide (i < t.length) && inS (cutS t (some (i : Int)) (some ((i : Int) + 1))) s
mutual
def goesF (t : Str) : Pat → Nat → List Way
  | .sign s, i => if sees t i s = true then [(i + 1, [])] else []
  | .row ps, i => goesR t ps [(i, [])]
  | .any ps, i => goesA t ps i []
  | .rep lo hi p, i => turns (goesF t p) (if hi = some 1 then 1 else t.length + 1) [(i, [])] (if lo = 0 then [(i, [])] else [])
  | .mark n p, i => (goesF t p i).map fun w => (w.1, sortP (w.2 ++ [(n, i, w.1)]))
def goesR (t : Str) : List Pat → List Way → List Way
  | [], acc => acc
  | p :: ps, acc => goesR t ps (thenF (goesF t p) acc)
def goesA (t : Str) : List Pat → Nat → List Way → List Way
  | [], _, acc => acc
  | p :: ps, i, acc => goesA t ps i (acc ++ newW acc (goesF t p i))
end
/-! ### what ways are -/
structure WOk (N : List Str) (T M i : Nat) (w : Way) : Prop where
  lo : i ≤ w.1
  hi : w.1 ≤ T
  len : w.2.length ≤ M
  pcs : ∀ x ∈ w.2, x.1 ∈ N ∧ x.2.1 ≤ x.2.2 ∧ x.2.2 ≤ T
  srt : w.2.Pairwise fun a b => leP a b = true
def WsOk (N : List Str) (T M i : Nat) (l : List Way) : Prop := (∀ w ∈ l, WOk N T M i w) ∧ l.Nodup
section
variable {N : List Str} {T M M' M1 M2 i j : Nat} {w : Way} {l found : List Way}
theorem WOk.mono (h : WOk N T M i w) (hM : M ≤ M') (hi : j ≤ i) : WOk N T M' j w := ⟨Nat.le_trans hi h.lo, h.hi, Nat.le_trans h.len hM, h.pcs, h.srt⟩
theorem WsOk.mono (h : WsOk N T M i l) (hM : M ≤ M') : WsOk N T M' i l := ⟨fun w hw => (h.1 w hw).mono hM (Nat.le_refl i), h.2⟩
theorem wsok_nil : WsOk N T M i [] := ⟨(fun w h => by cases h), .nil⟩
theorem wsok_one (h : i ≤ T) : WsOk N T M i [(i, [])] := by
  refine ⟨fun w hw => ?_, by simp⟩
  rw [List.mem_singleton.mp hw]
  exact ⟨Nat.le_refl i, h, Nat.zero_le _, (fun x hx => by cases hx), .nil⟩
theorem wsok_add (h : WsOk N T M i l) (hw : WOk N T M i w) : WsOk N T M i (addW l w) := by
  unfold addW
  by_cases c : w ∈ l
  · rw [if_pos c]; exact h
  · rw [if_neg c]
    refine ⟨fun x hx => ?_, ?_⟩
    · rcases List.mem_append.mp hx with q | q
      · exact h.1 x q
      · rw [List.mem_singleton.mp q]; exact hw
    · rw [List.nodup_append]
      refine ⟨h.2, by simp, fun x hx y hy e => ?_⟩
      rw [List.mem_singleton.mp hy] at e
      exact c (e ▸ hx)
theorem wsok_new (h : WsOk N T M i found) (g : WsOk N T M i l) : WsOk N T M i (found ++ newW found l) := by
  refine ⟨fun x hx => ?_, ?_⟩
  · rcases List.mem_append.mp hx with q | q
    · exact h.1 x q
    · exact g.1 x (List.mem_filter.mp q).1
  · rw [List.nodup_append]
    refine ⟨h.2, g.2.sublist List.filter_sublist, fun x hx y hy e => ?_⟩
    have := (List.mem_filter.mp hy).2
    rw [← e] at this
    simp [hx] at this
theorem wok_join {b m : Way} (h : WOk N T M1 i b) (g : WOk N T M2 b.1 m) : WOk N T (M1 + M2) i (m.1, sortP (b.2 ++ m.2)) := by
  refine ⟨Nat.le_trans h.lo g.lo, g.hi, ?_, fun x hx => ?_, sortP_sorted _⟩
  · show (sortP (b.2 ++ m.2)).length ≤ _
    rw [(sortP_perm _).length_eq, List.length_append]
    have := h.len
    have := g.len
    omega
  · rcases List.mem_append.mp ((sortP_perm _).mem_iff.mp hx) with q | q
    · exact h.pcs x q
    · exact g.pcs x q
theorem wsok_thenI {b : Way} (h : WOk N T M1 i b) : ∀ {l acc : List Way}, (∀ m ∈ l, WOk N T M2 b.1 m) → WsOk N T (M1 + M2) i acc → WsOk N T (M1 + M2) i (thenI b.2 acc l)
  | [], _, _, ha => ha
  | m :: l, acc, hl, ha => wsok_thenI (l := l) h (fun x hx => hl x (List.mem_cons_of_mem _ hx)) (wsok_add ha (wok_join h (hl m List.mem_cons_self)))
theorem wsok_thenB {f : Nat → List Way} (hf : ∀ e, e ≤ T → ∀ m ∈ f e, WOk N T M2 e m) : ∀ {begun acc : List Way}, (∀ b ∈ begun, WOk N T M1 i b) → WsOk N T (M1 + M2) i acc → WsOk N T (M1 + M2) i (begun.foldl (fun acc b => thenI b.2 acc (f b.1)) acc)
  | [], _, _, ha => ha
  | b :: begun, acc, hb, ha => by
    have h1 := hb b List.mem_cons_self
    exact wsok_thenB (begun := begun) hf (fun x hx => hb x (List.mem_cons_of_mem _ hx)) (wsok_thenI h1 (hf b.1 h1.hi) ha)
theorem wsok_then {f : Nat → List Way} (hf : ∀ e, e ≤ T → ∀ m ∈ f e, WOk N T M2 e m) {begun : List Way} (hb : ∀ b ∈ begun, WOk N T M1 i b) : WsOk N T (M1 + M2) i (thenF f begun) := wsok_thenB hf hb wsok_nil
theorem wsok_turns {f : Nat → List Way} {Mf : Nat} (hf : ∀ e, e ≤ T → ∀ m ∈ f e, WOk N T Mf e m) : ∀ (k : Nat) {M1 : Nat} {last found : List Way}, M1 + k * Mf ≤ M → (∀ b ∈ last, WOk N T M1 i b) → WsOk N T M i found → WsOk N T M i (turns f k last found)
  | 0, _, _, _, _, _, hfo => hfo
  | k + 1, M1, last, found, hk, hl, hfo => by
    rw [Nat.succ_mul] at hk
    have h1 := wsok_then (M1 := M1) hf hl
    exact wsok_turns hf k (M1 := M1 + Mf) (by omega) h1.1 (wsok_new hfo (h1.mono (by omega)))
end
section
variable {N : List Str} {t : Str}
theorem mm_none {p : Pat} (h : p.marks = []) : p.mm = 0 := by
  have := mm_marks p
  rw [h] at this
  exact Nat.le_zero.mp this
theorem wsok_row {d : Nat} {i : Nat} (ih : ∀ p i, pok N d p → i ≤ t.length → WsOk N t.length p.mm i (goesF t p i)) : ∀ {ps : List Pat} {M : Nat} {acc : List Way}, (∀ p ∈ ps, pok N d p) → WsOk N t.length M i acc → WsOk N t.length (M + mmS ps) i (goesR t ps acc)
  | [], M, acc, _, ha => by rw [goesR, mmS]; exact ha
  | p :: ps, M, acc, hp, ha => by
    rw [goesR, mmS, ← Nat.add_assoc]
    exact wsok_row ih (fun q hq => hp q (List.mem_cons_of_mem _ hq)) (wsok_then (fun e he => (ih p e (hp p List.mem_cons_self) he).1) ha.1)
theorem wsok_any {d : Nat} {i : Nat} (hi : i ≤ t.length) (ih : ∀ p i, pok N d p → i ≤ t.length → WsOk N t.length p.mm i (goesF t p i)) {M : Nat} : ∀ {ps : List Pat} {acc : List Way}, (∀ p ∈ ps, pok N d p) → mmX ps ≤ M → WsOk N t.length M i acc → WsOk N t.length M i (goesA t ps i acc)
  | [], acc, _, _, ha => by rw [goesA]; exact ha
  | p :: ps, acc, hp, hm, ha => by
    rw [goesA]
    rw [mmX] at hm
    exact wsok_any hi ih (fun q hq => hp q (List.mem_cons_of_mem _ hq)) (by omega) (wsok_new ha ((ih p i (hp p List.mem_cons_self) hi).mono (by omega)))
theorem goes_ok : ∀ (d : Nat) (p : Pat) (i : Nat), pok N d p → i ≤ t.length → WsOk N t.length p.mm i (goesF t p i)
  | 0, _, _, h, _ => h.elim
  | d + 1, p, i, h, hi => by
    have ih := goes_ok d
    cases p with
    | sign s =>
      rw [goesF]
      by_cases c : sees t i s = true
      · rw [if_pos c]
        have hlt : i < t.length := by
          unfold sees at c
          rw [Bool.and_eq_true] at c
          exact of_decide_eq_true c.1
        refine ⟨fun w hw => ?_, by simp⟩
        rw [List.mem_singleton.mp hw]
        exact ⟨Nat.le_succ i, hlt, Nat.zero_le _, (fun x hx => by cases hx), .nil⟩
      · rw [if_neg c]; exact wsok_nil
    | row ps =>
      rw [goesF, Pat.mm]
      have := wsok_row (i := i) ih h.2.2 (wsok_one (N := N) (M := 0) hi)
      rw [Nat.zero_add] at this
      exact this
    | any ps =>
      rw [goesF, Pat.mm]
      exact wsok_any hi ih h.2.2 (Nat.le_refl _) wsok_nil
    | rep lo hi2 p =>
      rw [goesF, Pat.mm]
      refine wsok_turns (fun e he => (ih p e h.2.2.2 he).1) _ (M1 := 0) ?_ (wsok_one (N := N) (M := 0) hi).1 ?_
      · rcases h.2.2.1 with ⟨e, hm⟩ | e
        · rw [mm_none hm]; simp
        · rw [e, if_pos rfl]; simp
      · split
        · exact wsok_one hi
        · exact wsok_nil
    | mark n p =>
      rw [goesF, Pat.mm]
      have h1 := ih p i h.2.2 hi
      refine ⟨fun w hw => ?_, ?_⟩
      · obtain ⟨u, hu, rfl⟩ := List.mem_map.mp hw
        have g := h1.1 u hu
        refine ⟨g.lo, g.hi, ?_, fun x hx => ?_, sortP_sorted _⟩
        · show (sortP _).length ≤ _
          rw [(sortP_perm _).length_eq, List.length_append, List.length_singleton]
          exact Nat.succ_le_succ g.len
        · rcases List.mem_append.mp ((sortP_perm _).mem_iff.mp hx) with q | q
          · exact g.pcs x q
          · rw [List.mem_singleton.mp q]
            exact ⟨h.2.1, g.lo, g.hi⟩
      · show List.Pairwise (· ≠ ·) _
        rw [List.pairwise_map]
        refine List.Pairwise.imp_of_mem (fun {a b} ha hb hab e => hab ?_) h1.2
        obtain ⟨a1, a2⟩ := a
        obtain ⟨b1, b2⟩ := b
        injection e with e1 e2
        have e1 : a1 = b1 := e1
        subst e1
        have : a2 = b2 := sortP_app (h1.1 _ ha).srt (h1.1 _ hb).srt e2
        rw [this]
end
/-! ### there are not too many -/
def ivs (T : Nat) : List (Nat × Nat) := (List.range (T + 1)).flatMap fun e => (List.range (e + 1)).map fun b => (b, e)
theorem mem_ivs {T b e : Nat} (h : b ≤ e) (g : e ≤ T) : (b, e) ∈ ivs T := by
  unfold ivs
  rw [List.mem_flatMap]
  exact ⟨e, List.mem_range.mpr (by omega), List.mem_map.mpr ⟨b, List.mem_range.mpr (by omega), rfl⟩⟩
theorem ivs_len {T : Nat} (h : T ≤ 4) : (ivs T).length ≤ 15 := by
  match T, h with
  | 0, _ => decide
  | 1, _ => decide
  | 2, _ => decide
  | 3, _ => decide
  | 4, _ => decide
def lsts {α : Type} (U : List α) : Nat → List (List α)
  | 0 => [[]]
  | k + 1 => [] :: U.flatMap fun x => (lsts U k).map (x :: ·)
theorem mem_lsts {α : Type} {U : List α} : ∀ {k : Nat} {l : List α}, l.length ≤ k → (∀ x ∈ l, x ∈ U) → l ∈ lsts U k
  | 0, [], _, _ => by simp [lsts]
  | 0, x :: l, h, _ => by simp at h
  | k + 1, [], _, _ => by simp [lsts]
  | k + 1, x :: l, h, g => by
    unfold lsts
    refine List.mem_cons_of_mem _ (List.mem_flatMap.mpr ⟨x, g x List.mem_cons_self, List.mem_map.mpr ⟨l, mem_lsts (by simpa using h) fun y hy => g y (List.mem_cons_of_mem _ hy), rfl⟩⟩)
theorem flatMap_len {α β : Type} {f : α → List β} {K : Nat} : ∀ {l : List α}, (∀ x ∈ l, (f x).length ≤ K) → (l.flatMap f).length ≤ l.length * K
  | [], _ => by simp
  | x :: l, h => by
    have h1 := h x List.mem_cons_self
    have h2 := flatMap_len (l := l) fun y hy => h y (List.mem_cons_of_mem _ hy)
    rw [List.flatMap_cons, List.length_append, List.length_cons, Nat.succ_mul]
    omega
theorem lsts_len {α : Type} {U : List α} {K k : Nat} (h : (lsts U k).length ≤ K) : (lsts U (k + 1)).length ≤ U.length * K + 1 := by
  rw [lsts, List.length_cons]
  have := flatMap_len (l := U) (f := fun x => (lsts U k).map (x :: ·)) (K := K) fun x _ => by rw [List.length_map]; exact h
  omega
def trip (N : List Str) (T : Nat) : List Pc := N.flatMap fun n => (ivs T).map fun p => (n, p.1, p.2)
def uni (N : List Str) (T : Nat) : List Way := (List.range (T + 1)).flatMap fun e => (lsts (trip N T) 3).map fun l => (e, l)
theorem uni_len {N : List Str} {T : Nat} (hN : N.length ≤ 3) (hT : T ≤ 4) : (uni N T).length ≤ 500000 := by
  have h1 : (trip N T).length ≤ 45 := by
    have := flatMap_len (l := N) (f := fun n => (ivs T).map fun p => ((n, p.1, p.2) : Pc)) (K := 15) fun x _ => by rw [List.length_map]; exact ivs_len hT
    unfold trip
    omega
  have k0 : (lsts (trip N T) 0).length ≤ 1 := Nat.le_refl 1
  have k1 : (lsts (trip N T) 1).length ≤ _ := lsts_len k0
  have k1 : (lsts (trip N T) 1).length ≤ 46 := by omega
  have k2 : (lsts (trip N T) 2).length ≤ _ := lsts_len k1
  have k2 : (lsts (trip N T) 2).length ≤ 2071 := by omega
  have k3 : (lsts (trip N T) 3).length ≤ _ := lsts_len k2
  have k3 : (lsts (trip N T) 3).length ≤ 93196 := by omega
  have := flatMap_len (l := List.range (T + 1)) (f := fun e => (lsts (trip N T) 3).map fun l => ((e, l) : Way)) (K := 93196) fun x _ => by rw [List.length_map]; exact k3
  rw [List.length_range] at this
  unfold uni
  have : (T + 1) * 93196 ≤ 5 * 93196 := Nat.mul_le_mul_right _ (by omega)
  omega
theorem ws_len {N : List Str} {T M i : Nat} {l : List Way} (hN : N.length ≤ 3) (hT : T ≤ 4) (hM : M ≤ 3) (h : WsOk N T M i l) : l.length ≤ 500000 := by
  refine Nat.le_trans (h.2.length_le_of_subset fun w hw => ?_) (uni_len hN hT)
  have g := h.1 w hw
  unfold uni
  rw [List.mem_flatMap]
  refine ⟨w.1, List.mem_range.mpr (by have := g.hi; omega), List.mem_map.mpr ⟨w.2, mem_lsts (Nat.le_trans g.len hM) fun x hx => ?_, rfl⟩⟩
  obtain ⟨a, b, c⟩ := g.pcs x hx
  unfold trip
  rw [List.mem_flatMap]
  exact ⟨x.1, a, List.mem_map.mpr ⟨(x.2.1, x.2.2), mem_ivs b c, rfl⟩⟩
end MP
-- PF1
/-! The walks: the law's own going through a text. -/
namespace MP
open PySem PySem.Spec PyProof.Rows L2 MH
theorem eqv_map {α : Type} [DecidableEq α] {g : α → Dt} (h : ∀ a b, PyData.eqv (g a) (g b) = decide (a = b)) : ∀ xs ys : List α, PyData.eqvAll (xs.map g) (ys.map g) = decide (xs = ys)
  | [], [] => by simp [PyData.eqvAll]
  | [], y :: ys => by simp [PyData.eqvAll]
  | x :: xs, [] => by simp [PyData.eqvAll]
  | x :: xs, y :: ys => by
    rw [List.map_cons, List.map_cons, PyData.eqvAll, h, eqv_map h xs ys, Bool.eq_iff_iff]
    simp
theorem eqv_pc (a b : Pc) : PyData.eqv (pcE a) (pcE b) = decide (a = b) := by
  obtain ⟨n, x, y⟩ := a
  obtain ⟨m, u, v⟩ := b
  rw [Bool.eq_iff_iff]
  simp [pcE, PyData.eqv, PyData.eqvAll]
  intro _
  omega
theorem eqv_way (a b : Way) : PyData.eqv (wayE a) (wayE b) = decide (a = b) := by
  obtain ⟨x, p⟩ := a
  obtain ⟨y, q⟩ := b
  rw [Bool.eq_iff_iff]
  simp [wayE, PyData.eqv, PyData.eqvAll, eqv_map eqv_pc]
  intro _
  omega
theorem lay_map {α : Type} {g : α → Dt} {D : Nat} : ∀ {l : List α}, (∀ a ∈ l, PyData.canLay0 (g a) = true ∧ (g a).depth ≤ D) → PyData.canLayAll0 (l.map g) = true ∧ PyData.depthAll (l.map g) ≤ D
  | [], _ => by simp [PyData.canLayAll0, PyData.depthAll]
  | a :: l, h => by
    obtain ⟨h1, h2⟩ := h a List.mem_cons_self
    obtain ⟨h3, h4⟩ := lay_map (l := l) fun b hb => h b (List.mem_cons_of_mem _ hb)
    rw [List.map_cons, PyData.canLayAll0, PyData.depthAll, h1, h3]
    exact ⟨rfl, Nat.max_le.mpr ⟨h2, h4⟩⟩
theorem lay_pc {x : Pc} (h : PyData.strOk x.1 = true) : PyData.canLay0 (pcE x) = true ∧ (pcE x).depth ≤ 1 := by
  simp [pcE, PyData.canLay0, PyData.canLayAll0, PyData.depth, PyData.depthAll, h]
theorem lay_way {w : Way} (h : ∀ x ∈ w.2, PyData.strOk x.1 = true) : PyData.canLay0 (wayE w) = true ∧ (wayE w).depth ≤ 3 := by
  obtain ⟨h1, h2⟩ := lay_map (l := w.2) (g := pcE) (D := 1) fun x hx => lay_pc (h x hx)
  simp [wayE, PyData.canLay0, PyData.canLayAll0, PyData.depth, PyData.depthAll, h1]
  omega
theorem shp_way {w : Way} (h : ∀ x ∈ w.2, PyData.strOk x.1 = true) : SeqAt.shaped (wayE w) = true := by
  obtain ⟨h1, h2⟩ := lay_way h
  unfold SeqAt.shaped
  rw [h1]
  simp
  omega
theorem shp_ways {l : List Way} (h : ∀ w ∈ l, ∀ x ∈ w.2, PyData.strOk x.1 = true) : SeqAt.shaped (.list (l.map wayE)) = true := by
  obtain ⟨h1, h2⟩ := lay_map (l := l) (g := wayE) (D := 3) fun w hw => lay_way (h w hw)
  unfold SeqAt.shaped
  simp [PyData.canLay0, PyData.depth, h1]
  omega
theorem in_ways {w : Way} {l : List Way} (h : ∀ x ∈ w.2, PyData.strOk x.1 = true) (g : ∀ w ∈ l, ∀ x ∈ w.2, PyData.strOk x.1 = true) : InOk (wayE w) (.list (l.map wayE)) ∧ inD (wayE w) (.list (l.map wayE)) = decide (w ∈ l) := by
  refine ⟨.inr ⟨shp_way h, shp_ways g⟩, ?_⟩
  show (l.map wayE).any _ = _
  rw [Bool.eq_iff_iff]
  simp [eqv_way]
theorem sortok_pcs (l : List Pc) : SortOk (l.map pcE) := by
  refine ⟨PySem.W.AllAlike.of fun a b => ?_, PySem.W.Sortable.tuples fun a => ⟨_, _, rfl⟩, fun d hd => ?_⟩
  · simp [pcE, PySem.W.alike, PySem.W.alikeAll]
  · obtain ⟨x, _, rfl⟩ := List.mem_map.mp hd
    simp [pcE, PyData.depth, PyData.depthAll]
section
variable {P : Program} {w : World} {K : PySem.W.Frag} {mg : Str → Option Value} {base : Heap}
theorem t_tagT {i : Nat} {ρ : Ev} {Θ : Bool → Ev → Prop} {x c : Str} {r : List Dt} (h : ρ[i]? = some (.da (.tuple (.str x :: r)))) (e : x = c) (k : Θ true ρ) : wTest (w2 fEq (w2 fIx (wVar i) (wC (.int 0))) (wC (.str c))) ρ Θ := by
  subst e
  exact ⟨_, h, _, at0 _ _, .inl rfl, true, congrArg PyData.bool (by simp), k⟩
theorem t_tagF {i : Nat} {ρ : Ev} {Θ : Bool → Ev → Prop} {x c : Str} {r : List Dt} (h : ρ[i]? = some (.da (.tuple (.str x :: r)))) (e : x ≠ c) (k : Θ false ρ) : wTest (w2 fEq (w2 fIx (wVar i) (wC (.int 0))) (wC (.str c))) ρ Θ :=
  ⟨_, h, _, at0 _ _, .inl rfl, false, congrArg PyData.bool (by simp [e]), k⟩
/-- what stands fast while a pattern goes through a text -/
structure TOk (N : List Str) (t : Str) : Prop where
  few : N.length ≤ 3
  ok : ∀ n ∈ N, sOk n
  len : t.length ≤ 4
theorem TOk.ways {N : List Str} {t : Str} {M i : Nat} {l : List Way} (k : TOk N t) (h : ∀ w ∈ l, WOk N t.length M i w) : ∀ w ∈ l, ∀ x ∈ w.2, PyData.strOk x.1 = true := fun w hw x hx => (k.ok x.1 ((h w hw).pcs x hx).1).2
def WGoes (d : Nat) : List Dt → (Dt → Prop) → Prop := fun ds Φ => ∃ (N : List Str) (p : Pat) (t : Str) (i : Nat), ds = [p.enc, .str t, .int i] ∧ pok N d p ∧ p.mm ≤ 3 ∧ TOk N t ∧ i ≤ t.length ∧ Φ (.list ((goesF t p i).map wayE))
def WThen (d : Nat) : List Dt → (Dt → Prop) → Prop := fun ds Φ => ∃ (N : List Str) (p : Pat) (t : Str) (i M : Nat) (b : List Way), ds = [.list (b.map wayE), p.enc, .str t] ∧ pok N d p ∧ TOk N t ∧ WsOk N t.length M i b ∧ M + p.mm ≤ 3 ∧ Φ (.list ((thenF (goesF t p) b).map wayE))
theorem sc__law_then : FnScope ["_law_begun", "_law_part", "_law_text", "_law_found", "_law_end", "_law_pieces", "_law_last", "_law_more", "_law_one"] ["_law_begun", "_law_part", "_law_text"] (defScope (top 82)) := ⟨rfl, rfl, rfl, by decide +kernel, rfl, by decide +kernel, by decide +kernel⟩
theorem c_then (W : Wd K mg) {d k : Nat} (h__law_goes : Con P w K mg base "_law_goes" k (spP 3 (WGoes d))) (hk : 2 ≤ k) : Con P w K mg base "_law_then" (k + 1) (spP 3 (WThen d)) := by
  obtain ⟨f, fd, hm, F⟩ := W.at_ 40 (x := "_law_then") (j := 82)
  refine con_of F hm sc__law_then rfl (fun _ _ _ _ _ _ us hl => match us, hl with | [_, _, _], _ => rfl) fun cdv A outer s H E hr => ⟨_, _,
      (dss_cons (ds_setO (i := 3) (fe_lst da_nil) sc__law_then.nd)
      (dss_cons (ds_for PassesOwn.never rfl (di_list (dv 0)) (dg_tup (n := 2) rfl (dgs_cons (dg_name (i := 4) sc__law_then.nd) (dgs_cons (dg_name (i := 5) sc__law_then.nd) dgs_nil))) (dss_one (ds_for PassesOwn.never rfl (di_list (de_call h__law_goes (hr.mono (by omega)) (da_cons (dv 1) (da_cons (dv 2) (da_cons (dv 4) da_nil))))) (dg_tup (n := 2) rfl (dgs_cons (dg_name (i := 6) sc__law_then.nd) (dgs_cons (dg_name (i := 7) sc__law_then.nd) dgs_nil))) (dss_cons (ds_set (i := 8) (de_tup (da_cons (dv 6) (da_cons (de_callTy call_tuple_of rd_tuple (by rfl) W.z_tuple PyProof.Rows.boot_tuple (da_cons (FE.de (fe_sorted rfl (hu64 hr) W.z_sorted (de_op op_catA rd_addT (dv 5) (dv 7)))) da_nil)) da_nil))) sc__law_then.nd)
      (dss_one (ds_if (dt_peek (dt_cmp (op_notInA (hu65 hr)) rd_notIn (dv 8) (dv 3))) (dss_one (ds_append (i := 3) (dv 8))) dss_nil))))))
      (dss_one (ds_pub 3 (ds_ret (dv 3)))))), fun ds Φ hl hW => ?_⟩
  obtain ⟨N, p, t, i, M, b, e, hp, tk, hb, hm, q⟩ := hW
  subst e
  simp
  refine loop_inv (fun (l : List Way) ρ => ∃ (done : List Way) (s1 s2 s3 s4 s5 : Sl), ρ = [.da (.list (b.map wayE)), .da p.enc, .da (.str t), .ow ((thenF (goesF t p) done).map wayE), s1, s2, s3, s4, s5] ∧ done ++ l = b) ⟨[], .no, .no, .no, .no, .no, rfl, rfl⟩ ?_ ?_
  · rintro c l ρ ⟨done, s1, s2, s3, s4, s5, e, hd⟩ hk C hC
    subst e
    obtain ⟨ce, cp⟩ := c
    have hc := hb.1 _ hk
    have hce : ce ≤ t.length := hc.hi
    have gs := goes_ok d p ce hp hce
    have hdone : ∀ w ∈ done, WOk N t.length M i w := fun w hw => hb.1 w (by rw [← hd]; exact List.mem_append_left _ hw)
    have acc0 : WsOk N t.length (M + p.mm) i (thenF (goesF t p) done) := wsok_then (fun e he => (goes_ok d p e hp he).1) hdone
    simp [wayE]
    refine ⟨N, p, t, ce, by simp, hp, by omega, tk, hce, _, rfl, ?_⟩
    refine loop_inv (g := wayE) (l := goesF t p ce) (fun (l2 : List Way) ρ => ∃ (done2 : List Way) (s3 s4 s5 : Sl), ρ = [.da (.list (b.map wayE)), .da p.enc, .da (.str t), .ow ((thenI cp (thenF (goesF t p) done) done2).map wayE), .da (.int (ce : Nat)), .da (.tuple (cp.map pcE)), s3, s4, s5] ∧ done2 ++ l2 = goesF t p ce)
      ⟨[], s3, s4, s5, rfl, rfl⟩ ?_ ?_
    · rintro m l2 ρ ⟨done2, s3, s4, s5, e, hd2⟩ hk2 C2 hC2
      subst e
      have hm2 := gs.1 m hk2
      obtain ⟨me, mp⟩ := m
      have hdone2 : ∀ w ∈ done2, WOk N t.length p.mm ce w := fun w hw => gs.1 w (by rw [← hd2]; exact List.mem_append_left _ hw)
      have acc1 : WsOk N t.length (M + p.mm) i (thenI cp (thenF (goesF t p) done) done2) := wsok_thenI (b := (ce, cp)) hc hdone2 acc0
      have al := ws_len tk.few tk.len hm acc1
      have one := wok_join (b := (ce, cp)) hc hm2
      obtain ⟨i1, i2⟩ := in_ways (w := (me, sortP (cp ++ mp))) (l := thenI cp (thenF (goesF t p) done) done2) (tk.ways (l := [(me, sortP (cp ++ mp))]) (fun w hw => by rw [List.mem_singleton.mp hw]; exact one) _ (List.mem_singleton_self _)) (tk.ways acc1.1)
      have cl := hc.len
      have ml := hm2.len
      have nx := fun s3 s4 s5 => hC2 _ ⟨done2 ++ [(me, mp)], s3, s4, s5, rfl, by rw [← hd2]; simp⟩
      have ea : thenI cp (thenF (goesF t p) done) (done2 ++ [(me, mp)]) = addW (thenI cp (thenF (goesF t p) done) done2) (me, sortP (cp ++ mp)) := by
        unfold thenI
        rw [List.foldl_append]
        rfl
      rw [ea] at nx
      simp [wayE]
      rw [← List.map_append, sort_pcs]
      refine ⟨by rw [sizeL]; have cl : cp.length ≤ M := cl; have ml : mp.length ≤ p.mm := ml; omega, sortok_pcs _, by have cl : cp.length ≤ M := cl; have ml : mp.length ≤ p.mm := ml; omega, i1, ?_⟩
      have ew : ∀ (x : Nat) (y : List Pc), PyData.tuple [.int (x : Nat), .tuple (y.map pcE)] = wayE (x, y) := fun _ _ => rfl
      rw [ew]
      rw [i2]
      by_cases cm : (me, sortP (cp ++ mp)) ∈ thenI cp (thenF (goesF t p) done) done2
      · refine .inl ⟨decide_eq_true cm, ?_⟩
        rw [addW, if_pos cm] at nx
        exact nx _ _ _
      · refine .inr ⟨decide_eq_false cm, by rw [sizeL]; omega, ?_⟩
        rw [addW, if_neg cm, List.map_append] at nx
        exact nx _ _ _
    · rintro ρ ⟨done2, s3, s4, s5, e, hd2⟩
      subst e
      rw [List.append_nil] at hd2
      subst hd2
      refine hC _ ⟨done ++ [(ce, cp)], .da (.int (ce : Nat)), .da (.tuple (cp.map pcE)), s3, s4, s5, ?_, by rw [← hd]; simp⟩
      have ea : thenF (goesF t p) (done ++ [(ce, cp)]) = thenI cp (thenF (goesF t p) done) (goesF t p ce) := by
        unfold thenF
        rw [List.foldl_append]
        rfl
      rw [ea]
  · rintro ρ ⟨done, s1, s2, s3, s4, s5, e, hd⟩
    subst e
    rw [List.append_nil] at hd
    subst hd
    simp
    exact q
theorem sc__law_goes : FnScope ["_law_pattern", "_law_text", "_law_at_here", "_law_found", "_law_part", "_law_one", "_law_some", "_law_end", "_law_pieces", "_law_last", "_law_turn"] ["_law_pattern", "_law_text", "_law_at_here"] (defScope (top 81)) := ⟨rfl, rfl, rfl, by decide +kernel, rfl, by decide +kernel, by decide +kernel⟩
theorem c_goes_step (W : Wd K mg) {d k : Nat} (h__law_goes : Con P w K mg base "_law_goes" k (spP 3 (WGoes d))) (h__law_then : Con P w K mg base "_law_then" k (spP 3 (WThen d))) (hk : 2 ≤ k) : Con P w K mg base "_law_goes" (k + 1) (spP 3 (WGoes (d + 1))) := by
  obtain ⟨f, fd, hm, F⟩ := W.at_ 39 (x := "_law_goes") (j := 81)
  refine con_of F hm sc__law_goes rfl (fun _ _ _ _ _ _ us hl => match us, hl with | [_, _, _], _ => rfl) fun cdv A outer s H E hr => ⟨_, _,
      (dss_cons (ds_if (dt_cmp (op_eqA (hu64 hr)) rd_eq (de_ix (dv 0) de_int) de_str) (dss_one (ds_ret (FE.de (fe_op op_rep rd_repL (FE.de (fe_lst (da_cons (de_tup (da_cons (de_op op_add rd_rI0 (dv 2) de_int) (da_cons (de_tup da_nil) da_nil))) da_nil))) (de_callTy call_int1 rd_int (by rfl) W.z_int PyProof.Rows.boot_int (da_cons (de_and (de_cmp op_lt rd_rB0 (dv 2) (de_callB call_len rd_len (by rfl) W.z_len boot_len (da_cons (dv 1) da_nil))) (de_one (de_cmp op_in_str rd_inS (de_slS (dv 1) (do_some (dv 2)) (do_some (de_op op_add rd_rI0 (dv 2) de_int))) (de_ix (dv 0) de_int)))) da_nil)))))) dss_nil)
      (dss_cons (ds_if (dt_cmp (op_eqA (hu64 hr)) rd_eq (de_ix (dv 0) de_int) de_str) (dss_cons (ds_set (i := 3) (FE.de (fe_lst (da_cons (de_tup (da_cons (dv 2) (da_cons (de_tup da_nil) da_nil))) da_nil))) sc__law_goes.nd)
      (dss_cons (ds_for PassesOwn.never rfl (di_tup (de_ix (dv 0) de_int)) (dg_name (i := 4) sc__law_goes.nd) (dss_one (ds_set (i := 3) (de_call h__law_then (hr.mono (by omega)) (da_cons (dv 3) (da_cons (dv 4) (da_cons (dv 1) da_nil)))) sc__law_goes.nd)))
      (dss_one (ds_ret (dv 3))))) dss_nil)
      (dss_cons (ds_if (dt_cmp (op_eqA (hu64 hr)) rd_eq (de_ix (dv 0) de_int) de_str) (dss_cons (ds_set (i := 3) (FE.de (fe_lst da_nil)) sc__law_goes.nd)
      (dss_cons (ds_for PassesOwn.never rfl (di_tup (de_ix (dv 0) de_int)) (dg_name (i := 4) sc__law_goes.nd) (dss_one (ds_set (i := 3) (FE.de (fe_op op_cat rd_addL (dv 3) (FE.de (fe_lc (own := [("_law_one", 5)]) rfl sc__law_goes.nd (di_list (de_call h__law_goes (hr.mono (by omega)) (da_cons (dv 4) (da_cons (dv 1) (da_cons (dv 2) da_nil))))) (blkOk_by (own := [("_law_one", 5)]) (N := ["_law_pattern", "_law_text", "_law_at_here", "_law_found", "_law_part", "_law_one", "_law_some", "_law_end", "_law_pieces", "_law_last", "_law_turn"]) (sc := defScope (top 81)) (by decide +kernel)) (fun _ _ _ _ _ => (dg_name (i := 5) sc__law_goes.nd)) (fun _ _ _ _ _ => (DTs.castK (dts_one (dt_cmp (op_notInA (hu65 hr)) rd_notIn (dv 5) (dv 3))) (by dsimp only [Cx.blk] <;> rfl))) (fun _ _ _ _ _ => (dv 5)))))) sc__law_goes.nd)))
      (dss_one (ds_ret (dv 3))))) dss_nil)
      (dss_cons (ds_if (dt_cmp (op_eqA (hu64 hr)) rd_eq (de_ix (dv 0) de_int) de_str) (dss_cons (ds_set (i := 6) (de_call h__law_goes (hr.mono (by omega)) (da_cons (de_ix (dv 0) de_int) (da_cons (dv 1) (da_cons (dv 2) da_nil)))) sc__law_goes.nd)
      (dss_one (ds_ret (FE.de (fe_lc (own := [("_law_end", 7), ("_law_pieces", 8)]) rfl sc__law_goes.nd (di_list (dv 6)) (blkOk_by (own := [("_law_end", 7), ("_law_pieces", 8)]) (N := ["_law_pattern", "_law_text", "_law_at_here", "_law_found", "_law_part", "_law_one", "_law_some", "_law_end", "_law_pieces", "_law_last", "_law_turn"]) (sc := defScope (top 81)) (by decide +kernel)) (fun _ _ _ _ _ => (DG.castK (dg_tup (n := 2) rfl (dgs_cons (dg_name (i := 7) sc__law_goes.nd) (dgs_cons (dg_name (i := 8) sc__law_goes.nd) dgs_nil))) (by dsimp only [Cx.blk] <;> rfl))) (fun _ _ _ _ _ => dts_nil) (fun _ _ _ _ _ => (DE.castK (de_tup (da_cons (dv 7) (da_cons (de_callTy call_tuple_of rd_tuple (by rfl) W.z_tuple PyProof.Rows.boot_tuple (da_cons (FE.de (fe_sorted rfl (hu64 hr) W.z_sorted (de_op op_catA rd_addT (dv 8) (de_tup (da_cons (de_tup (da_cons (de_ix (dv 0) de_int) (da_cons (dv 2) (da_cons (dv 7) da_nil)))) da_nil))))) da_nil)) da_nil))) (by dsimp only [Cx.blk] <;> rfl)))))))) dss_nil)
      (dss_cons (ds_set (i := 3) (FE.de (fe_op op_rep rd_repL (FE.de (fe_lst (da_cons (de_tup (da_cons (dv 2) (da_cons (de_tup da_nil) da_nil))) da_nil))) (de_callTy call_int1 rd_int (by rfl) W.z_int PyProof.Rows.boot_int (da_cons (de_cmp (op_eqA (hu64 hr)) rd_eq (de_ix (dv 0) de_int) de_int) da_nil)))) sc__law_goes.nd)
      (dss_cons (ds_set (i := 9) (FE.de (fe_lst (da_cons (de_tup (da_cons (dv 2) (da_cons (de_tup da_nil) da_nil))) da_nil))) sc__law_goes.nd)
      (dss_cons (ds_for PassesOwn.never rfl (di_range W.z_range (de_ix (FE.de (fe_lst (da_cons (de_op op_add rd_rI0 (de_callB call_len rd_len (by rfl) W.z_len boot_len (da_cons (dv 1) da_nil)) de_int) (da_cons de_int da_nil)))) (de_callTy call_int1 rd_int (by rfl) W.z_int PyProof.Rows.boot_int (da_cons (de_cmp (op_eqA (hu64 hr)) rd_eq (de_ix (dv 0) de_int) de_int) da_nil)))) (dg_name (i := 10) sc__law_goes.nd) (dss_cons (ds_set (i := 9) (de_call h__law_then (hr.mono (by omega)) (da_cons (dv 9) (da_cons (de_ix (dv 0) de_int) (da_cons (dv 1) da_nil)))) sc__law_goes.nd)
      (dss_one (ds_set (i := 3) (FE.de (fe_op op_cat rd_addL (dv 3) (FE.de (fe_lc (own := [("_law_one", 5)]) rfl sc__law_goes.nd (di_list (dv 9)) (blkOk_by (own := [("_law_one", 5)]) (N := ["_law_pattern", "_law_text", "_law_at_here", "_law_found", "_law_part", "_law_one", "_law_some", "_law_end", "_law_pieces", "_law_last", "_law_turn"]) (sc := defScope (top 81)) (by decide +kernel)) (fun _ _ _ _ _ => (dg_name (i := 5) sc__law_goes.nd)) (fun _ _ _ _ _ => (DTs.castK (dts_one (dt_cmp (op_notInA (hu65 hr)) rd_notIn (dv 5) (dv 3))) (by dsimp only [Cx.blk] <;> rfl))) (fun _ _ _ _ _ => (dv 5)))))) sc__law_goes.nd))))
      (dss_one (ds_ret (dv 3)))))))))), fun ds Φ hl hW => ?_⟩
  obtain ⟨N, p, t, i, e, hp, hm, tk, hi, q⟩ := hW
  subst e
  have ns : ∀ {a b : String}, a ≠ b → Str.ofString a ≠ Str.ofString b := fun h z => h (ofString_inj z)
  have t4 := tk.len
  have lz : lenD (.str t) = some t.length := if_pos (by rw [sizeL]; omega)
  have shf : ∀ {l : List Way} {M : Nat}, M ≤ 3 → WsOk N t.length M i l → l.length ≤ 500000 := fun hM h => ws_len tk.few tk.len hM h
  have filt : ∀ (found l : List Way), l.filterMap (fun o => if o ∈ found then none else some (wayE o)) = (newW found l).map wayE := fun found l => by
    unfold newW
    rw [← List.filterMap_eq_map, List.filterMap_filter]
    congr 1
    funext o
    by_cases c : o ∈ found <;> simp [c]
  cases p with
  | sign s =>
    rw [penc_sign]
    refine t_tagT rfl rfl (iteT ?_)
    simp
    refine ⟨_, lz, ?_⟩
    rw [goesF] at q
    by_cases c : i < t.length
    · refine .inr ⟨c, by rw [sizeL]; omega, ?_⟩
      have es : sees t i s = inS (cutS t (some (i : Int)) (some ((i : Int) + 1))) s := by
        unfold sees
        rw [decide_eq_true c, Bool.true_and]
      rw [← es]
      cases hs : sees t i s with
      | false =>
        rw [hs] at q
        exact ⟨0, rfl, by decide, by decide, q⟩
      | true =>
        rw [hs] at q
        exact ⟨1, rfl, by decide, by decide, q⟩
    · have es : sees t i s = false := by
        unfold sees
        rw [decide_eq_false c, Bool.false_and]
      rw [es] at q
      exact .inl ⟨by omega, 0, rfl, by decide, by decide, q⟩
  | row ps =>
    rw [penc_row]
    refine t_tagF rfl (ns (by decide)) (iteF (t_tagT rfl rfl (iteT ?_)))
    simp
    refine loop_inv (fun (l : List Pat) ρ => ∃ (acc : List Way) (M : Nat) (s1 : Sl), ρ = [.da (.tuple [.str "row", .tuple (ps.map Pat.enc)]), .da (.str t), .da (.int (i : Nat)), .da (.list (acc.map wayE)), s1, .no, .no, .no, .no, .no, .no] ∧
      WsOk N t.length M i acc ∧ M + mmS l ≤ 3 ∧ goesR t l acc = goesF t (.row ps) i ∧ ∀ p ∈ l, pok N d p) ⟨[(i, [])], 0, .no, rfl, wsok_one hi, by rw [Pat.mm] at hm; omega, by rw [goesF], hp.2.2⟩ ?_ ?_
    · rintro p l ρ ⟨acc, M, s1, e, h1, h2, h3, h4⟩ hk C hC
      subst e
      rw [mmS] at h2
      have hp1 := h4 p List.mem_cons_self
      simp
      refine ⟨N, p, t, i, M, acc, rfl, hp1, tk, h1, by omega, hC _ ⟨thenF (goesF t p) acc, M + p.mm, _, rfl, wsok_then (fun e he => (goes_ok d p e hp1 he).1) h1.1, by omega, by rw [← h3, goesR], fun q hq => h4 q (List.mem_cons_of_mem _ hq)⟩⟩
    · rintro ρ ⟨acc, M, s1, e, h1, h2, h3, h4⟩
      subst e
      rw [goesR] at h3
      subst h3
      simp
      exact q
  | any ps =>
    rw [penc_any]
    refine t_tagF rfl (ns (by decide)) (iteF (t_tagF rfl (ns (by decide)) (iteF (t_tagT rfl rfl (iteT ?_)))))
    simp
    rw [Pat.mm] at hm
    refine loop_inv (fun (l : List Pat) ρ => ∃ (acc : List Way) (s1 : Sl), ρ = [.da (.tuple [.str "any", .tuple (ps.map Pat.enc)]), .da (.str t), .da (.int (i : Nat)), .da (.list (acc.map wayE)), s1, .no, .no, .no, .no, .no, .no] ∧
      WsOk N t.length 3 i acc ∧ mmX l ≤ 3 ∧ goesA t l i acc = goesF t (.any ps) i ∧ ∀ p ∈ l, pok N d p) ⟨[], .no, rfl, wsok_nil, hm, by rw [goesF], hp.2.2⟩ ?_ ?_
    · rintro p l ρ ⟨acc, s1, e, h1, h2, h3, h4⟩ hk C hC
      subst e
      rw [mmX] at h2
      have hp1 := h4 p List.mem_cons_self
      have g1 := (goes_ok d p i hp1 hi).mono (M' := 3) (by omega)
      have ga := shf (Nat.le_refl 3) g1
      have aa := shf (Nat.le_refl 3) h1
      simp
      refine ⟨N, p, t, i, rfl, hp1, by omega, tk, hi, _, rfl, by simp; omega, ?_⟩
      refine lc_map (F := fun o => if o ∈ acc then none else some (wayE o)) (g := wayE) (l := goesF t p i) (fun o ho C2 hC2 => ?_) ?_
      · obtain ⟨i1, i2⟩ := in_ways (w := o) (l := acc) (tk.ways g1.1 o ho) (tk.ways h1.1)
        simp
        refine ⟨i1, ?_⟩
        rw [i2]
        by_cases c : o ∈ acc
        · rw [if_pos c] at hC2
          exact .inl ⟨decide_eq_true c, hC2⟩
        · rw [if_neg c] at hC2
          exact .inr ⟨decide_eq_false c, hC2⟩
      · rw [filt]
        have nl : (newW acc (goesF t p i)).length ≤ (goesF t p i).length := List.length_filter_le _ _
        simp
        rw [← List.map_append]
        exact ⟨by rw [sizeL]; omega, hC _ ⟨acc ++ newW acc (goesF t p i), _, rfl, wsok_new h1 g1, by omega, by rw [← h3, goesA], fun q hq => h4 q (List.mem_cons_of_mem _ hq)⟩⟩
    · rintro ρ ⟨acc, s1, e, h1, h2, h3, h4⟩
      subst e
      rw [goesA] at h3
      subst h3
      simp
      exact q
  | rep lo hi2 p =>
    rw [penc_rep]
    refine t_tagF rfl (ns (by decide)) (iteF (t_tagF rfl (ns (by decide)) (iteF (t_tagF rfl (ns (by decide)) (iteF (t_tagF rfl (ns (by decide)) (iteF ?_)))))))
    simp
    rw [Pat.mm] at hm
    rw [goesF] at q
    obtain ⟨_, hlo, hhi, hp2⟩ := hp
    obtain ⟨x0, k0, e1, e2, e3, hx0, ek⟩ : ∃ (x k0 : Nat), toInt (.bool (lo == 0)) = some (x : Int) ∧ x ≤ 1000 ∧ (List.replicate x (wayE (i, []))) = (if lo = 0 then [(i, [])] else ([] : List Way)).map wayE ∧ k0 = (if hi2 = some 1 then 1 else t.length + 1) ∧ k0 * p.mm ≤ 3 := by
      have hk0 : (if hi2 = some 1 then 1 else t.length + 1) * p.mm ≤ 3 := by
        rcases hhi with ⟨e, hm0⟩ | e
        · rw [mm_none hm0]; omega
        · rw [e, if_pos rfl]; omega
      rcases hlo with rfl | rfl
      · exact ⟨1, _, rfl, by decide, rfl, rfl, hk0⟩
      · exact ⟨0, _, rfl, by decide, rfl, rfl, hk0⟩
    refine ⟨(x0 : Int), e1, by omega, by omega, _, lz, ?_, ?_⟩
    · rcases hhi with ⟨rfl, hm0⟩ | rfl <;> exact .inl rfl
    have sel : ∃ x2, toInt (.bool (PyData.eqv (hiD hi2) (.int 1))) = some x2 ∧ atI [PyData.int (((t.length : Nat) : Int) + 1), PyData.int 1] x2 = some (.int (k0 : Nat)) := by
      rcases hhi with ⟨rfl, hm0⟩ | rfl
      · refine ⟨0, by simp [hiD]; rfl, ?_⟩
        rw [hx0]
        simp
      · refine ⟨1, by simp [hiD]; rfl, ?_⟩
        rw [hx0]
        simp
    obtain ⟨x2, e4, e5⟩ := sel
    refine ⟨x2, e4, _, e5, _, rfl, by omega, ?_, ?_⟩
    · have : k0 ≤ 5 := by rw [hx0]; split <;> omega
      omega
    rw [Int.toNat_natCast, Int.toNat_natCast, show PyData.tuple [.int (i : Nat), .tuple []] = wayE (i, []) from rfl, e3]
    refine loop_inv (g := fun j : Nat => PyData.int (j : Nat)) (l := List.range k0) (fun (l : List Nat) ρ => ∃ (last found : List Way) (M1 : Nat) (s1 : Sl), ρ = [Sl.da (PyData.tuple [PyData.str (Str.ofString "some"), PyData.int lo, hiD hi2, p.enc]), Sl.da (PyData.str t), Sl.da (PyData.int (i : Nat)), Sl.da (PyData.list (found.map wayE)), Sl.no, Sl.no, Sl.no, Sl.no, Sl.no, Sl.da (PyData.list (last.map wayE)), s1] ∧
      WsOk N t.length M1 i last ∧ M1 + l.length * p.mm ≤ 3 ∧ WsOk N t.length 3 i found ∧ turns (goesF t p) l.length last found = turns (goesF t p) (if hi2 = some 1 then 1 else t.length + 1) [(i, [])] (if lo = 0 then [(i, [])] else []))
      ⟨[(i, [])], _, 0, .no, rfl, wsok_one hi, by rw [List.length_range]; omega, by split; exact wsok_one hi; exact wsok_nil, by rw [List.length_range, hx0]⟩ ?_ ?_
    · rintro j l ρ ⟨last, found, M1, s1, e, h1, h2, h3, h4⟩ hk C hC
      subst e
      rw [List.length_cons, Nat.succ_mul] at h2
      have g1 := wsok_then (M1 := M1) (i := i) (fun e he => (goes_ok d p e hp2 he).1) h1.1
      have g3 := g1.mono (M' := 3) (by omega)
      have ga := shf (Nat.le_refl 3) g3
      have aa := shf (Nat.le_refl 3) h3
      simp
      refine ⟨N, p, t, i, M1, last, rfl, hp2, tk, h1, by omega, _, rfl, by simp; omega, ?_⟩
      refine lc_map (F := fun o => if o ∈ found then none else some (wayE o)) (g := wayE) (l := thenF (goesF t p) last) (fun o ho C2 hC2 => ?_) ?_
      · obtain ⟨i1, i2⟩ := in_ways (w := o) (l := found) (tk.ways g3.1 o ho) (tk.ways h3.1)
        simp
        refine ⟨i1, ?_⟩
        rw [i2]
        by_cases c : o ∈ found
        · rw [if_pos c] at hC2
          exact .inl ⟨decide_eq_true c, hC2⟩
        · rw [if_neg c] at hC2
          exact .inr ⟨decide_eq_false c, hC2⟩
      · rw [filt]
        have nl : (newW found (thenF (goesF t p) last)).length ≤ (thenF (goesF t p) last).length := List.length_filter_le _ _
        simp
        rw [← List.map_append]
        exact ⟨by rw [sizeL]; omega, hC _ ⟨thenF (goesF t p) last, found ++ newW found (thenF (goesF t p) last), M1 + p.mm, _, rfl, g1, by omega, wsok_new h3 g3, by rw [← h4]; rfl⟩⟩
    · rintro ρ ⟨last, found, M1, s1, e, h1, h2, h3, h4⟩
      subst e
      rw [← h4] at q
      simp
      exact q
  | mark n p =>
    rw [penc_mark]
    refine t_tagF rfl (ns (by decide)) (iteF (t_tagF rfl (ns (by decide)) (iteF (t_tagF rfl (ns (by decide)) (iteF (t_tagT rfl rfl (iteT ?_)))))))
    simp
    rw [Pat.mm] at hm
    rw [goesF] at q
    have g1 := goes_ok d p i hp.2.2 hi
    have ga := shf (by omega) g1
    refine ⟨N, p, t, i, rfl, hp.2.2, by omega, tk, hi, _, rfl, by simp; omega, ?_⟩
    refine lc_map (F := fun o => some (wayE (o.1, sortP (o.2 ++ [(n, i, o.1)])))) (g := wayE) (l := goesF t p i) (fun o ho C2 hC2 => ?_) ?_
    · obtain ⟨oe, op⟩ := o
      have ol : op.length ≤ p.mm := (g1.1 _ ho).len
      simp [wayE]
      have ep : PyData.tuple [.str n, .int (i : Nat), .int (oe : Nat)] = pcE (n, i, oe) := rfl
      rw [ep, show op.map pcE ++ [pcE (n, i, oe)] = (op ++ [(n, i, oe)]).map pcE by simp, sort_pcs]
      exact ⟨by rw [sizeL]; omega, sortok_pcs _, by omega, hC2⟩
    · rw [List.map_map] at q
      rw [List.filterMap_eq_map']
      exact q
theorem c_goes (W : Wd K mg) : ∀ d, Con P w K mg base "_law_goes" (2 * d + 3) (spP 3 (WGoes d))
  | 0 => by
    obtain ⟨f, fd, hm, F⟩ := W.at_ 39 (x := "_law_goes") (j := 81)
    exact con_none F hm (ps := ["_law_pattern", "_law_text", "_law_at_here"]) rfl (fun _ _ _ _ _ _ us hl => match us, hl with | [_, _, _], _ => rfl) fun ds Φ ⟨_, _, _, _, _, h, _⟩ => h
  | d + 1 => by
    have h1 := c_goes W d
    have h2 := c_then W h1 (by omega)
    exact (c_goes_step W (h1.mono (Nat.le_succ _)) h2 (by omega)).mono (by omega)
end
end MP
-- PF2
/-! The walks: the law's own marks of a row, its rank. -/
namespace MP
open PySem PySem.Spec PyProof.Rows L2 MH LamX
/-- rows: for each name a piece or none -/
abbrev Row := List (Option (Nat × Nat))
def spE : Option (Nat × Nat) → Dt
  | none => .none
  | some p => .tuple [.int (p.1 : Nat), .int (p.2 : Nat)]
def rowE (r : Row) : Dt := .tuple (r.map spE)
abbrev Mk := Str × Nat
def mkE (x : Mk) : Dt := .tuple [.str x.1, .int (x.2 : Nat)]
def mkOne (k : Nat) (p : Str × Option (Nat × Nat)) : List Mk := match p.2 with
  | none => []
  | some q => (if q.1 = k then [(p.1, 0)] else []) ++ (if q.2 = k then [(p.1, 1)] else [])
def mksR (ns : List Str) (r : Row) (k : Nat) : List Mk := ((ns.zip r).map (mkOne k)).flatten
def mksD (ns : List Str) (r : Row) (k : Nat) : List Dt := sortD ((mksR ns r k).map mkE)
theorem sortok_mks (l : List Mk) : SortOk (l.map mkE) := by
  refine ⟨PySem.W.AllAlike.of fun a b => ?_, PySem.W.Sortable.tuples fun a => ⟨_, _, rfl⟩, fun d hd => ?_⟩
  · simp [mkE, PySem.W.alike, PySem.W.alikeAll]
  · obtain ⟨x, _, rfl⟩ := List.mem_map.mp hd
    simp [mkE, PyData.depth, PyData.depthAll]
theorem zip_row (ns : List Str) (r : Row) : zipD (stsD ns) (r.map spE) = (ns.zip r).map fun p => .tuple [.str p.1, spE p.2] := by
  unfold zipD stsD
  rw [List.zip_map, List.map_map]
  rfl
theorem mksR_len (ns : List Str) (r : Row) (k : Nat) : (mksR ns r k).length ≤ 2 * ns.length := by
  have h := flat_len (K := 2) (ls := (ns.zip r).map (mkOne k)) fun l hl => by
    obtain ⟨p, _, rfl⟩ := List.mem_map.mp hl
    unfold mkOne
    cases p.2 with
    | none => simp
    | some q => simp only [List.length_append]; split <;> split <;> simp
  rw [List.length_map, List.length_zip] at h
  unfold mksR
  have : 2 * min ns.length r.length ≤ 2 * ns.length := Nat.mul_le_mul_left _ (Nat.min_le_left _ _)
  omega
section
variable {P : Program} {w : World} {K : PySem.W.Frag} {mg : Str → Option Value} {base : Heap}
def WMarks : List Dt → (Dt → Prop) → Prop := fun ds Φ => ∃ (ns : List Str) (r : Row) (k : Nat), ds = [rowE r, .list (stsD ns), .int (k : Nat)] ∧ ns.length ≤ 10 ∧ Φ (.tuple (mksD ns r k))
theorem sc__law_marks : FnScope ["_law_row", "_law_names_here", "_law_place", "_law_found", "_law_name", "_law_span"] ["_law_row", "_law_names_here", "_law_place"] (defScope (top 83)) := ⟨rfl, rfl, rfl, by decide +kernel, rfl, by decide +kernel, by decide +kernel⟩
theorem c_marks (W : Wd K mg) : Con P w K mg base "_law_marks" 3 (spP 3 WMarks) := by
  obtain ⟨f, fd, hm, F⟩ := W.at_ 41 (x := "_law_marks") (j := 83)
  refine con_of F hm sc__law_marks rfl (fun _ _ _ _ _ _ us hl => match us, hl with | [_, _, _], _ => rfl) fun cdv A outer s H E hr => ⟨_, _,
      (dss_cons (ds_setO (i := 3) (fe_lst da_nil) sc__law_marks.nd)
      (dss_cons (ds_for PassesOwn.never rfl (di_zipLT W.z_zip (dv 1) (dv 0)) (dg_tup (n := 2) rfl (dgs_cons (dg_name (i := 4) sc__law_marks.nd) (dgs_cons (dg_name (i := 5) sc__law_marks.nd) dgs_nil))) (dss_cons (ds_if (dw_and (dt_cmp op_notN rd_isNot (dv 5) de_non) (dw_and1 (dt_cmp (op_eqA (hu64 hr)) rd_eq (de_ix (dv 5) de_int) (dv 2)))).dt (dss_one (ds_append (i := 3) (de_tup (da_cons (dv 4) (da_cons de_int da_nil))))) dss_nil)
      (dss_one (ds_if (dw_and (dt_cmp op_notN rd_isNot (dv 5) de_non) (dw_and1 (dt_cmp (op_eqA (hu64 hr)) rd_eq (de_ix (dv 5) de_int) (dv 2)))).dt (dss_one (ds_append (i := 3) (de_tup (da_cons (dv 4) (da_cons de_int da_nil))))) dss_nil))))
      (dss_one (ds_pub 3 (ds_ret (de_callTy call_tuple_of rd_tuple (by rfl) W.z_tuple PyProof.Rows.boot_tuple (da_cons (FE.de (fe_sorted rfl (hu64 hr) W.z_sorted (dv 3))) da_nil))))))), fun ds Φ hl hW => ?_⟩
  obtain ⟨ns, r, k, e, hn, q⟩ := hW
  subst e
  have hz := mksR_len ns r k
  simp [rowE]
  rw [zip_row]
  refine loop_inv (l := ns.zip r) (fun (l : List (Str × Option (Nat × Nat))) ρ => ∃ (acc : List Mk) (s1 s2 : Sl), ρ = [.da (.tuple (r.map spE)), .da (.list (stsD ns)), .da (.int (k : Nat)), .ow (acc.map mkE), s1, s2] ∧ acc ++ ((l.map (mkOne k)).flatten) = mksR ns r k) ⟨[], .no, .no, rfl, rfl⟩ ?_ ?_
  · rintro ⟨x, sp⟩ l ρ ⟨acc, s1, s2, e, h1⟩ hk C hC
    subst e
    have hl2 := congrArg List.length h1
    rw [List.map_cons, List.flatten_cons, List.length_append, List.length_append] at hl2
    have nx := hC [.da (.tuple (r.map spE)), .da (.list (stsD ns)), .da (.int (k : Nat)), .ow ((acc ++ mkOne k (x, sp)).map mkE), .da (.str x), .da (spE sp)] ⟨_, _, _, rfl, by rw [← h1]; simp⟩
    cases sp with
    | none =>
      simp [mkOne, spE] at nx ⊢
      exact nx
    | some q =>
      obtain ⟨b, e⟩ := q
      have mk0 : ∀ i : Nat, PyData.tuple [.str x, .int (i : Nat)] = mkE (x, i) := fun _ => rfl
      by_cases c1 : b = k
      · by_cases c2 : e = k
        · simp [mkOne, spE, mkE, c1, c2] at nx hl2 ⊢
          exact ⟨by rw [sizeL]; omega, by rw [sizeL]; omega, nx⟩
        · have c2' : ¬ ((e : Int) = (k : Int)) := by omega
          simp [mkOne, spE, mkE, c1, c2, c2'] at nx hl2 ⊢
          exact ⟨by rw [sizeL]; omega, nx⟩
      · have c1' : ¬ ((b : Int) = (k : Int)) := by omega
        by_cases c2 : e = k
        · simp [mkOne, spE, mkE, c1, c1', c2] at nx hl2 ⊢
          exact ⟨by rw [sizeL]; omega, nx⟩
        · have c2' : ¬ ((e : Int) = (k : Int)) := by omega
          simp [mkOne, spE, mkE, c1, c2, c1', c2'] at nx hl2 ⊢
          exact nx
  · rintro ρ ⟨acc, s1, s2, e, h1⟩
    subst e
    have h1 : acc = mksR ns r k := by simpa using h1
    subst h1
    simp
    exact ⟨sortok_mks _, by omega, q⟩
theorem mks_mem {ns : List Str} {r : Row} {k : Nat} : ∀ x ∈ mksR ns r k, x.1 ∈ ns := by
  intro x hx
  obtain ⟨l, hl, hxl⟩ := List.mem_flatten.mp hx
  obtain ⟨p, hp, rfl⟩ := List.mem_map.mp hl
  have h1 : p.1 ∈ ns := (List.of_mem_zip hp).1
  have h2 : x.1 = p.1 := by
    unfold mkOne at hxl
    cases hq : p.2 with
    | none => rw [hq] at hxl; cases hxl
    | some q =>
      rw [hq] at hxl
      rcases List.mem_append.mp hxl with h | h
      · split at h
        · rw [List.mem_singleton.mp h]
        · cases h
      · split at h
        · rw [List.mem_singleton.mp h]
        · cases h
  rw [h2]
  exact h1
theorem shp_mks {ns : List Str} (h : ∀ n ∈ ns, sOk n) (r : Row) (k : Nat) : SeqAt.shaped (.tuple (mksD ns r k)) = true := by
  have e : ∃ l : List Mk, mksD ns r k = l.map mkE ∧ ∀ x ∈ l, x.1 ∈ ns := by
    refine ⟨(mksR ns r k).mergeSort fun a b => leD (mkE a) (mkE b), ?_, fun x hx => mks_mem x ((List.mergeSort_perm _ _).mem_iff.mp hx)⟩
    exact (List.map_mergeSort (r := fun a b => leD (mkE a) (mkE b)) (s := leD) (f := mkE) (l := mksR ns r k) fun a _ b _ => rfl).symm
  obtain ⟨l, e, hl⟩ := e
  obtain ⟨h1, h2⟩ := lay_map (l := l) (g := mkE) (D := 1) fun x hx => by
    have h3 : PyData.strOk x.1 = true := (h x.1 (hl x hx)).2
    simp [mkE, PyData.canLay0, PyData.canLayAll0, PyData.depth, PyData.depthAll, h3]
  rw [e]
  unfold SeqAt.shaped
  simp [PyData.canLay0, PyData.depth, h1]
  omega
def rankD (ns : List Str) (r : Row) (n : Nat) : Dt := .list ((List.range n).map fun k => .tuple [.int (if mksD ns r k = [] then 1 else 0), .tuple (mksD ns r k)])
def WRank : List Dt → (Dt → Prop) → Prop := fun ds Φ => ∃ (ns : List Str) (r : Row) (n : Nat), ds = [rowE r, .list (stsD ns), .int (n : Nat)] ∧ ns.length ≤ 10 ∧ n ≤ 10 ∧ (∀ n ∈ ns, sOk n) ∧ Φ (rankD ns r (n + 1))
theorem sc__law_rank : FnScope ["_law_row", "_law_names_here", "_law_size", "_law_found", "_law_place", "_law_marks_here"] ["_law_row", "_law_names_here", "_law_size"] (defScope (top 84)) := ⟨rfl, rfl, rfl, by decide +kernel, rfl, by decide +kernel, by decide +kernel⟩
theorem c_rank (W : Wd K mg) : Con P w K mg base "_law_rank" 5 (spP 3 WRank) := by
  have h__law_marks := c_marks (P := P) (w := w) (base := base) W
  obtain ⟨f, fd, hm, F⟩ := W.at_ 42 (x := "_law_rank") (j := 84)
  refine con_of F hm sc__law_rank rfl (fun _ _ _ _ _ _ us hl => match us, hl with | [_, _, _], _ => rfl) fun cdv A outer s H E hr => ⟨_, _,
      (dss_cons (ds_setO (i := 3) (fe_lst da_nil) sc__law_rank.nd)
      (dss_cons (ds_for PassesOwn.never rfl (di_range W.z_range (de_op op_add rd_rI0 (dv 2) de_int)) (dg_name (i := 4) sc__law_rank.nd) (dss_cons (ds_set (i := 5) (de_call h__law_marks (hr.mono (by omega)) (da_cons (dv 0) (da_cons (dv 1) (da_cons (dv 4) da_nil)))) sc__law_rank.nd)
      (dss_one (ds_append (i := 3) (de_tup (da_cons (de_callTy call_int1 rd_int (by rfl) W.z_int PyProof.Rows.boot_int (da_cons (de_cmp (op_eqA (hu64 hr)) rd_eq (dv 5) (de_tup da_nil)) da_nil)) (da_cons (dv 5) da_nil)))))))
      (dss_one (ds_pub 3 (ds_ret (dv 3)))))), fun ds Φ hl hW => ?_⟩
  obtain ⟨ns, r, n, e, hn, hn2, hso, q⟩ := hW
  subst e
  simp
  refine ⟨by omega, by omega, ?_⟩
  refine loop_inv (g := fun k : Nat => PyData.int (k : Nat)) (l := List.range (n + 1)) (fun (l : List Nat) ρ => ∃ (done : List Nat) (s1 s2 : Sl), ρ = [.da (rowE r), .da (.list (stsD ns)), .da (.int (n : Nat)), .ow (done.map fun k => .tuple [.int (if mksD ns r k = [] then 1 else 0), .tuple (mksD ns r k)]), s1, s2] ∧ done ++ l = List.range (n + 1)) ⟨[], .no, .no, rfl, rfl⟩ ?_ ?_
  · rintro k l ρ ⟨done, s1, s2, e, h1⟩ hk C hC
    subst e
    have hl2 := congrArg List.length h1
    rw [List.length_append, List.length_range, List.length_cons] at hl2
    have nx := hC [.da (rowE r), .da (.list (stsD ns)), .da (.int (n : Nat)), .ow ((done ++ [k]).map fun k => .tuple [.int (if mksD ns r k = [] then 1 else 0), .tuple (mksD ns r k)]), .da (.int (k : Nat)), .da (.tuple (mksD ns r k))] ⟨_, _, _, rfl, by rw [← h1]; simp⟩
    simp
    have ev : PyData.eqv (.tuple (mksD ns r k)) (.tuple []) = decide (mksD ns r k = []) := by
      cases hd : mksD ns r k with
      | nil => simp [PyData.eqv, PyData.eqvAll]
      | cons a t => simp [PyData.eqv, PyData.eqvAll]
    refine ⟨ns, r, k, rfl, hn, .inr ⟨shp_mks hso r k, rfl⟩, _, by rw [ev]; rfl, by rw [sizeL]; omega, ?_⟩
    rw [List.map_append] at nx
    simpa using nx
  · rintro ρ ⟨done, s1, s2, e, h1⟩
    subst e
    rw [List.append_nil] at h1
    subst h1
    simp
    exact q
end
end MP
-- DS2
/-! Dicts, sorted by a key: words as rows for simp; what a dict holds. -/
namespace MP
open PySem PySem.Spec PyProof.Rows L2 LamX
section
variable {X : Cx} {e : Expr} {te : TE} {we : WE} {pos : Pos}
theorem dt_odIn {i : Nat} {x : Str} {px : Pos} (hu : X.A.units + 64 < cLine) (h : DE X e te we) (hN : X.N[i]? = some x := by rfl) (hv : Vis X.env.scope x := by first | exact Or.inl rfl | exact Or.inr (Or.inl rfl) | exact Or.inr (Or.inr rfl))
    (hd : (x == ("__debug__" : Str)) = false := by decide) (hcd : (x == ("__classdict__" : Str)) = false := by decide) : DT X (.Compare e [.In] [.Name x px] pos) (tB (tDIn te (tVar i))) (wTest (wOdIn i we)) := by
  refine ⟨pt_cmp (pc_din (by omega) h.pe (pe_var hN hv hd hcd)), fun B G H σ ρ xs Φ Q R q k => ?_⟩
  refine rd_odIn h.rd B G H σ ρ xs _ _ R q fun v d G' H' ρ' s' R' dn ⟨b, e1, h1⟩ => ?_
  subst e1
  cases dn
  exact ⟨b, rfl, k b G' H' ρ' s' R' h1⟩
end
section
variable {ρ : Ev} {Φ : Dt → Ev → Prop} {Ψ : List Dt → Ev → Prop} {D : DEnds} {we wi wa wb : WE} {w : WA} {i : Nat} {P : Program} {W : World}
@[simp] theorem s_odGet : wOdGet i we ρ Φ = ((∃ kvs, ρ[i]? = some (.od kvs)) ∧ we ρ fun d ρ1 => ∃ kvs x, ρ1[i]? = some (.od kvs) ∧ d = .str x ∧ Φ ((lkD kvs x).getD .none) ρ1) := rfl
@[simp] theorem s_odIx : wOdIx i we ρ Φ = ((∃ kvs, ρ[i]? = some (.od kvs)) ∧ we ρ fun d ρ1 => ∃ kvs x d', ρ1[i]? = some (.od kvs) ∧ d = .str x ∧ lkD kvs x = some d' ∧ Φ d' ρ1) := rfl
@[simp] theorem s_odIn : wOdIn i we ρ Φ = we ρ fun d ρ1 => ∃ kvs x, ρ1[i]? = some (.od kvs) ∧ d = .str x ∧ Φ (.bool (lkD kvs x).isSome) ρ1 := rfl
@[simp] theorem s_odSet : wOdSet i wi we D ρ = we ρ fun d ρ1 => (∃ kvs, ρ1[i]? = some (.od kvs)) ∧ wi ρ1 fun k ρ2 => ∃ kvs x, ρ2[i]? = some (.od kvs) ∧ k = .str x ∧ kvs.length < 10000 ∧ D.nx (ρ2.set i (.od (ptD kvs x d))) := rfl
@[simp] theorem s_setDZ : wSetDZ i wa wb D ρ = wa ρ fun x ρ1 => wb ρ1 fun y ρ2 => ∃ (zs : List Str) (ds : List Dt), x = .list (stsD zs) ∧ y = .tuple ds ∧ zs.length = ds.length ∧ zs.length ≤ 1000 ∧ D.nx (ρ2.set i (.od (mgD [] (zs.zip ds)))) := rfl
@[simp] theorem s_setDP : wSetDP i we D ρ = we ρ fun x ρ1 => ∃ (kvs : List (Str × Dt)), x = .list (kvs.map fun p => .tuple [.str p.1, p.2]) ∧ D.nx (ρ1.set i (.od (mgD [] kvs))) := rfl
@[simp] theorem s_odSort : wOdSort i ρ Ψ = ∃ kvs, ρ[i]? = some (.od kvs) ∧ (kvs.map (·.1)).Nodup ∧ kvs.length ≤ 4000 ∧ Ψ (stsD (sset (kvs.map (·.1)))) ρ := rfl
@[simp] theorem s_rdSet : wRdSet P W i we D ρ = ((∃ ks, ρ[i]? = some (.ob (OwR P W ks))) ∧ we ρ fun d ρ1 => ∃ ks k, ρ1[i]? = some (.ob (OwR P W ks)) ∧ d = k.data ∧ RowK k ∧ ks.length < 10000 ∧ D.nx (ρ1.set i (.ob (OwR P W (addK ks k))))) := rfl
@[simp] theorem s_rdList : wRdList P W i ρ Ψ = ∃ ks, ρ[i]? = some (.ob (OwR P W ks)) ∧ Ψ (ks.map NestedKey.data) ρ := rfl
@[simp] theorem s_callT {T : Addr} {Wc : List Dt → (Dt → Prop) → Prop} : wCallT T Wc w ρ Φ = w ρ fun ds ρ1 => (∃ j : Nat, ρ1[j]? = some (Sl.tb T lamQ)) ∧ Wc ds fun d => Φ d ρ1 := rfl
end
/-! ### what a dict holds -/
theorem lk_pt (kvs : List (Str × Dt)) (x y : Str) (d : Dt) : lkD (ptD kvs x d) y = if y = x then some d else lkD kvs y := by
  have mp : ∀ l : List (Str × Dt), ((l.map fun kv => if kv.1 = x then (kv.1, d) else kv).find? fun kv => decide (kv.1 = y)).map (·.2) = if y = x then ((l.find? fun kv => decide (kv.1 = y)).map fun _ => d) else (l.find? fun kv => decide (kv.1 = y)).map (·.2) := by
    intro l
    induction l with
    | nil => split <;> rfl
    | cons p l ih =>
      obtain ⟨k, v⟩ := p
      by_cases c : k = x
      · subst c
        by_cases c2 : k = y
        · subst c2; simp
        · have c3 : ¬ y = k := fun z => c2 z.symm
          simp [c2, c3] at ih ⊢
          exact ih
      · by_cases c2 : k = y
        · subst c2
          simp [c]
        · simp [c, c2] at ih ⊢
          exact ih
  unfold ptD
  by_cases c : (kvs.any fun kv => decide (kv.1 = x)) = true
  · rw [if_pos c]
    show ((kvs.map _).find? _).map _ = _
    rw [mp kvs]
    by_cases e : y = x
    · subst e
      rw [if_pos rfl, if_pos rfl]
      obtain ⟨p, hp, hx⟩ := List.any_eq_true.mp c
      cases hf : kvs.find? fun kv => decide (kv.1 = y) with
      | some q => rfl
      | none =>
        have := List.find?_eq_none.mp hf p hp
        exact absurd hx this
    · rw [if_neg e, if_neg e]
      rfl
  · rw [if_neg c]
    unfold lkD
    rw [List.find?_append]
    by_cases e : y = x
    · subst e
      rw [if_pos rfl]
      have : kvs.find? (fun kv => decide (kv.1 = y)) = none := by
        rw [List.find?_eq_none]
        intro p hp hx
        exact c (List.any_eq_true.mpr ⟨p, hp, hx⟩)
      rw [this]
      simp
    · rw [if_neg e]
      have : ¬ x = y := fun z => e z.symm
      simp [this]
/-- the last of a name -/
def lastD (more : List (Str × Dt)) (y : Str) : Option Dt := (more.reverse.find? fun kv => decide (kv.1 = y)).map (·.2)
theorem lk_mg (y : Str) : ∀ (more kvs : List (Str × Dt)), lkD (mgD kvs more) y = match lastD more y with
    | some d => some d
    | none => lkD kvs y
  | [], kvs => rfl
  | p :: more, kvs => by
    have e : mgD kvs (p :: more) = mgD (ptD kvs p.1 p.2) more := rfl
    rw [e, lk_mg y more, lk_pt]
    unfold lastD
    rw [List.reverse_cons, List.find?_append]
    cases hf : more.reverse.find? fun kv => decide (kv.1 = y) with
    | some q => simp
    | none =>
      by_cases c : y = p.1
      · subst c; simp
      · have : ¬ p.1 = y := fun z => c z.symm
        simp [c, this]
theorem keys_pt (kvs : List (Str × Dt)) (x : Str) (d : Dt) : (ptD kvs x d).map (·.1) = if x ∈ kvs.map (·.1) then kvs.map (·.1) else kvs.map (·.1) ++ [x] := by
  have mp : ∀ l : List (Str × Dt), (l.map fun kv => if kv.1 = x then (kv.1, d) else kv).map (·.1) = l.map (·.1) := by
    intro l
    rw [List.map_map]
    refine List.map_congr_left fun p _ => ?_
    show (if p.1 = x then (p.1, d) else p).1 = p.1
    split <;> rfl
  have hm : ((kvs.any fun kv => decide (kv.1 = x)) = true) ↔ x ∈ kvs.map (·.1) := by
    rw [List.any_eq_true, List.mem_map]
    simp
  unfold ptD
  by_cases c : x ∈ kvs.map (·.1)
  · rw [if_pos (hm.mpr c), if_pos c, mp]
  · rw [if_neg (fun z => c (hm.mp z)), if_neg c, List.map_append]
    rfl
theorem pt_nodup {kvs : List (Str × Dt)} (h : (kvs.map (·.1)).Nodup) (x : Str) (d : Dt) : ((ptD kvs x d).map (·.1)).Nodup ∧ ∀ k, k ∈ (ptD kvs x d).map (·.1) ↔ k ∈ kvs.map (·.1) ∨ k = x := by
  rw [keys_pt]
  by_cases c : x ∈ kvs.map (·.1)
  · rw [if_pos c]
    refine ⟨h, fun k => ⟨.inl, fun z => ?_⟩⟩
    rcases z with z | z
    · exact z
    · rw [z]; exact c
  · rw [if_neg c]
    refine ⟨?_, fun k => by rw [List.mem_append, List.mem_singleton]⟩
    rw [List.nodup_append]
    refine ⟨h, by simp, fun a ha b hb e => ?_⟩
    rw [List.mem_singleton.mp hb] at e
    exact c (e ▸ ha)
theorem mg_nodup : ∀ (more kvs : List (Str × Dt)), (kvs.map (·.1)).Nodup → ((mgD kvs more).map (·.1)).Nodup ∧ ∀ k, k ∈ (mgD kvs more).map (·.1) ↔ k ∈ kvs.map (·.1) ∨ k ∈ more.map (·.1)
  | [], kvs, h => ⟨h, fun k => by simp [mgD]⟩
  | p :: more, kvs, h => by
    have e : mgD kvs (p :: more) = mgD (ptD kvs p.1 p.2) more := rfl
    obtain ⟨h1, h2⟩ := pt_nodup h p.1 p.2
    obtain ⟨h3, h4⟩ := mg_nodup more _ h1
    rw [e]
    refine ⟨h3, fun k => ?_⟩
    rw [h4, h2, List.map_cons, List.mem_cons, or_assoc]
theorem lk_mem {kvs : List (Str × Dt)} {x : Str} : (lkD kvs x).isSome = decide (x ∈ kvs.map (·.1)) := by
  rw [Bool.eq_iff_iff]
  unfold lkD
  rw [Option.isSome_map, decide_eq_true_iff, List.find?_isSome, List.mem_map]
  simp
end MP
-- PF3
/-! The walks: the law's own rows. -/
namespace MP
open PySem PySem.Spec PyProof.Rows L2 MH LamX
def lkP (pcs : List Pc) (n : Str) : Option (Nat × Nat) := (pcs.reverse.find? fun x => decide (x.1 = n)).map (·.2)
def rowW (ns : List Str) (w : Way) : Row := ns.map (lkP w.2)
def addR (T : Nat) (ns : List Str) (acc : List Row) (w : Way) : List Row := if w.1 = T ∧ ¬ rowW ns w ∈ acc then acc ++ [rowW ns w] else acc
def rowsF (t : Str) (p : Pat) (ns : List Str) : List Row := (goesF t p 0).foldl (addR t.length ns) []
@[simp] theorem st2T (T : Addr) (n : Nat) (d e : Dt) : startT T (n + 2) [d, e] = .da d :: .da e :: List.replicate n (.tb T lamQ) := by simp [startT]
@[simp] theorem st3T (T : Addr) (n : Nat) (d e f : Dt) : startT T (n + 3) [d, e, f] = .da d :: .da e :: .da f :: List.replicate n (.tb T lamQ) := by simp [startT]
theorem rows_code {K : PySem.W.Frag} {mg : Str → Option Value} {base : Heap} {T f : Addr} {fd : FuncData} {params : Arguments} {body : List Stmt} {scope : Scope} {cdv : Value} (W : Wd K mg) (hT : TabB base mg (He.codeOf K ("_law_rows", none)) T)
    (F : FunD K "_law_rows" "_law_rows" params body scope [] [] f fd) (hm : mg "_law_rows" = some (.ref f)) (hcd : fd.code = cdv) (hcr : ∃ c, cdv = .ref c) : ∃ c, TabB base mg c T ∧ cdv = .ref c := by
  obtain ⟨c, rfl⟩ := hcr
  have e1 : f = He.fAd K ("_law_rows", none) := by
    have h1 := W.glo 43 (x := "_law_rows")
    rw [hm] at h1
    injection h1 with h1
    injection h1 with h1
  obtain ⟨oc, od, dV, kV, doc, pm, an, cdv, ct, osl, e0, lk, _, _, _⟩ := F.ex
  rw [e1] at lk
  have := He.codeOf_eq lk hcd
  rw [this] at hT
  exact ⟨c, hT, rfl⟩
/-! ### rows that a pattern tells -/
structure RWOk (T k : Nat) (r : Row) : Prop where
  len : r.length = k
  pcs : ∀ b e, some (b, e) ∈ r → b ≤ e ∧ e ≤ T
theorem lkP_mem {pcs : List Pc} {n : Str} {q : Nat × Nat} (h : lkP pcs n = some q) : ∃ x ∈ pcs, x.1 = n ∧ x.2 = q := by
  unfold lkP at h
  obtain ⟨x, hx, rfl⟩ := Option.map_eq_some_iff.mp h
  exact ⟨x, List.mem_reverse.mp (List.mem_of_find?_eq_some hx), by simpa using List.find?_some hx, rfl⟩
theorem rowW_ok {N ns : List Str} {T M i : Nat} {w : Way} (h : WOk N T M i w) : RWOk T ns.length (rowW ns w) := by
  refine ⟨by unfold rowW; rw [List.length_map], fun b e hb => ?_⟩
  unfold rowW at hb
  obtain ⟨n, _, e1⟩ := List.mem_map.mp hb
  obtain ⟨x, hx, _, e2⟩ := lkP_mem e1
  have := (h.pcs x hx).2
  rw [e2] at this
  exact this
def optU (T : Nat) : List (Option (Nat × Nat)) := none :: (ivs T).map some
theorem rows_len {T k : Nat} {l : List Row} (hT : T ≤ 4) (hk : k ≤ 3) (nd : l.Nodup) (h : ∀ r ∈ l, RWOk T k r) : l.length ≤ 4400 := by
  have h0 : (optU T).length ≤ 16 := by
    unfold optU
    rw [List.length_cons, List.length_map]
    have := ivs_len hT
    omega
  have k0 : (lsts (optU T) 0).length ≤ 1 := Nat.le_refl 1
  have k1 : (lsts (optU T) 1).length ≤ _ := lsts_len k0
  have k1 : (lsts (optU T) 1).length ≤ 17 := by omega
  have k2 : (lsts (optU T) 2).length ≤ _ := lsts_len k1
  have k2 : (lsts (optU T) 2).length ≤ 273 := by omega
  have k3 : (lsts (optU T) 3).length ≤ _ := lsts_len k2
  have k3 : (lsts (optU T) 3).length ≤ 4400 := by omega
  refine Nat.le_trans (nd.length_le_of_subset fun r hr => ?_) k3
  have g := h r hr
  refine mem_lsts (by rw [g.len]; exact hk) fun x hx => ?_
  unfold optU
  cases x with
  | none => exact List.mem_cons_self
  | some q =>
    obtain ⟨b, e⟩ := q
    obtain ⟨h1, h2⟩ := g.pcs b e hx
    exact List.mem_cons_of_mem _ (List.mem_map.mpr ⟨_, mem_ivs h1 h2, rfl⟩)
theorem eqv_sp (a b : Option (Nat × Nat)) : PyData.eqv (spE a) (spE b) = decide (a = b) := by
  cases a with
  | none =>
    cases b with
    | none => simp [spE, PyData.eqv]
    | some q => simp [spE, PyData.eqv]
  | some p =>
    cases b with
    | none => simp [spE, PyData.eqv]
    | some q =>
      obtain ⟨x, y⟩ := p
      obtain ⟨u, v⟩ := q
      rw [Bool.eq_iff_iff]
      simp [spE, PyData.eqv, PyData.eqvAll]
      omega
theorem eqv_row (a b : Row) : PyData.eqv (rowE a) (rowE b) = decide (a = b) := by
  unfold rowE
  rw [PyData.eqv, eqv_map eqv_sp]
theorem lay_sp (a : Option (Nat × Nat)) : PyData.canLay0 (spE a) = true ∧ (spE a).depth ≤ 1 := by
  cases a <;> simp [spE, PyData.canLay0, PyData.canLayAll0, PyData.depth, PyData.depthAll]
theorem lay_row (r : Row) : PyData.canLay0 (rowE r) = true ∧ (rowE r).depth ≤ 2 := by
  obtain ⟨h1, h2⟩ := lay_map (l := r) (g := spE) (D := 1) fun a _ => lay_sp a
  simp [rowE, PyData.canLay0, PyData.depth, h1]
  omega
theorem in_rows (r : Row) (l : List Row) : InOk (rowE r) (.list (l.map rowE)) ∧ inD (rowE r) (.list (l.map rowE)) = decide (r ∈ l) := by
  refine ⟨.inr ⟨?_, ?_⟩, ?_⟩
  · obtain ⟨h1, h2⟩ := lay_row r
    unfold SeqAt.shaped
    rw [h1]
    simp
    omega
  · obtain ⟨h1, h2⟩ := lay_map (l := l) (g := rowE) (D := 2) fun a _ => lay_row a
    unfold SeqAt.shaped
    simp [PyData.canLay0, PyData.depth, h1]
    omega
  · show (l.map rowE).any _ = _
    rw [Bool.eq_iff_iff]
    simp [eqv_row]
theorem alike_all {α β : Type} {f : α → Dt} {g : β → Dt} (h : ∀ a b, PySem.W.alike (f a) (g b) = true) : ∀ (l : List α) (m : List β), PySem.W.alikeAll (l.map f) (m.map g) = true
  | [], _ => by rw [List.map_nil, PySem.W.alikeAll]
  | _ :: _, [] => by rw [List.map_nil, List.map_cons, PySem.W.alikeAll]
  | a :: l, b :: m => by rw [List.map_cons, List.map_cons, PySem.W.alikeAll, h, alike_all h l m]; rfl
theorem mksD_map (ns : List Str) (r : Row) (k : Nat) : ∃ l : List Mk, mksD ns r k = l.map mkE :=
  ⟨(mksR ns r k).mergeSort fun a b => leD (mkE a) (mkE b), (List.map_mergeSort (r := fun a b => leD (mkE a) (mkE b)) (s := leD) (f := mkE) (l := mksR ns r k) fun a _ b _ => rfl).symm⟩
theorem mk_depth (l : List Mk) : PyData.depthAll (l.map mkE) ≤ 1 := by
  induction l with
  | nil => simp [PyData.depthAll]
  | cons a l ih =>
    rw [List.map_cons, PyData.depthAll]
    refine Nat.max_le.mpr ⟨?_, ih⟩
    simp [mkE, PyData.depth, PyData.depthAll]
theorem depth_map {α : Type} {g : α → Dt} {D : Nat} : ∀ {l : List α}, (∀ a ∈ l, (g a).depth ≤ D) → PyData.depthAll (l.map g) ≤ D
  | [], _ => by simp [PyData.depthAll]
  | a :: l, h => by
    rw [List.map_cons, PyData.depthAll]
    exact Nat.max_le.mpr ⟨h a List.mem_cons_self, depth_map (l := l) fun b hb => h b (List.mem_cons_of_mem _ hb)⟩
theorem sortok_ranks (ns : List Str) (n : Nat) (l : List Row) : SortOk (l.map fun r => rankD ns r n) := by
  refine ⟨PySem.W.AllAlike.of fun a b => ?_, PySem.W.Sortable.others fun a => ⟨(fun z => by cases z), (fun xs z => by cases z)⟩, fun d hd => ?_⟩
  · unfold rankD
    rw [PySem.W.alike]
    refine alike_all (fun i j => ?_) _ _
    obtain ⟨l1, e1⟩ := mksD_map ns a i
    obtain ⟨l2, e2⟩ := mksD_map ns b j
    rw [e1, e2]
    have : PySem.W.alikeAll (l1.map mkE) (l2.map mkE) = true := alike_all (fun x y => by simp [mkE, PySem.W.alike, PySem.W.alikeAll]) _ _
    simp [PySem.W.alike, PySem.W.alikeAll, this]
  · obtain ⟨r, _, rfl⟩ := List.mem_map.mp hd
    unfold rankD
    rw [PyData.depth]
    have : PyData.depthAll ((List.range n).map fun k => PyData.tuple [.int (if mksD ns r k = [] then 1 else 0), .tuple (mksD ns r k)]) ≤ 3 := depth_map fun k _ => by
      obtain ⟨l1, e1⟩ := mksD_map ns r k
      have := mk_depth l1
      rw [← e1] at this
      simp [PyData.depth, PyData.depthAll]
      omega
    omega
theorem perm_map {α β : Type} {f : α → β} {ys xs : List β} (h : ys.Perm xs) : ∀ {l : List α}, xs = l.map f → ∃ m : List α, m.Perm l ∧ ys = m.map f := by
  induction h with
  | nil =>
    intro l e
    have : l = [] := by simpa using e.symm
    subst this
    exact ⟨[], .nil, rfl⟩
  | cons x p ih =>
    intro l e
    cases l with
    | nil => cases e
    | cons a l =>
      rw [List.map_cons] at e
      injection e with e1 e2
      obtain ⟨m, h1, h2⟩ := ih e2
      exact ⟨a :: m, h1.cons a, by rw [List.map_cons, h2, e1]⟩
  | swap x y l2 =>
    intro l e
    match l, e with
    | [], e => cases e
    | [a], e => cases e
    | a :: b :: l, e =>
      rw [List.map_cons, List.map_cons] at e
      injection e with e1 e2
      injection e2 with e2 e3
      exact ⟨b :: a :: l, .swap _ _ _, by rw [List.map_cons, List.map_cons, e1, e2, e3]⟩
  | trans p q ih1 ih2 =>
    intro l e
    obtain ⟨m, h1, h2⟩ := ih2 e
    obtain ⟨m2, h3, h4⟩ := ih1 h2
    exact ⟨m2, h3.trans h1, h4⟩
theorem last_pcs (pcs : List Pc) (n : Str) : ((lkD (mgD [] (pcs.map fun x => (x.1, spE (some x.2)))) n).getD .none) = spE (lkP pcs n) := by
  rw [lk_mg]
  have e : lastD (pcs.map fun x => (x.1, spE (some x.2))) n = (lkP pcs n).map fun q => spE (some q) := by
    unfold lastD lkP
    rw [← List.map_reverse, List.find?_map, Option.map_map, Option.map_map]
    rfl
  rw [e]
  cases lkP pcs n with
  | none => rfl
  | some q => rfl
section
variable {P : Program} {w : World} {K : PySem.W.Frag} {mg : Str → Option Value} {base : Heap} {T : Addr}
def WRows : List Dt → (Dt → Prop) → Prop := fun ds Φ => ∃ (N : List Str) (p : Pat) (t : Str) (ns : List Str), ds = [p.enc, .list (stsD ns), .str t] ∧ pok N 12 p ∧ p.mm ≤ 3 ∧ TOk N t ∧ ns.length ≤ 3 ∧ (∀ n ∈ ns, n ∈ N) ∧ ∀ rs : List Row, rs.Perm (rowsF t p ns) → Φ (.list (rs.map rowE))
theorem sc__law_rows : FnScope ["_law_pattern", "_law_names_here", "_law_text", "_law_found", "_law_end", "_law_pieces", "_law_told", "_law_name", "_law_first", "_law_last", "_law_row", "_tb"] ["_law_pattern", "_law_names_here", "_law_text"] (defScope (top 85)) := ⟨rfl, rfl, rfl, by decide +kernel, rfl, by decide +kernel, by decide +kernel⟩
theorem c_rows (W : Wd K mg) (hT : TabB base mg (He.codeOf K ("_law_rows", none)) T) : Con P w K mg base "_law_rows" 40 (spT T 3 WRows) := by
  have h__law_goes := c_goes (P := P) (w := w) (base := base) W 12
  have h__law_rank := c_rank (P := P) (w := w) (base := base) W
  obtain ⟨f, fd, hm, F⟩ := W.at_ 43 (x := "_law_rows") (j := 85)
  refine con_ofT F hm sc__law_rows rfl (fun _ _ _ _ _ _ us hl => match us, hl with | [_, _, _], _ => rfl) fun cdv A outer s H E hcd hcr hr => ?_
  obtain ⟨c, TB, rfl⟩ : ∃ c, TabB base mg c T ∧ cdv = .ref c := rows_code W hT F hm hcd hcr
  refine ⟨_, _,
      (dss_cons (ds_setO (i := 3) (fe_lst da_nil) sc__law_rows.nd)
      (dss_cons (ds_for PassesOwn.never rfl (di_list (de_call h__law_goes (hr.mono (by omega)) (da_cons (dv 0) (da_cons (dv 2) (da_cons de_int da_nil))))) (dg_tup (n := 2) rfl (dgs_cons (dg_name (i := 4) sc__law_rows.nd) (dgs_cons (dg_name (i := 5) sc__law_rows.nd) dgs_nil))) (dss_cons (ds_setDP (i := 6) rfl sc__law_rows.nd W.z_dict (FE.de (fe_lc (own := [("_law_name", 7), ("_law_first", 8), ("_law_last", 9)]) rfl sc__law_rows.nd (di_tup (dv 5)) (blkOk_by (own := [("_law_name", 7), ("_law_first", 8), ("_law_last", 9)]) (N := ["_law_pattern", "_law_names_here", "_law_text", "_law_found", "_law_end", "_law_pieces", "_law_told", "_law_name", "_law_first", "_law_last", "_law_row", "_tb"]) (sc := defScope (top 85)) (by decide +kernel)) (fun _ _ _ _ _ => (DG.castK (dg_tup (n := 3) rfl (dgs_cons (dg_name (i := 7) sc__law_rows.nd) (dgs_cons (dg_name (i := 8) sc__law_rows.nd) (dgs_cons (dg_name (i := 9) sc__law_rows.nd) dgs_nil)))) (by dsimp only [Cx.blk] <;> rfl))) (fun _ _ _ _ _ => dts_nil) (fun _ _ _ _ _ => (DE.castK (de_tup (da_cons (dv 7) (da_cons (de_tup (da_cons (dv 8) (da_cons (dv 9) da_nil))) da_nil))) (by dsimp only [Cx.blk] <;> rfl))))))
      (dss_cons (ds_set (i := 10) (de_callTy call_tuple_of rd_tuple (by rfl) W.z_tuple PyProof.Rows.boot_tuple (da_cons (FE.de (fe_lc (own := [("_law_name", 7)]) rfl sc__law_rows.nd (di_list (dv 1)) (blkOk_by (own := [("_law_name", 7)]) (N := ["_law_pattern", "_law_names_here", "_law_text", "_law_found", "_law_end", "_law_pieces", "_law_told", "_law_name", "_law_first", "_law_last", "_law_row", "_tb"]) (sc := defScope (top 85)) (by decide +kernel)) (fun _ _ _ _ _ => (dg_name (i := 7) sc__law_rows.nd)) (fun _ _ _ _ _ => dts_nil) (fun _ _ _ _ _ => (DE.castK (de_odGet (i := 6) (hu64 hr) (dv 7)) (by dsimp only [Cx.blk] <;> rfl))))) da_nil)) sc__law_rows.nd)
      (dss_one (ds_if (dt_peek (dw_and (dt_cmp (op_eqA (hu64 hr)) rd_eq (dv 4) (de_callB call_len rd_len (by rfl) W.z_len boot_len (da_cons (dv 2) da_nil))) (dw_and1 (dt_cmp (op_notInA (hu65 hr)) rd_notIn (dv 10) (dv 3)))).dt) (dss_one (ds_append (i := 3) (dv 10))) dss_nil)))))
      (dss_one (ds_pub 3 (ds_ret (FE.de (fe_sortKey (i := 10) (k := 30) (dv 3) W.z_sorted TB rfl rfl (hr.mono (by omega)) (lamS1_by (sc := defScope (top 85)) (by decide +kernel)) sc__law_rows.nd rfl rfl (fun _ _ _ _ _ _ => rfl) (fun _ _ _ _ hr => (de_call h__law_rank (hr.mono (by omega)) (da_cons (dv 10) (da_cons (dv 1) (da_cons (de_callB call_len rd_len (by rfl) W.z_len boot_len (da_cons (dv 2) da_nil)) da_nil)))))))))))), fun ds Φ hl hW => ?_⟩
  obtain ⟨N, p, t, ns, e, hp, hm, tk, hn3, hnN, q⟩ := hW
  subst e
  simp
  have g1 := goes_ok 12 p 0 hp (Nat.zero_le t.length)
  have t4 := tk.len
  have lz : lenD (.str t) = some t.length := if_pos (by rw [sizeL]; omega)
  refine ⟨N, p, t, 0, rfl, hp, hm, tk, Nat.zero_le _, _, rfl, ?_⟩
  refine loop_inv (g := wayE) (l := goesF t p 0) (fun (l : List Way) ρ => ∃ (acc : List Row) (s4 s5 s6 s7 s8 s9 s10 : Sl), ρ = [.da p.enc, .da (.list (stsD ns)), .da (.str t), .ow (acc.map rowE), s4, s5, s6, s7, s8, s9, s10, .tb T lamQ] ∧
    l.foldl (addR t.length ns) acc = rowsF t p ns ∧ acc.Nodup ∧ ∀ r ∈ acc, RWOk t.length ns.length r) ⟨[], _, _, _, _, _, _, _, rfl, rfl, .nil, fun r hr => by cases hr⟩ ?_ ?_
  · rintro w l ρ ⟨acc, s4, s5, s6, s7, s8, s9, s10, e, h1, h2, h3⟩ hk C hC
    subst e
    have hw := g1.1 w hk
    obtain ⟨we, wp⟩ := w
    have hr3 := rowW_ok (ns := ns) hw
    have al := rows_len t4 hn3 h2 h3
    have wl : wp.length ≤ p.mm := hw.len
    simp [wayE]
    refine ⟨by omega, ?_⟩
    refine lc_map (F := fun x => some (.tuple [.str x.1, spE (some x.2)])) (g := pcE) (l := wp) (fun x hx C2 hC2 => ?_) ?_
    · simp [pcE]
      simpa [spE] using hC2
    refine ⟨wp.map fun x => (x.1, spE (some x.2)), by simp, ?_⟩
    simp
    refine ⟨by omega, ?_⟩
    refine lc_map (F := fun n => some (spE (lkP wp n))) (g := PyData.str) (l := ns) (fun x hx C2 hC2 => ?_) ?_
    · simp
      rw [last_pcs]
      exact hC2
    obtain ⟨i1, i2⟩ := in_rows (rowW ns (we, wp)) acc
    have er : PyData.tuple (ns.map fun n => spE (lkP wp n)) = rowE (rowW ns (we, wp)) := by
      unfold rowE rowW
      rw [List.map_map]
      rfl
    simp
    rw [er]
    refine ⟨_, lz, ?_⟩
    rw [List.foldl_cons] at h1
    have nx := fun (acc2 : List Row) (e : addR t.length ns acc (we, wp) = acc2) (n2 : acc2.Nodup) (o2 : ∀ r ∈ acc2, RWOk t.length ns.length r) (s4 s5 s6 s7 s8 s9 s10 : Sl) => hC [.da p.enc, .da (.list (stsD ns)), .da (.str t), .ow (acc2.map rowE), s4, s5, s6, s7, s8, s9, s10, .tb T lamQ] ⟨acc2, s4, s5, s6, s7, s8, s9, s10, rfl, by rw [← e]; exact h1, n2, o2⟩
    by_cases ce : we = t.length
    · refine .inr ⟨by rw [ce], i1, ?_⟩
      rw [i2]
      by_cases cm : rowW ns (we, wp) ∈ acc
      · exact .inl ⟨decide_eq_true cm, nx acc (by unfold addR; rw [if_neg]; exact fun z => z.2 cm) h2 h3 _ _ _ _ _ _ _⟩
      · refine .inr ⟨decide_eq_false cm, by rw [sizeL]; omega, ?_⟩
        have := nx (acc ++ [rowW ns (we, wp)]) (by unfold addR; rw [if_pos ⟨ce, cm⟩]) ?_ ?_ (Sl.da (PyData.int (we : Nat))) (Sl.da (PyData.tuple (List.map pcE wp))) (Sl.od (mgD [] (List.map (fun x => (x.fst, spE (some x.snd))) wp))) Sl.no Sl.no Sl.no (Sl.da (rowE (rowW ns (we, wp))))
        · rw [List.map_append] at this
          exact this
        · rw [List.nodup_append]
          refine ⟨h2, by simp, fun x hx y hy e => ?_⟩
          rw [List.mem_singleton.mp hy] at e
          exact cm (e ▸ hx)
        · intro r hr2
          rcases List.mem_append.mp hr2 with h | h
          · exact h3 r h
          · rw [List.mem_singleton.mp h]; exact hr3
    · exact .inl ⟨by omega, nx acc (by unfold addR; rw [if_neg]; exact fun z => ce z.1) h2 h3 _ _ _ _ _ _ _⟩
  · rintro ρ ⟨acc, s4, s5, s6, s7, s8, s9, s10, e, h1, h2, h3⟩
    subst e
    have h1 : acc = rowsF t p ns := h1
    have al := rows_len t4 hn3 h2 h3
    simp
    have nso : ∀ n ∈ ns, sOk n := fun n hn => tk.ok n (hnN n hn)
    refine ⟨_, rfl, _, rfl, by simp; omega, ⟨11, rfl⟩, acc.map (fun r => rankD ns r (t.length + 1)), by simp, sortok_ranks _ _ _, fun n x k hx hk => ?_, fun ys hp2 => ?_⟩
    · rw [List.getElem?_map] at hx hk
      cases hr2 : acc[n]? with
      | none => rw [hr2] at hx; cases hx
      | some r =>
        rw [hr2] at hx hk
        cases hx
        cases hk
        simp
        exact ⟨_, lz, ns, r, t.length, rfl, by omega, by omega, nso, rfl⟩
    · obtain ⟨rs, p1, e1⟩ := perm_map hp2 rfl
      rw [e1]
      rw [h1] at p1
      exact q rs p1
theorem rowsF_ok {N ns : List Str} {t : Str} {p : Pat} (hp : pok N 12 p) : (rowsF t p ns).Nodup ∧ ∀ r ∈ rowsF t p ns, RWOk t.length ns.length r := by
  have key : ∀ (l : List Way) (acc : List Row), (∀ w ∈ l, WOk N t.length p.mm 0 w) → acc.Nodup → (∀ r ∈ acc, RWOk t.length ns.length r) → (l.foldl (addR t.length ns) acc).Nodup ∧ ∀ r ∈ l.foldl (addR t.length ns) acc, RWOk t.length ns.length r := by
    intro l
    induction l with
    | nil => exact fun acc _ h1 h2 => ⟨h1, h2⟩
    | cons w l ih =>
      intro acc hl h1 h2
      rw [List.foldl_cons]
      have hr := rowW_ok (ns := ns) (hl w List.mem_cons_self)
      refine ih _ (fun x hx => hl x (List.mem_cons_of_mem _ hx)) ?_ ?_
      · unfold addR
        split
        · rename_i c
          rw [List.nodup_append]
          refine ⟨h1, by simp, fun x hx y hy e => ?_⟩
          rw [List.mem_singleton.mp hy] at e
          exact c.2 (e ▸ hx)
        · exact h1
      · unfold addR
        split
        · intro r hr2
          rcases List.mem_append.mp hr2 with h | h
          · exact h2 r h
          · rw [List.mem_singleton.mp h]; exact hr
        · exact h2
  exact key _ [] (goes_ok 12 p 0 hp (Nat.zero_le _)).1 .nil fun r hr => by cases hr
end
end MP
-- PF4
/-! The walks: two rows in one, rows padded, pieces that read the same. -/
namespace MP
open PySem PySem.Spec PyProof.Rows L2 MH LamX
@[simp] theorem st4 (n : Nat) (a b c d : Dt) : startE (n + 4) [a, b, c, d] = .da a :: .da b :: .da c :: .da d :: List.replicate n .no := by simp [startE]
@[simp] theorem st5 (n : Nat) (a b c d e : Dt) : startE (n + 5) [a, b, c, d, e] = .da a :: .da b :: .da c :: .da d :: .da e :: List.replicate n .no := by simp [startE]
/-- what a row tells of a name -/
def lkN (ns : List Str) (r : Row) (n : Str) : Option (Option (Nat × Nat)) := ((ns.zip r).reverse.find? fun p => decide (p.1 = n)).map (·.2)
def padF (ns : List Str) (r : Row) (all : List Str) : Row := all.map fun n => (lkN ns r n).join
def readsF (t : Str) (ns : List Str) (r : Row) (x y : Str) : Bool := match (lkN ns r x).join, (lkN ns r y).join with
  | some p, some q => cutS t (some (p.1 : Nat)) (some (p.2 : Nat)) == cutS t (some (q.1 : Nat)) (some (q.2 : Nat))
  | _, _ => false
def agree (ns : List Str) (r : Row) (os : List Str) (o : Row) : Prop := ∀ n ∈ ns, n ∈ os → lkN ns r n = lkN os o n
instance {ns : List Str} {r : Row} {os : List Str} {o : Row} : Decidable (agree ns r os o) := inferInstanceAs (Decidable (∀ n ∈ ns, n ∈ os → lkN ns r n = lkN os o n))
def withF (ns : List Str) (r : Row) (os : List Str) (o : Row) : Option Row := if agree ns r os o then some ((sset (ns ++ os)).map fun n => (if n ∈ ns then lkN ns r n else lkN os o n).join) else none
theorem lk_zip (ns : List Str) (r : Row) (n : Str) : lkD (mgD [] (ns.zip (r.map spE))) n = (lkN ns r n).map spE := by
  rw [lk_mg]
  have e : lastD (ns.zip (r.map spE)) n = (lkN ns r n).map spE := by
    unfold lastD lkN
    rw [show ns.zip (r.map spE) = (ns.zip r).map fun p => (p.1, spE p.2) from by rw [List.zip_map_right]; rfl, ← List.map_reverse, List.find?_map, Option.map_map, Option.map_map]
    rfl
  rw [e]
  cases lkN ns r n with
  | none => rfl
  | some q => rfl
theorem lkN_some {ns : List Str} {r : Row} {n : Str} (h : r.length = ns.length) (hn : n ∈ ns) : ∃ s, lkN ns r n = some s := by
  unfold lkN
  cases hf : (ns.zip r).reverse.find? fun p => decide (p.1 = n) with
  | some p => exact ⟨p.2, rfl⟩
  | none =>
    obtain ⟨i, hi, rfl⟩ := List.getElem_of_mem hn
    have := List.find?_eq_none.mp hf (ns[i], r[i]) (List.mem_reverse.mpr (List.mem_iff_getElem.mpr ⟨i, by rw [List.length_zip]; omega, by simp⟩))
    simp at this
theorem lkN_none {ns : List Str} {r : Row} {n : Str} (hn : ¬ n ∈ ns) : lkN ns r n = none := by
  unfold lkN
  rw [Option.map_eq_none_iff, List.find?_eq_none]
  intro p hp
  have h1 := List.of_mem_zip (a := p.1) (b := p.2) (List.mem_reverse.mp hp)
  simp
  rintro rfl
  exact hn h1.1
theorem lkN_mem {ns : List Str} {r : Row} {n : Str} {s : Option (Nat × Nat)} (h : lkN ns r n = some s) : n ∈ ns ∧ s ∈ r := by
  unfold lkN at h
  obtain ⟨p, hp, rfl⟩ := Option.map_eq_some_iff.mp h
  have h1 := List.of_mem_zip (a := p.1) (b := p.2) (List.mem_reverse.mp (List.mem_of_find?_eq_some hp))
  have h2 := List.find?_some hp
  simp at h2
  rw [← h2]
  exact h1
/-- a name that stands once -/
theorem lkN_zip {ns : List Str} {r : Row} {n : Str} {s : Option (Nat × Nat)} (nd : ns.Nodup) (h : (n, s) ∈ ns.zip r) : lkN ns r n = some s := by
  unfold lkN
  cases hf : (ns.zip r).reverse.find? fun p => decide (p.1 = n) with
  | none =>
    have := List.find?_eq_none.mp hf (n, s) (List.mem_reverse.mpr h)
    simp at this
  | some p =>
    have h1 := List.mem_reverse.mp (List.mem_of_find?_eq_some hf)
    have h2 := List.find?_some hf
    simp at h2
    obtain ⟨i, hi, ei⟩ := List.mem_iff_getElem.mp h
    obtain ⟨j, hj, ej⟩ := List.mem_iff_getElem.mp h1
    rw [List.getElem_zip] at ei ej
    have hi2 : i < ns.length := by rw [List.length_zip] at hi; omega
    have hj2 : j < ns.length := by rw [List.length_zip] at hj; omega
    have e1 : ns[i] = n := congrArg Prod.fst ei
    have e2 : ns[j] = n := (congrArg Prod.fst ej).trans h2
    have : i = j := (List.getElem_inj nd).mp (e1.trans e2.symm)
    subst this
    have e3 : r[i]'(by rw [List.length_zip] at hi; omega) = s := congrArg Prod.snd ei
    have e4 : r[i]'(by rw [List.length_zip] at hi; omega) = p.2 := congrArg Prod.snd ej
    show some p.2 = some s
    rw [← e3, ← e4]
theorem mgD_len : ∀ (more kvs : List (Str × Dt)), (mgD kvs more).length ≤ kvs.length + more.length
  | [], kvs => Nat.le_refl _
  | p :: more, kvs => by
    have e : mgD kvs (p :: more) = mgD (ptD kvs p.1 p.2) more := rfl
    have h1 := mgD_len more (ptD kvs p.1 p.2)
    have h2 := ptD_len kvs p.1 p.2
    rw [e, List.length_cons]
    omega
theorem shp_sp (a : Option (Nat × Nat)) : SeqAt.shaped (spE a) = true := by
  obtain ⟨h1, h2⟩ := lay_sp a
  unfold SeqAt.shaped
  rw [h1]
  simp
  omega
section
variable {P : Program} {w : World} {K : PySem.W.Frag} {mg : Str → Option Value} {base : Heap}
def WPadded : List Dt → (Dt → Prop) → Prop := fun ds Φ => ∃ (ns : List Str) (r : Row) (all : List Str), ds = [.list (stsD ns), rowE r, .list (stsD all)] ∧ r.length = ns.length ∧ ns.length ≤ 10 ∧ all.length ≤ 10 ∧ Φ (rowE (padF ns r all))
theorem sc__law_padded : FnScope ["_law_names_here", "_law_row", "_law_all_names", "_law_told", "_law_name"] ["_law_names_here", "_law_row", "_law_all_names"] (defScope (top 88)) := ⟨rfl, rfl, rfl, by decide +kernel, rfl, by decide +kernel, by decide +kernel⟩
theorem c_padded (W : Wd K mg) : Con P w K mg base "_law_padded" 3 (spP 3 WPadded) := by
  obtain ⟨f, fd, hm, F⟩ := W.at_ 46 (x := "_law_padded") (j := 88)
  refine con_of F hm sc__law_padded rfl (fun _ _ _ _ _ _ us hl => match us, hl with | [_, _, _], _ => rfl) fun cdv A outer s H E hr => ⟨_, _,
      (dss_cons (ds_setDZ (i := 3) rfl sc__law_padded.nd W.z_dict W.z_zip (dv 0) (dv 1))
      (dss_one (ds_ret (de_callTy call_tuple_of rd_tuple (by rfl) W.z_tuple PyProof.Rows.boot_tuple (da_cons (FE.de (fe_lc (own := [("_law_name", 4)]) rfl sc__law_padded.nd (di_list (dv 2)) (blkOk_by (own := [("_law_name", 4)]) (N := ["_law_names_here", "_law_row", "_law_all_names", "_law_told", "_law_name"]) (sc := defScope (top 88)) (by decide +kernel)) (fun _ _ _ _ _ => (dg_name (i := 4) sc__law_padded.nd)) (fun _ _ _ _ _ => dts_nil) (fun _ _ _ _ _ => (DE.castK (de_odGet (i := 3) (hu64 hr) (dv 4)) (by dsimp only [Cx.blk] <;> rfl))))) da_nil))))), fun ds Φ hl hW => ?_⟩
  obtain ⟨ns, r, all, e, hl2, hn, ha, q⟩ := hW
  subst e
  simp
  refine ⟨ns, rfl, r.map spE, rfl, by simp [hl2], by omega, by omega, ?_⟩
  refine lc_map (F := fun n => some (spE (lkN ns r n).join)) (g := PyData.str) (l := all) (fun n hn C hC => ?_) ?_
  · simp
    rw [lk_zip]
    cases hk : lkN ns r n with
    | none => rw [hk] at hC; exact hC
    | some s => rw [hk] at hC; exact hC
  · have e : all.filterMap (fun n => some (spE (lkN ns r n).join)) = (padF ns r all).map spE := by
      rw [List.filterMap_eq_map']
      unfold padF
      rw [List.map_map]
      rfl
    rw [e]
    exact q
def WReads : List Dt → (Dt → Prop) → Prop := fun ds Φ => ∃ (ns : List Str) (r : Row) (x y t : Str), ds = [rowE r, .list (stsD ns), .str x, .str y, .str t] ∧ r.length = ns.length ∧ ns.length ≤ 10 ∧ x ∈ ns ∧ y ∈ ns ∧ t.length ≤ 10 ∧ Φ (.bool (readsF t ns r x y))
theorem sc__law_reads : FnScope ["_law_row", "_law_names_here", "_law_one", "_law_other", "_law_text", "_law_told", "_law_first", "_law_last", "_law_begin", "_law_end"] ["_law_row", "_law_names_here", "_law_one", "_law_other", "_law_text"] (defScope (top 89)) := ⟨rfl, rfl, rfl, by decide +kernel, rfl, by decide +kernel, by decide +kernel⟩
theorem c_reads (W : Wd K mg) : Con P w K mg base "_law_reads" 3 (spP 5 WReads) := by
  obtain ⟨f, fd, hm, F⟩ := W.at_ 47 (x := "_law_reads") (j := 89)
  refine con_of F hm sc__law_reads rfl (fun _ _ _ _ _ _ us hl => match us, hl with | [_, _, _, _, _], _ => rfl) fun cdv A outer s H E hr => ⟨_, _,
      (dss_cons (ds_setDZ (i := 5) rfl sc__law_reads.nd W.z_dict W.z_zip (dv 1) (dv 0))
      (dss_cons (ds_if (dw_or (dt_cmp op_isN rd_is (de_odIx (i := 5) (hu64 hr) (dv 2)) de_non) (dw_or1 (dt_cmp op_isN rd_is (de_odIx (i := 5) (hu64 hr) (dv 3)) de_non))).dt (dss_one (ds_ret de_bl)) dss_nil)
      (dss_cons (ds_asg (de_odIx (i := 5) (hu64 hr) (dv 2)) (dg_tup (n := 2) rfl (dgs_cons (dg_name (i := 6) sc__law_reads.nd) (dgs_cons (dg_name (i := 7) sc__law_reads.nd) dgs_nil))))
      (dss_cons (ds_asg (de_odIx (i := 5) (hu64 hr) (dv 3)) (dg_tup (n := 2) rfl (dgs_cons (dg_name (i := 8) sc__law_reads.nd) (dgs_cons (dg_name (i := 9) sc__law_reads.nd) dgs_nil))))
      (dss_one (ds_ret (de_cmp (op_eqA (hu64 hr)) rd_eq (de_slS (dv 4) (do_some (dv 6)) (do_some (dv 7))) (de_slS (dv 4) (do_some (dv 8)) (do_some (dv 9)))))))))), fun ds Φ hl hW => ?_⟩
  obtain ⟨ns, r, x, y, t, e, hl2, hn, hx, hy, ht, q⟩ := hW
  subst e
  simp
  refine ⟨ns, rfl, r.map spE, rfl, by simp [hl2], by omega, ?_⟩
  obtain ⟨sx, ex⟩ := lkN_some hl2 hx
  obtain ⟨sy, ey⟩ := lkN_some hl2 hy
  have kx : lkD (mgD [] (ns.zip (r.map spE))) x = some (spE sx) := by rw [lk_zip, ex]; rfl
  have ky : lkD (mgD [] (ns.zip (r.map spE))) y = some (spE sy) := by rw [lk_zip, ey]; rfl
  unfold readsF at q
  rw [ex, ey] at q
  cases sx with
  | none =>
    simp [kx, spE] at q ⊢
    exact q
  | some p =>
    obtain ⟨b, e⟩ := p
    cases sy with
    | none =>
      simp [kx, ky, spE] at q ⊢
      exact q
    | some p =>
      obtain ⟨b2, e2⟩ := p
      simp [kx, ky, spE] at q ⊢
      exact ⟨by rw [sizeL]; omega, q⟩
def WWith : List Dt → (Dt → Prop) → Prop := fun ds Φ => ∃ (ns : List Str) (r : Row) (os : List Str) (o : Row), ds = [.list (stsD ns), rowE r, .list (stsD os), rowE o] ∧ r.length = ns.length ∧ o.length = os.length ∧ ns.length ≤ 10 ∧ os.length ≤ 10 ∧ os.Nodup ∧ Φ (match withF ns r os o with | some x => rowE x | none => .none)
theorem sc__law_with : FnScope ["_law_names_here", "_law_row", "_law_other_names", "_law_other", "_law_told", "_law_name", "_law_span"] ["_law_names_here", "_law_row", "_law_other_names", "_law_other"] (defScope (top 87)) := ⟨rfl, rfl, rfl, by decide +kernel, rfl, by decide +kernel, by decide +kernel⟩
theorem c_with (W : Wd K mg) : Con P w K mg base "_law_with" 3 (spP 4 WWith) := by
  obtain ⟨f, fd, hm, F⟩ := W.at_ 45 (x := "_law_with") (j := 87)
  refine con_of F hm sc__law_with rfl (fun _ _ _ _ _ _ us hl => match us, hl with | [_, _, _, _], _ => rfl) fun cdv A outer s H E hr => ⟨_, _,
      (dss_cons (ds_setDZ (i := 4) rfl sc__law_with.nd W.z_dict W.z_zip (dv 0) (dv 1))
      (dss_cons (ds_for PassesOwn.never rfl (di_zipLT W.z_zip (dv 2) (dv 3)) (dg_tup (n := 2) rfl (dgs_cons (dg_name (i := 5) sc__law_with.nd) (dgs_cons (dg_name (i := 6) sc__law_with.nd) dgs_nil))) (dss_cons (ds_if (dw_and (dt_odIn (i := 4) (hu64 hr) (dv 5)) (dw_and1 (dt_cmp (op_neA (hu64 hr)) rd_ne (de_odIx (i := 4) (hu64 hr) (dv 5)) (dv 6)))).dt (dss_one (ds_ret de_non)) dss_nil)
      (dss_one (ds_odSet (i := 4) (hu64 hr) (dv 5) (dv 6)))))
      (dss_one (ds_ret (de_callTy call_tuple_of rd_tuple (by rfl) W.z_tuple PyProof.Rows.boot_tuple (da_cons (FE.de (fe_lc (own := [("_law_name", 5)]) rfl sc__law_with.nd (di_list (FE.de (fe_odSort (i := 4) rfl (hu64 hr) W.z_sorted))) (blkOk_by (own := [("_law_name", 5)]) (N := ["_law_names_here", "_law_row", "_law_other_names", "_law_other", "_law_told", "_law_name", "_law_span"]) (sc := defScope (top 87)) (by decide +kernel)) (fun _ _ _ _ _ => (dg_name (i := 5) sc__law_with.nd)) (fun _ _ _ _ _ => dts_nil) (fun _ _ _ _ _ => (DE.castK (de_odIx (i := 4) (hu64 hr) (dv 5)) (by dsimp only [Cx.blk] <;> rfl))))) da_nil)))))), fun ds Φ hl hW => ?_⟩
  obtain ⟨ns, r, os, o, e, hl2, hl3, hn, ho, nd, q⟩ := hW
  subst e
  simp
  refine ⟨ns, rfl, r.map spE, rfl, by simp [hl2], by omega, _, rfl, ?_⟩
  rw [zip_row]
  have hlz : (os.zip o).length = os.length := by rw [List.length_zip]; omega
  have fz : (os.zip o).map (·.1) = os := List.map_fst_zip (by omega)
  have fz2 : (ns.zip (r.map spE)).map (·.1) = ns := List.map_fst_zip (by simp [hl2])
  obtain ⟨i1, i2⟩ := mg_nodup (ns.zip (r.map spE)) [] (by simp)
  refine loop_inv (l := os.zip o) (fun (l : List (Str × Option (Nat × Nat))) ρ => ∃ (done : List (Str × Option (Nat × Nat))) (kvs : List (Str × Dt)) (s5 s6 : Sl), done ++ l = os.zip o ∧ ρ = [.da (.list (stsD ns)), .da (rowE r), .da (.list (stsD os)), .da (rowE o), .od kvs, s5, s6] ∧
      (kvs.map (·.1)).Nodup ∧ (∀ k, k ∈ kvs.map (·.1) ↔ k ∈ ns ∨ k ∈ done.map (·.1)) ∧ kvs.length ≤ ns.length + done.length ∧ (∀ n s, (n, s) ∈ done → lkD kvs n = some (spE s) ∧ (n ∈ ns → lkN ns r n = some s)) ∧ (∀ n, ¬ n ∈ done.map (·.1) → lkD kvs n = (lkN ns r n).map spE))
    ⟨[], _, .no, .no, rfl, rfl, i1, fun k => by rw [i2, fz2]; simp, ?_, (fun n s h => by cases h), fun n _ => lk_zip ns r n⟩ ?_ ?_
  · have := mgD_len (ns.zip (r.map spE)) []
    rw [List.length_zip] at this
    simp at this ⊢
    omega
  · rintro ⟨n, s⟩ l ρ ⟨done, kvs, s5, s6, hd, e, h1, h2, h3, h4, h5⟩ hk C hC
    subst e
    have hdl := congrArg List.length hd
    rw [List.length_append, List.length_cons, hlz] at hdl
    have hnd : ¬ n ∈ done.map (·.1) := fun z => by
      have e := fz
      rw [← hd, List.map_append, List.map_cons] at e
      rw [← e] at nd
      exact (List.nodup_append.mp nd).2.2 n z n List.mem_cons_self rfl
    have hn5 := h5 n hnd
    obtain ⟨p1, p2⟩ := pt_nodup h1 n (spE s)
    have put : (n ∈ ns → lkN ns r n = some s) → C [.da (.list (stsD ns)), .da (rowE r), .da (.list (stsD os)), .da (rowE o), .od (ptD kvs n (spE s)), .da (.str n), .da (spE s)] := fun hag => by
      refine hC _ ⟨done ++ [(n, s)], ptD kvs n (spE s), _, _, by rw [← hd]; simp, rfl, p1, fun k => ?_, ?_, fun m u hm => ?_, fun m hm => ?_⟩
      · rw [p2, h2, List.map_append, List.mem_append]
        simp [or_assoc]
      · have := ptD_len kvs n (spE s)
        rw [List.length_append, List.length_singleton]
        omega
      · rw [lk_pt]
        rcases List.mem_append.mp hm with hm | hm
        · have : m ≠ n := fun z => hnd (z ▸ List.mem_map.mpr ⟨(m, u), hm, rfl⟩)
          rw [if_neg this]
          exact h4 m u hm
        · have e := List.mem_singleton.mp hm
          injection e with e1 e2
          subst e1 e2
          rw [if_pos rfl]
          exact ⟨rfl, hag⟩
      · rw [List.map_append, List.mem_append] at hm
        have : m ≠ n := fun z => hm (.inr (by simp [z]))
        rw [lk_pt, if_neg this]
        exact h5 m fun z => hm (.inl z)
    simp
    cases hk2 : lkN ns r n with
    | none =>
      rw [hk2] at hn5
      refine .inl ⟨hn5, by omega, put fun hn => ?_⟩
      obtain ⟨u, eu⟩ := lkN_some hl2 hn
      rw [hk2] at eu
      cases eu
    | some u =>
      rw [hk2] at hn5
      have hn5 : lkD kvs n = some (spE u) := hn5
      refine .inr ⟨by rw [hn5]; rfl, spE u, hn5, .inr ⟨shp_sp u, shp_sp s⟩, ?_⟩
      rw [eqv_sp]
      by_cases cu : u = s
      · subst cu
        exact .inl ⟨decide_eq_true rfl, by omega, put fun _ => hk2⟩
      · refine .inr ⟨decide_eq_false cu, ?_⟩
        have na : ¬ agree ns r os o := fun ag => by
          have hnn : n ∈ ns := (lkN_mem hk2).1
          have hno : n ∈ os := (List.of_mem_zip hk).1
          have := ag n hnn hno
          rw [hk2, lkN_zip nd hk] at this
          exact cu (Option.some.inj this)
        unfold withF at q
        rw [if_neg na] at q
        exact q
  · rintro ρ ⟨done, kvs, s5, s6, hd, e, h1, h2, h3, h4, h5⟩
    subst e
    rw [List.append_nil] at hd
    subst hd
    rw [fz] at h2 h5
    have inz : ∀ n, n ∈ os → ∃ s, (n, s) ∈ os.zip o := fun n hn => by
      obtain ⟨i, hi, rfl⟩ := List.getElem_of_mem hn
      exact ⟨o[i], List.mem_iff_getElem.mpr ⟨i, by omega, by simp⟩⟩
    have ag : agree ns r os o := fun n hn hno => by
      obtain ⟨s, hs⟩ := inz n hno
      rw [(h4 n s hs).2 hn, lkN_zip nd hs]
    unfold withF at q
    rw [if_pos ag] at q
    have es : sset (kvs.map (·.1)) = sset (ns ++ os) := sset_congr fun k => by rw [h2, List.mem_append]
    have hsl := sset_len (ns ++ os)
    rw [List.length_append] at hsl
    simp
    rw [es]
    refine ⟨h1, by omega, by omega, ?_⟩
    refine lc_map (F := fun n => some (spE ((if n ∈ ns then lkN ns r n else lkN os o n).join))) (g := PyData.str) (l := sset (ns ++ os)) (fun n hn C hC => ?_) ?_
    · simp
      refine ⟨_, ?_, hC⟩
      by_cases hno : n ∈ os
      · obtain ⟨s, hs⟩ := inz n hno
        obtain ⟨a1, a2⟩ := h4 n s hs
        rw [a1]
        by_cases hnn : n ∈ ns
        · rw [if_pos hnn, a2 hnn]; rfl
        · rw [if_neg hnn, lkN_zip nd hs]; rfl
      · have hnn : n ∈ ns := by
          rcases List.mem_append.mp (mem_sset.mp hn) with h | h
          · exact h
          · exact absurd h hno
        rw [if_pos hnn, h5 n hno]
        obtain ⟨u, eu⟩ := lkN_some hl2 hnn
        rw [eu]
        rfl
    · have e : (sset (ns ++ os)).filterMap (fun n => some (spE ((if n ∈ ns then lkN ns r n else lkN os o n).join))) = ((sset (ns ++ os)).map fun n => (if n ∈ ns then lkN ns r n else lkN os o n).join).map spE := by
        rw [List.filterMap_eq_map', List.map_map]
        rfl
      rw [e]
      exact q
end
end MP
-- PL5
/-! What a plan means, plain: its rows. -/
namespace MP
open PySem PySem.Spec PyProof.Rows L2
/-- the rows of a plan for a text -/
def Mn (t : Str) : Plan → Row → Prop
  | .pat p, r => r ∈ rowsF t p (sset p.marks)
  | .only ns a, r => ∃ r0, Mn t a r0 ∧ r = padF a.names r0 ns
  | .same x y a, r => Mn t a r ∧ readsF t a.names r x y = true
  | .without a b, r => Mn t a r ∧ ¬ Mn t b r
  | .either a b, r => (∃ r0, Mn t a r0 ∧ r = padF a.names r0 (sset (a.names ++ b.names))) ∨ ∃ r0, Mn t b r0 ∧ r = padF b.names r0 (sset (a.names ++ b.names))
  | .join a b, r => ∃ r1 r2, Mn t a r1 ∧ Mn t b r2 ∧ withF a.names r1 b.names r2 = some r
theorem names_le {N : List Str} {p : Plan} (h : p.ok N) : p.names.length ≤ N.length := (names_srt h).nodup.length_le_of_subset fun n hn => names_sub h n hn
theorem pad_ok {T k : Nat} {ns all : List Str} {r : Row} (h : RWOk T k r) : RWOk T all.length (padF ns r all) := by
  refine ⟨by unfold padF; rw [List.length_map], fun b e hb => ?_⟩
  unfold padF at hb
  obtain ⟨n, _, e1⟩ := List.mem_map.mp hb
  cases hk : lkN ns r n with
  | none => rw [hk] at e1; cases e1
  | some s =>
    rw [hk] at e1
    have e1 : s = some (b, e) := e1
    have := (lkN_mem hk).2
    rw [e1] at this
    exact h.pcs b e this
theorem with_ok {T k1 k2 : Nat} {ns os : List Str} {r o x : Row} (h : RWOk T k1 r) (g : RWOk T k2 o) (e : withF ns r os o = some x) : RWOk T (sset (ns ++ os)).length x := by
  unfold withF at e
  split at e
  · cases e
    refine ⟨by rw [List.length_map], fun b e hb => ?_⟩
    obtain ⟨n, _, e1⟩ := List.mem_map.mp hb
    split at e1
    · cases hk : lkN ns r n with
      | none => rw [hk] at e1; cases e1
      | some s =>
        rw [hk] at e1
        have e1 : s = some (b, e) := e1
        have := (lkN_mem hk).2
        rw [e1] at this
        exact h.pcs b e this
    · cases hk : lkN os o n with
      | none => rw [hk] at e1; cases e1
      | some s =>
        rw [hk] at e1
        have e1 : s = some (b, e) := e1
        have := (lkN_mem hk).2
        rw [e1] at this
        exact g.pcs b e this
  · cases e
theorem mn_ok {N : List Str} {t : Str} : ∀ {p : Plan} {r : Row}, p.ok N → Mn t p r → RWOk t.length p.names.length r
  | .pat p, r, h, hr => (rowsF_ok h).2 r hr
  | .only ns a, r, h, hr => by
    obtain ⟨r0, h1, rfl⟩ := hr
    exact pad_ok (mn_ok (p := a) h.1 h1)
  | .same x y a, r, h, hr => mn_ok (p := a) h.1 hr.1
  | .without a b, r, h, hr => mn_ok (p := a) h.1 hr.1
  | .either a b, r, h, hr => by
    rcases hr with ⟨r0, h1, rfl⟩ | ⟨r0, h1, rfl⟩
    · exact pad_ok (mn_ok (p := a) h.1 h1)
    · exact pad_ok (mn_ok (p := b) h.2 h1)
  | .join a b, r, h, hr => by
    obtain ⟨r1, r2, h1, h2, e⟩ := hr
    exact with_ok (mn_ok (p := a) h.1 h1) (mn_ok (p := b) h.2 h2) e
/-! ### there are not too many rows -/
def lstE {α : Type} (U : List α) : Nat → List (List α)
  | 0 => [[]]
  | k + 1 => U.flatMap fun x => (lstE U k).map (x :: ·)
theorem mem_lstE {α : Type} {U : List α} : ∀ {l : List α}, (∀ x ∈ l, x ∈ U) → l ∈ lstE U l.length
  | [], _ => by simp [lstE]
  | x :: l, g => by
    rw [List.length_cons, lstE]
    exact List.mem_flatMap.mpr ⟨x, g x List.mem_cons_self, List.mem_map.mpr ⟨l, mem_lstE fun y hy => g y (List.mem_cons_of_mem _ hy), rfl⟩⟩
theorem lstE_len {α : Type} {U : List α} : ∀ k : Nat, (lstE U k).length ≤ U.length ^ k
  | 0 => by simp [lstE]
  | k + 1 => by
    rw [lstE, Nat.pow_succ, Nat.mul_comm]
    exact flatMap_len fun x _ => by rw [List.length_map]; exact lstE_len k
theorem rows_le {T k : Nat} {l : List Row} (hT : T ≤ 4) (hk : k ≤ 3) (nd : l.Nodup) (h : ∀ r ∈ l, RWOk T k r) : l.length ≤ 4096 := by
  have h0 : (optU T).length ≤ 16 := by
    unfold optU
    rw [List.length_cons, List.length_map]
    have := ivs_len hT
    omega
  have h1 : (lstE (optU T) k).length ≤ 4096 := by
    refine Nat.le_trans (lstE_len k) (Nat.le_trans (Nat.pow_le_pow_left h0 k) ?_)
    exact Nat.le_trans (Nat.pow_le_pow_right (by decide) hk) (by decide)
  refine Nat.le_trans (nd.length_le_of_subset fun r hr => ?_) h1
  have g := h r hr
  rw [← g.len]
  refine mem_lstE fun x hx => ?_
  unfold optU
  cases x with
  | none => exact List.mem_cons_self
  | some q =>
    obtain ⟨b, e⟩ := q
    obtain ⟨h1, h2⟩ := g.pcs b e hx
    exact List.mem_cons_of_mem _ (List.mem_map.mpr ⟨_, mem_ivs h1 h2, rfl⟩)
/-! ### rows as keys -/
def spNK : Option (Nat × Nat) → NestedKey
  | none => .none
  | some p => .tup [.num (p.1 : Nat), .num (p.2 : Nat)]
def rowNK (r : Row) : NestedKey := .tup (r.map spNK)
theorem spNK_data (a : Option (Nat × Nat)) : (spNK a).data = spE a := by cases a <;> rfl
theorem rowNK_data (r : Row) : (rowNK r).data = rowE r := by
  have h : ∀ r : Row, NestedKey.datas (r.map spNK) = r.map spE := fun r => by
    induction r with
    | nil => rfl
    | cons a r ih => rw [List.map_cons, List.map_cons, NestedKey.datas, ih, spNK_data]
  unfold rowNK rowE
  rw [NestedKey.data, h]
theorem rowNK_ok (r : Row) : RowK (rowNK r) := by
  refine ⟨⟨_, rfl⟩, ?_, ?_⟩
  · have h : ∀ r : Row, NestedKey.depthAll (r.map spNK) ≤ 1 := fun r => by
      induction r with
      | nil => simp [NestedKey.depthAll]
      | cons a r ih =>
        rw [List.map_cons, NestedKey.depthAll]
        refine Nat.max_le.mpr ⟨?_, ih⟩
        cases a <;> simp [spNK, NestedKey.depth, NestedKey.depthAll]
    have := h r
    unfold rowNK
    rw [NestedKey.depth]
    omega
  · have h : ∀ r : Row, calmKs (r.map spNK) = true := fun r => by
      induction r with
      | nil => simp [calmKs]
      | cons a r ih =>
        rw [List.map_cons, calmKs, ih]
        cases a <;> simp [spNK, calmK, calmKs]
    unfold rowNK
    rw [calmK, h]
theorem rowE_inj {a b : Row} (h : rowE a = rowE b) : a = b := by
  have h1 := eqv_row a b
  rw [h, eqv_row] at h1
  simpa using h1.symm
theorem rowNK_inj {a b : Row} (h : rowNK a = rowNK b) : a = b := rowE_inj (by rw [← rowNK_data, ← rowNK_data, h])
def addRw (acc : List Row) (r : Row) : List Row := if r ∈ acc then acc else acc ++ [r]
theorem addK_rows (acc : List Row) (r : Row) : addK (acc.map rowNK) (rowNK r) = (addRw acc r).map rowNK := by
  have h : rowNK r ∈ acc.map rowNK ↔ r ∈ acc := by
    constructor
    · intro h
      obtain ⟨x, hx, e⟩ := List.mem_map.mp h
      rw [← rowNK_inj e]
      exact hx
    · exact fun h => List.mem_map.mpr ⟨r, h, rfl⟩
  unfold addK addRw
  by_cases c : r ∈ acc
  · rw [if_pos (h.mpr c), if_pos c]
  · rw [if_neg (fun z => c (h.mp z)), if_neg c, List.map_append]
    rfl
theorem addRw_nd {acc : List Row} (h : acc.Nodup) (r : Row) : (addRw acc r).Nodup ∧ ∀ x, x ∈ addRw acc r ↔ x ∈ acc ∨ x = r := by
  unfold addRw
  by_cases c : r ∈ acc
  · rw [if_pos c]
    refine ⟨h, fun x => ⟨.inl, fun z => ?_⟩⟩
    rcases z with z | z
    · exact z
    · rw [z]; exact c
  · rw [if_neg c]
    refine ⟨?_, fun x => by rw [List.mem_append, List.mem_singleton]⟩
    rw [List.nodup_append]
    refine ⟨h, by simp, fun a ha b hb e => ?_⟩
    rw [List.mem_singleton.mp hb] at e
    exact c (e ▸ ha)
theorem keys_data (acc : List Row) : (acc.map rowNK).map NestedKey.data = acc.map rowE := by
  rw [List.map_map]
  exact List.map_congr_left fun r _ => rowNK_data r
end MP
-- PF5
/-! The walks: what a plan means. -/
namespace MP
open PySem PySem.Spec PyProof.Rows L2 MH LamX
section
variable {P : Program} {w : World} {K : PySem.W.Frag} {mg : Str → Option Value} {base : Heap} {T : Addr}
@[simp] theorem cx_prog {N : List Str} {q : Str} {scope : Scope} {f : Addr} {cdv : Value} {A : Around} {outer : List Env} {s : Shared} {H : Hp} {E : XK} : (cxOf CX0 P w K mg base N q scope f cdv A outer s H E).prog = P := rfl
@[simp] theorem cx_w {N : List Str} {q : Str} {scope : Scope} {f : Addr} {cdv : Value} {A : Around} {outer : List Env} {s : Shared} {H : Hp} {E : XK} : (cxOf CX0 P w K mg base N q scope f cdv A outer s H E).w = w := rfl
def WMean (d : Nat) : List Dt → (Dt → Prop) → Prop := fun ds Φ => ∃ (N : List Str) (p : Plan) (t : Str), ds = [p.enc, .str t] ∧ p.ok N ∧ TOk N t ∧ p.mok ∧ p.depth < d ∧ ∀ rs : List Row, rs.Nodup → (∀ r, r ∈ rs ↔ Mn t p r) → Φ (.list [.list (stsD p.names), .list (rs.map rowE)])
def twoF : Plan → Bool
  | .join _ _ => true
  | .either _ _ => true
  | .without _ _ => true
  | _ => false
def WTwo (d : Nat) : List Dt → (Dt → Prop) → Prop := fun ds Φ => ∃ (N : List Str) (p : Plan) (t : Str), ds = [p.enc, .str t] ∧ twoF p = true ∧ p.ok N ∧ TOk N t ∧ p.mok ∧ p.depth < d + 1 ∧ ∀ rs : List Row, rs.Nodup → (∀ r, r ∈ rs ↔ Mn t p r) → Φ (.list [.list (stsD p.names), .list (rs.map rowE)])
theorem TOk.nok {N : List Str} {t : Str} (k : TOk N t) : NOk N := ⟨Nat.le_trans k.few (by decide), k.ok⟩
theorem sc__law_two : FnScope ["_law_plan_here", "_law_text", "_law_names_here", "_law_rows_here", "_law_others", "_law_more", "_law_row", "_law_found", "_law_both", "_law_other", "_law_one", "_tb"] ["_law_plan_here", "_law_text"] (defScope (top 90)) := ⟨rfl, rfl, rfl, by decide +kernel, rfl, by decide +kernel, by decide +kernel⟩
theorem c_two (W : Wd K mg) {d k : Nat} (h__law_meaning : Con P w K mg base "_law_meaning" k (spT T 2 (WMean d))) (hk : 5 ≤ k) : Con P w K mg base "_law_two" (k + 1) (spT T 2 (WTwo d)) := by
  have h__law_padded := c_padded (P := P) (w := w) (base := base) W
  have h__law_with := c_with (P := P) (w := w) (base := base) W
  obtain ⟨f, fd, hm, F⟩ := W.at_ 48 (x := "_law_two") (j := 90)
  refine con_ofT F hm sc__law_two rfl (fun _ _ _ _ _ _ us hl => match us, hl with | [_, _], _ => rfl) fun cdv A outer s H E hcd hcr hr => ?_
  refine ⟨_, _,
      (dss_cons (ds_asg (de_callT h__law_meaning (hr.mono (by omega)) (da_cons (de_ix (dv 0) de_int) (da_cons (dv 1) da_nil))) (dg_unl (n := 2) rfl (dgs_cons (dg_name (i := 2) sc__law_two.nd) (dgs_cons (dg_name (i := 3) sc__law_two.nd) dgs_nil))))
      (dss_cons (ds_asg (de_callT h__law_meaning (hr.mono (by omega)) (da_cons (de_ix (dv 0) de_int) (da_cons (dv 1) da_nil))) (dg_unl (n := 2) rfl (dgs_cons (dg_name (i := 4) sc__law_two.nd) (dgs_cons (dg_name (i := 5) sc__law_two.nd) dgs_nil))))
      (dss_cons (ds_if (dt_cmp (op_eqA (hu64 hr)) rd_eq (de_ix (dv 0) de_int) de_str) (dss_one (ds_ret (FE.de (fe_lst (da_cons (dv 2) (da_cons (FE.de (fe_lc (own := [("_law_row", 6)]) rfl sc__law_two.nd (di_list (dv 3)) (blkOk_by (own := [("_law_row", 6)]) (N := ["_law_plan_here", "_law_text", "_law_names_here", "_law_rows_here", "_law_others", "_law_more", "_law_row", "_law_found", "_law_both", "_law_other", "_law_one", "_tb"]) (sc := defScope (top 90)) (by decide +kernel)) (fun _ _ _ _ _ => (dg_name (i := 6) sc__law_two.nd)) (fun _ _ _ _ _ => (DTs.castK (dts_one (dt_cmp (op_notInA (hu65 hr)) rd_notIn (dv 6) (dv 5))) (by dsimp only [Cx.blk] <;> rfl))) (fun _ _ _ _ _ => (dv 6)))) da_nil)))))) dss_nil)
      (dss_cons (ds_setR (i := 7) sc__law_two.nd)
      (dss_cons (ds_set (i := 8) (FE.de (fe_sortSet (x := "") (y := "") rfl (hu64 hr) (FE.de (fe_op op_cat rd_addL (dv 2) (dv 4))) rfl W.z_sorted rfl W.z_set)) sc__law_two.nd)
      (dss_cons (ds_if (dt_cmp (op_eqA (hu64 hr)) rd_eq (de_ix (dv 0) de_int) de_str) (dss_cons (ds_for PassesOwn.never rfl (di_list (dv 3)) (dg_name (i := 6) sc__law_two.nd) (dss_one (ds_rdSet (i := 7) (hu64 hr) (de_call h__law_padded (hr.mono (by omega)) (da_cons (dv 2) (da_cons (dv 6) (da_cons (dv 8) da_nil)))))))
      (dss_cons (ds_for PassesOwn.never rfl (di_list (dv 5)) (dg_name (i := 6) sc__law_two.nd) (dss_one (ds_rdSet (i := 7) (hu64 hr) (de_call h__law_padded (hr.mono (by omega)) (da_cons (dv 4) (da_cons (dv 6) (da_cons (dv 8) da_nil)))))))
      (dss_one (ds_ret (FE.de (fe_lst (da_cons (dv 8) (da_cons (FE.de (fe_rdList (i := 7) rfl W.z_list)) da_nil)))))))) dss_nil)
      (dss_cons (ds_for PassesOwn.never rfl (di_list (dv 3)) (dg_name (i := 6) sc__law_two.nd) (dss_one (ds_for PassesOwn.never rfl (di_list (dv 5)) (dg_name (i := 9) sc__law_two.nd) (dss_cons (ds_set (i := 10) (de_call h__law_with (hr.mono (by omega)) (da_cons (dv 2) (da_cons (dv 6) (da_cons (dv 4) (da_cons (dv 9) da_nil))))) sc__law_two.nd)
      (dss_one (ds_if (dt_cmp op_notN rd_isNot (dv 10) de_non) (dss_one (ds_rdSet (i := 7) (hu64 hr) (dv 10))) dss_nil))))))
      (dss_one (ds_ret (FE.de (fe_lst (da_cons (dv 8) (da_cons (FE.de (fe_rdList (i := 7) rfl W.z_list)) da_nil))))))))))))), fun ds Φ hl hW => ?_⟩
  obtain ⟨N, p, t, e, h2, hp, tk, hm, hd, q⟩ := hW
  subst e
  have t4 := tk.len
  cases p with
  | pat p => cases h2
  | only ns a => cases h2
  | same x y a => cases h2
  | without a b =>
    simp [Plan.depth] at hd
    have la := Nat.le_trans (names_le hp.1) tk.few
    have lb := Nat.le_trans (names_le hp.2.1) tk.few
    rw [enc_without]
    simp
    refine ⟨⟨11, rfl⟩, N, a, t, rfl, hp.1, tk, hm.1, by omega, fun ra na ma => ?_⟩
    simp
    refine ⟨⟨11, rfl⟩, N, b, t, rfl, hp.2.1, tk, hm.2, by omega, fun rb nb mb => ?_⟩
    have lra := rows_le t4 la na fun r hr => mn_ok hp.1 ((ma r).mp hr)
    simp
    refine ⟨by omega, ?_⟩
    refine lc_map (F := fun r => if r ∈ rb then none else some (rowE r)) (g := rowE) (l := ra) (fun r hr C hC => ?_) ?_
    · obtain ⟨i1, i2⟩ := in_rows r rb
      simp
      refine ⟨i1, ?_⟩
      rw [i2]
      by_cases c : r ∈ rb
      · rw [if_pos c] at hC
        exact .inl ⟨decide_eq_true c, hC⟩
      · rw [if_neg c] at hC
        exact .inr ⟨decide_eq_false c, hC⟩
    · have e : ra.filterMap (fun r => if r ∈ rb then none else some (rowE r)) = (ra.filter fun r => !decide (r ∈ rb)).map rowE := by
        rw [← List.filterMap_eq_map, List.filterMap_filter]
        congr 1
        funext o
        by_cases c : o ∈ rb <;> simp [c]
      rw [e]
      refine q _ (na.sublist List.filter_sublist) fun r => ?_
      rw [List.mem_filter, ma, Mn]
      simp [mb]
  | either a b =>
    simp [Plan.depth] at hd
    have la := Nat.le_trans (names_le hp.1) tk.few
    have lb := Nat.le_trans (names_le hp.2) tk.few
    have lab := Nat.le_trans (names_le (p := .either a b) hp) tk.few
    rw [enc_either]
    simp
    refine ⟨⟨11, rfl⟩, N, a, t, rfl, hp.1, tk, hm.1, by omega, fun ra na ma => ?_⟩
    simp
    refine ⟨⟨11, rfl⟩, N, b, t, rfl, hp.2, tk, hm.2, by omega, fun rb nb mb => ?_⟩
    simp
    refine ⟨by rw [sizeL]; omega, _, stsD_app _ _, by simp; omega, _, rfl, by simp; omega, ?_⟩
    have oka : ∀ r ∈ ra, RWOk t.length a.names.length r := fun r hr => mn_ok hp.1 ((ma r).mp hr)
    have okb : ∀ r ∈ rb, RWOk t.length b.names.length r := fun r hr => mn_ok hp.2 ((mb r).mp hr)
    have small : ∀ acc : List Row, acc.Nodup → (∀ r ∈ acc, Mn t (.either a b) r) → acc.length ≤ 4096 := fun acc nd h => rows_le t4 lab nd fun r hr => mn_ok (p := .either a b) hp (h r hr)
    have step : ∀ {c : Plan} {r : Row} {Φ2 : Dt → Prop}, r.length = c.names.length → c.names.length ≤ 3 → Φ2 (rowE (padF c.names r (sset (a.names ++ b.names)))) → WPadded [.list (stsD c.names), rowE r, .list (stsD (sset (a.names ++ b.names)))] Φ2 := fun {c r Φ2} h1 h2 h3 => ⟨c.names, r, _, rfl, h1, by omega, Nat.le_trans lab (by decide), h3⟩
    refine loop_inv (g := rowE) (l := ra) (fun (l : List Row) ρ => ∃ (done acc : List Row) (s6 : Sl), done ++ l = ra ∧ ρ = [Sl.da (PyData.tuple [PyData.str (Str.ofString "either"), a.enc, b.enc]), Sl.da (PyData.str t), Sl.da (PyData.list (stsD a.names)), Sl.da (PyData.list (List.map rowE ra)), Sl.da (PyData.list (stsD b.names)),
      Sl.da (PyData.list (List.map rowE rb)), s6, Sl.ob (OwR P w (acc.map rowNK)), Sl.da (PyData.list (stsD (sset (a.names ++ b.names)))), Sl.tb T lamQ, Sl.tb T lamQ, Sl.tb T lamQ] ∧ acc.Nodup ∧ ∀ r, r ∈ acc ↔ ∃ r0 ∈ done, r = padF a.names r0 (sset (a.names ++ b.names)))
      ⟨[], [], _, rfl, rfl, .nil, fun r => by simp⟩ ?_ ?_
    · rintro r l ρ ⟨done, acc, s6, e1, e2, e3, e4⟩ hk C hC
      subst e2
      have sm := small acc e3 fun x hx => by
        obtain ⟨r0, h1, h2⟩ := (e4 x).mp hx
        exact .inl ⟨r0, (ma r0).mp (by rw [← e1]; exact List.mem_append_left _ h1), h2⟩
      obtain ⟨n1, n2⟩ := addRw_nd e3 (padF a.names r (sset (a.names ++ b.names)))
      simp
      refine ⟨⟨_, rfl⟩, step (oka r hk).len la ?_⟩
      refine ⟨_, rfl, _, (rowNK_data _).symm, rowNK_ok _, by simp; omega, ?_⟩
      rw [addK_rows]
      refine hC _ ⟨done ++ [r], _, _, by rw [← e1]; simp, rfl, n1, fun x => ?_⟩
      rw [n2, e4]
      simp only [List.mem_append, List.mem_singleton]
      constructor
      · rintro (⟨r0, h1, h2⟩ | h)
        · exact ⟨r0, .inl h1, h2⟩
        · exact ⟨r, .inr rfl, h⟩
      · rintro ⟨r0, h1 | h1, h2⟩
        · exact .inl ⟨r0, h1, h2⟩
        · exact .inr (by rw [h2, h1])
    · rintro ρ ⟨done, acc0, s6, e1, e2, e3, e4⟩
      subst e2
      rw [List.append_nil] at e1
      subst e1
      simp
      refine loop_inv (g := rowE) (l := rb) (fun (l : List Row) ρ => ∃ (done2 acc : List Row) (s6 : Sl), done2 ++ l = rb ∧ ρ = [Sl.da (PyData.tuple [PyData.str (Str.ofString "either"), a.enc, b.enc]), Sl.da (PyData.str t), Sl.da (PyData.list (stsD a.names)), Sl.da (PyData.list (List.map rowE done)), Sl.da (PyData.list (stsD b.names)),
        Sl.da (PyData.list (List.map rowE rb)), s6, Sl.ob (OwR P w (acc.map rowNK)), Sl.da (PyData.list (stsD (sset (a.names ++ b.names)))), Sl.tb T lamQ, Sl.tb T lamQ, Sl.tb T lamQ] ∧ acc.Nodup ∧ ∀ r, r ∈ acc ↔ (∃ r0 ∈ done, r = padF a.names r0 (sset (a.names ++ b.names))) ∨ ∃ r0 ∈ done2, r = padF b.names r0 (sset (a.names ++ b.names)))
        ⟨[], acc0, s6, rfl, rfl, e3, fun r => by rw [e4]; simp⟩ ?_ ?_
      · rintro r l ρ ⟨done2, acc, s6, e1, e2, e3, e4⟩ hk C hC
        subst e2
        have sm := small acc e3 fun x hx => by
          rcases (e4 x).mp hx with ⟨r0, h1, h2⟩ | ⟨r0, h1, h2⟩
          · exact .inl ⟨r0, (ma r0).mp h1, h2⟩
          · exact .inr ⟨r0, (mb r0).mp (by rw [← e1]; exact List.mem_append_left _ h1), h2⟩
        obtain ⟨n1, n2⟩ := addRw_nd e3 (padF b.names r (sset (a.names ++ b.names)))
        simp
        refine ⟨⟨_, rfl⟩, step (okb r hk).len lb ?_⟩
        refine ⟨_, rfl, _, (rowNK_data _).symm, rowNK_ok _, by simp; omega, ?_⟩
        rw [addK_rows]
        refine hC _ ⟨done2 ++ [r], _, _, by rw [← e1]; simp, rfl, n1, fun x => ?_⟩
        rw [n2, e4]
        simp only [List.mem_append, List.mem_singleton]
        constructor
        · rintro ((h | ⟨r0, h1, h2⟩) | h)
          · exact .inl h
          · exact .inr ⟨r0, .inl h1, h2⟩
          · exact .inr ⟨r, .inr rfl, h⟩
        · rintro (h | ⟨r0, h1 | h1, h2⟩)
          · exact .inl (.inl h)
          · exact .inl (.inr ⟨r0, h1, h2⟩)
          · exact .inr (by rw [h2, h1])
      · rintro ρ ⟨done2, acc, s6, e1, e2, e3, e4⟩
        subst e2
        rw [List.append_nil] at e1
        subst e1
        refine ⟨_, rfl, _, rfl, ?_⟩
        rw [keys_data]
        refine q acc e3 fun r => ?_
        rw [e4, Mn]
        constructor
        · rintro (⟨r0, h1, h2⟩ | ⟨r0, h1, h2⟩)
          · exact .inl ⟨r0, (ma r0).mp h1, h2⟩
          · exact .inr ⟨r0, (mb r0).mp h1, h2⟩
        · rintro (⟨r0, h1, h2⟩ | ⟨r0, h1, h2⟩)
          · exact .inl ⟨r0, (ma r0).mpr h1, h2⟩
          · exact .inr ⟨r0, (mb r0).mpr h1, h2⟩
  | join a b =>
    simp [Plan.depth] at hd
    have la := Nat.le_trans (names_le hp.1) tk.few
    have lb := Nat.le_trans (names_le hp.2) tk.few
    have lab := Nat.le_trans (names_le (p := .join a b) hp) tk.few
    rw [enc_join]
    simp
    refine ⟨⟨11, rfl⟩, N, a, t, rfl, hp.1, tk, hm.1, by omega, fun ra na ma => ?_⟩
    simp
    refine ⟨⟨11, rfl⟩, N, b, t, rfl, hp.2, tk, hm.2, by omega, fun rb nb mb => ?_⟩
    simp
    refine ⟨by rw [sizeL]; omega, _, stsD_app _ _, by simp; omega, _, rfl, by simp; omega, ?_⟩
    have oka : ∀ r ∈ ra, RWOk t.length a.names.length r := fun r hr => mn_ok hp.1 ((ma r).mp hr)
    have okb : ∀ r ∈ rb, RWOk t.length b.names.length r := fun r hr => mn_ok hp.2 ((mb r).mp hr)
    have small : ∀ acc : List Row, acc.Nodup → (∀ r ∈ acc, Mn t (.join a b) r) → acc.length ≤ 4096 := fun acc nd h => rows_le t4 lab nd fun r hr => mn_ok (p := .join a b) hp (h r hr)
    have ndb := (names_srt hp.2).nodup
    refine loop_inv (g := rowE) (l := ra) (fun (l : List Row) ρ => ∃ (done acc : List Row) (s6 s9 s10 : Sl), done ++ l = ra ∧ ρ = [Sl.da (PyData.tuple [PyData.str (Str.ofString "join"), a.enc, b.enc]), Sl.da (PyData.str t), Sl.da (PyData.list (stsD a.names)), Sl.da (PyData.list (List.map rowE ra)), Sl.da (PyData.list (stsD b.names)),
      Sl.da (PyData.list (List.map rowE rb)), s6, Sl.ob (OwR P w (acc.map rowNK)), Sl.da (PyData.list (stsD (sset (a.names ++ b.names)))), s9, s10, Sl.tb T lamQ] ∧ acc.Nodup ∧ ∀ r, r ∈ acc ↔ ∃ r1 ∈ done, ∃ r2 ∈ rb, withF a.names r1 b.names r2 = some r)
      ⟨[], [], _, _, _, rfl, rfl, .nil, fun r => by simp⟩ ?_ ?_
    · rintro r1 l ρ ⟨done, acc0, s6, s9, s10, e1, e2, e3, e4⟩ hk C hC
      subst e2
      simp
      refine loop_inv (g := rowE) (l := rb) (fun (l : List Row) ρ => ∃ (done2 acc : List Row) (s9 s10 : Sl), done2 ++ l = rb ∧ ρ = [Sl.da (PyData.tuple [PyData.str (Str.ofString "join"), a.enc, b.enc]), Sl.da (PyData.str t), Sl.da (PyData.list (stsD a.names)), Sl.da (PyData.list (List.map rowE ra)), Sl.da (PyData.list (stsD b.names)),
        Sl.da (PyData.list (List.map rowE rb)), Sl.da (rowE r1), Sl.ob (OwR P w (acc.map rowNK)), Sl.da (PyData.list (stsD (sset (a.names ++ b.names)))), s9, s10, Sl.tb T lamQ] ∧ acc.Nodup ∧ ∀ r, r ∈ acc ↔ (∃ r1 ∈ done, ∃ r2 ∈ rb, withF a.names r1 b.names r2 = some r) ∨ ∃ r2 ∈ done2, withF a.names r1 b.names r2 = some r)
        ⟨[], acc0, s9, s10, rfl, rfl, e3, fun r => by rw [e4]; simp⟩ ?_ ?_
      · rintro r2 l2 ρ ⟨done2, acc, s9, s10, f1, f2, f3, f4⟩ hk2 C2 hC2
        subst f2
        have sm := small acc f3 fun x hx => by
          rcases (f4 x).mp hx with ⟨u1, h1, u2, h2, h3⟩ | ⟨u2, h2, h3⟩
          · exact ⟨u1, u2, (ma u1).mp (by rw [← e1]; exact List.mem_append_left _ h1), (mb u2).mp h2, h3⟩
          · exact ⟨r1, u2, (ma r1).mp hk, (mb u2).mp (by rw [← f1]; exact List.mem_append_left _ h2), h3⟩
        simp
        refine ⟨a.names, r1, b.names, r2, rfl, (oka r1 hk).len, (okb r2 hk2).len, by omega, by omega, ndb, ?_⟩
        cases hw : withF a.names r1 b.names r2 with
        | none =>
          refine .inl ⟨rfl, hC2 _ ⟨done2 ++ [r2], acc, _, _, by rw [← f1]; simp, rfl, f3, fun x => ?_⟩⟩
          rw [f4]
          simp only [List.mem_append, List.mem_singleton]
          constructor
          · rintro (h | ⟨u2, h2, h3⟩)
            · exact .inl h
            · exact .inr ⟨u2, .inl h2, h3⟩
          · rintro (h | ⟨u2, h2 | h2, h3⟩)
            · exact .inl h
            · exact .inr ⟨u2, h2, h3⟩
            · rw [h2, hw] at h3; cases h3
        | some x0 =>
          obtain ⟨n1, n2⟩ := addRw_nd f3 x0
          refine .inr ⟨rfl, ⟨_, rfl⟩, _, rfl, _, (rowNK_data _).symm, rowNK_ok _, by simp; omega, ?_⟩
          rw [addK_rows]
          refine hC2 _ ⟨done2 ++ [r2], _, _, _, by rw [← f1]; simp, rfl, n1, fun x => ?_⟩
          rw [n2, f4]
          simp only [List.mem_append, List.mem_singleton]
          constructor
          · rintro ((h | ⟨u2, h2, h3⟩) | h)
            · exact .inl h
            · exact .inr ⟨u2, .inl h2, h3⟩
            · exact .inr ⟨r2, .inr rfl, by rw [hw, h]⟩
          · rintro (h | ⟨u2, h2 | h2, h3⟩)
            · exact .inl (.inl h)
            · exact .inl (.inr ⟨u2, h2, h3⟩)
            · rw [h2, hw] at h3
              exact .inr (Option.some.inj h3).symm
      · rintro ρ ⟨done2, acc, s9, s10, f1, f2, f3, f4⟩
        subst f2
        rw [List.append_nil] at f1
        subst f1
        refine hC _ ⟨done ++ [r1], acc, _, s9, s10, by rw [← e1]; simp, rfl, f3, fun x => ?_⟩
        rw [f4]
        simp only [List.mem_append, List.mem_singleton]
        constructor
        · rintro (⟨u1, h1, h2⟩ | h)
          · exact ⟨u1, .inl h1, h2⟩
          · exact ⟨r1, .inr rfl, h⟩
        · rintro ⟨u1, h1 | h1, h2⟩
          · exact .inl ⟨u1, h1, h2⟩
          · rw [h1] at h2; exact .inr h2
    · rintro ρ ⟨done, acc, s6, s9, s10, e1, e2, e3, e4⟩
      subst e2
      rw [List.append_nil] at e1
      subst e1
      refine ⟨_, rfl, _, rfl, ?_⟩
      rw [keys_data]
      refine q acc e3 fun r => ?_
      rw [e4, Mn]
      constructor
      · rintro ⟨u1, h1, u2, h2, h3⟩
        exact ⟨u1, u2, (ma u1).mp h1, (mb u2).mp h2, h3⟩
      · rintro ⟨u1, u2, h1, h2, h3⟩
        exact ⟨u1, (ma u1).mpr h1, u2, (mb u2).mpr h2, h3⟩
end
end MP
-- PF6
/-! The walks: what a plan means, all forms. -/
namespace MP
open PySem PySem.Spec PyProof.Rows L2 MH LamX
section
variable {P : Program} {w : World} {K : PySem.W.Frag} {mg : Str → Option Value} {base : Heap} {T : Addr}
theorem con_noneT {x : Str} {params : Arguments} {body : List Stmt} {scope : Scope} {f : Addr} {fd : FuncData} {ps : List Str} {k n : Nat} (F : FunD K x x params body scope [] [] f fd) (hm : mg x = some (.ref f)) (hps : ps.length = n)
    (bd : ∀ (kV doc pm : Value) (an : Option Addr) (cdv ct : Value) (us : List Value), us.length = ps.length → bindArgs (PySem.W.fnOf x x params body scope .none kV doc pm an cdv ct) ⟨us, []⟩ = pure (ps.zip us))
    {W : List Dt → (Dt → Prop) → Prop} (hW : ∀ ds Φ, ¬ W ds Φ) : Con P w K mg base x k (spT T n W) :=
  ⟨f, fd, ps, hm, F.kp, F.bindsN bd, fun vs H Q E ⟨h, _⟩ => h.trans hps.symm, fun A outer s H args us vs Q E _ _ _ _ ⟨_, _, ds, Φ, _, _, _, _, h, _⟩ => (hW ds Φ h).elim⟩
theorem sc__law_meaning : FnScope ["_law_plan_here", "_law_text", "_law_names_here", "_law_rows_here", "_law_found", "_law_row", "_tb"] ["_law_plan_here", "_law_text"] (defScope (top 91)) := ⟨rfl, rfl, rfl, by decide +kernel, rfl, by decide +kernel, by decide +kernel⟩
theorem c_meaning_step (W : Wd K mg) (hT : TabB base mg (He.codeOf K ("_law_rows", none)) T) {d k : Nat} (h__law_meaning : Con P w K mg base "_law_meaning" k (spT T 2 (WMean d))) (h__law_two : Con P w K mg base "_law_two" k (spT T 2 (WTwo d))) (hk : 45 ≤ k) : Con P w K mg base "_law_meaning" (k + 1) (spT T 2 (WMean (d + 1))) := by
  have h__law_named := c_named (P := P) (w := w) (base := base) W 12
  have h__law_rows := c_rows (P := P) (w := w) W hT
  have h__law_padded := c_padded (P := P) (w := w) (base := base) W
  have h__law_reads := c_reads (P := P) (w := w) (base := base) W
  obtain ⟨f, fd, hm, F⟩ := W.at_ 49 (x := "_law_meaning") (j := 91)
  refine con_ofT F hm sc__law_meaning rfl (fun _ _ _ _ _ _ us hl => match us, hl with | [_, _], _ => rfl) fun cdv A outer s H E hcd hcr hr => ?_
  refine ⟨_, _,
      (dss_cons (ds_if (dt_cmp (op_eqA (hu64 hr)) rd_eq (de_ix (dv 0) de_int) de_str) (dss_cons (ds_set (i := 2) (de_call h__law_named (hr.mono (by omega)) (da_cons (de_ix (dv 0) de_int) da_nil)) sc__law_meaning.nd)
      (dss_one (ds_ret (FE.de (fe_lst (da_cons (dv 2) (da_cons (de_callT h__law_rows (hr.mono (by omega)) (da_cons (de_ix (dv 0) de_int) (da_cons (dv 2) (da_cons (dv 1) da_nil)))) da_nil))))))) dss_nil)
      (dss_cons (ds_if (dt_cmp (op_eqA (hu64 hr)) rd_eq (de_ix (dv 0) de_int) de_str) (dss_cons (ds_asg (de_callT h__law_meaning (hr.mono (by omega)) (da_cons (de_ix (dv 0) de_int) (da_cons (dv 1) da_nil))) (dg_unl (n := 2) rfl (dgs_cons (dg_name (i := 2) sc__law_meaning.nd) (dgs_cons (dg_name (i := 3) sc__law_meaning.nd) dgs_nil))))
      (dss_cons (ds_setR (i := 4) sc__law_meaning.nd)
      (dss_cons (ds_for PassesOwn.never rfl (di_list (dv 3)) (dg_name (i := 5) sc__law_meaning.nd) (dss_one (ds_rdSet (i := 4) (hu64 hr) (de_call h__law_padded (hr.mono (by omega)) (da_cons (dv 2) (da_cons (dv 5) (da_cons (FE.de (fe_callTy call_list_of rd_list (by rfl) W.z_list PyProof.Rows.boot_list (da_cons (de_ix (dv 0) de_int) da_nil))) da_nil)))))))
      (dss_one (ds_ret (FE.de (fe_lst (da_cons (FE.de (fe_callTy call_list_of rd_list (by rfl) W.z_list PyProof.Rows.boot_list (da_cons (de_ix (dv 0) de_int) da_nil))) (da_cons (FE.de (fe_rdList (i := 4) rfl W.z_list)) da_nil))))))))) dss_nil)
      (dss_cons (ds_if (dt_cmp (op_eqA (hu64 hr)) rd_eq (de_ix (dv 0) de_int) de_str) (dss_cons (ds_asg (de_callT h__law_meaning (hr.mono (by omega)) (da_cons (de_ix (dv 0) de_int) (da_cons (dv 1) da_nil))) (dg_unl (n := 2) rfl (dgs_cons (dg_name (i := 2) sc__law_meaning.nd) (dgs_cons (dg_name (i := 3) sc__law_meaning.nd) dgs_nil))))
      (dss_one (ds_ret (FE.de (fe_lst (da_cons (dv 2) (da_cons (FE.de (fe_lc (own := [("_law_row", 5)]) rfl sc__law_meaning.nd (di_list (dv 3)) (blkOk_by (own := [("_law_row", 5)]) (N := ["_law_plan_here", "_law_text", "_law_names_here", "_law_rows_here", "_law_found", "_law_row", "_tb"]) (sc := defScope (top 91)) (by decide +kernel)) (fun _ _ _ _ _ => (dg_name (i := 5) sc__law_meaning.nd)) (fun _ _ _ _ _ => (DTs.castK (dts_one (dt_truth (de_call h__law_reads (hr.mono (by omega)) (da_cons (dv 5) (da_cons (dv 2) (da_cons (de_ix (dv 0) de_int) (da_cons (de_ix (dv 0) de_int) (da_cons (dv 1) da_nil)))))))) (by dsimp only [Cx.blk] <;> rfl))) (fun _ _ _ _ _ => (dv 5)))) da_nil))))))) dss_nil)
      (dss_one (ds_ret (de_callT h__law_two (hr.mono (by omega)) (da_cons (dv 0) (da_cons (dv 1) da_nil)))))))), fun ds Φ hl hW => ?_⟩
  obtain ⟨N, p, t, e, hp, tk, hm, hd, q⟩ := hW
  subst e
  have t4 := tk.len
  have ns : ∀ {a b : String}, a ≠ b → Str.ofString a ≠ Str.ofString b := fun h z => h (ofString_inj z)
  have lp := Nat.le_trans (names_le hp) tk.few
  by_cases h2 : twoF p = true
  · have e : p.enc = .tuple (.str (Str.ofString p.tag) :: p.rest) := enc_eq p
    have h3 : p.tag ≠ "pattern" ∧ p.tag ≠ "only" ∧ p.tag ≠ "same" := by cases p <;> simp [twoF, Plan.tag] at h2 ⊢
    have go : ∀ {Θ : Bool → Ev → Prop} {ρ : Ev} {c : String}, ρ[0]? = some (.da p.enc) → p.tag ≠ c → Θ false ρ → wTest (w2 fEq (w2 fIx (wVar 0) (wC (.int 0))) (wC (.str (Str.ofString c)))) ρ Θ := fun {Θ ρ c} h1 h2 h3 => t_tagF (by rw [h1, e]) (ns h2) h3
    refine go rfl h3.1 (iteF (go rfl h3.2.1 (iteF (go rfl h3.2.2 (iteF ?_)))))
    simp
    exact ⟨⟨6, rfl⟩, N, p, t, rfl, h2, hp, tk, hm, hd, q⟩
  cases p with
  | join a b => exact absurd rfl h2
  | either a b => exact absurd rfl h2
  | without a b => exact absurd rfl h2
  | pat p =>
    rw [enc_pat]
    refine t_tagT rfl rfl (iteT ?_)
    simp
    refine ⟨N, p, rfl, hp, ⟨6, rfl⟩, N, p, t, _, rfl, hp, hm, tk, lp, fun n hn => names_sub (p := .pat p) hp n hn, fun rs hrs => ?_⟩
    have ho := rowsF_ok (ns := sset p.marks) (t := t) hp
    exact q rs (hrs.symm.nodup ho.1) fun r => hrs.mem_iff
  | only ms a =>
    simp [Plan.depth] at hd
    rw [enc_only]
    refine t_tagF rfl (ns (by decide)) (iteF (t_tagT rfl rfl (iteT ?_)))
    simp
    refine ⟨⟨6, rfl⟩, N, a, t, rfl, hp.1, tk, hm, by omega, fun ra na ma => ?_⟩
    have la := Nat.le_trans (names_le hp.1) tk.few
    have lp : ms.length ≤ 3 := lp
    have oka : ∀ r ∈ ra, RWOk t.length a.names.length r := fun r hr => mn_ok hp.1 ((ma r).mp hr)
    simp
    refine loop_inv (g := rowE) (l := ra) (fun (l : List Row) ρ => ∃ (done acc : List Row) (s5 : Sl), done ++ l = ra ∧ ρ = [Sl.da (PyData.tuple [PyData.str (Str.ofString "only"), PyData.tuple (stsD ms), a.enc]), Sl.da (PyData.str t), Sl.da (PyData.list (stsD a.names)), Sl.da (PyData.list (List.map rowE ra)), Sl.ob (OwR P w (acc.map rowNK)), s5, Sl.tb T lamQ] ∧
      acc.Nodup ∧ ∀ r, r ∈ acc ↔ ∃ r0 ∈ done, r = padF a.names r0 ms) ⟨[], [], _, rfl, rfl, .nil, fun r => by simp⟩ ?_ ?_
    · rintro r l ρ ⟨done, acc, s5, e1, e2, e3, e4⟩ hk C hC
      subst e2
      have sm := rows_le t4 lp e3 fun x hx => by
        obtain ⟨r0, h1, h2⟩ := (e4 x).mp hx
        exact mn_ok (p := .only ms a) hp ⟨r0, (ma r0).mp (by rw [← e1]; exact List.mem_append_left _ h1), h2⟩
      obtain ⟨n1, n2⟩ := addRw_nd e3 (padF a.names r ms)
      simp
      refine ⟨⟨_, rfl⟩, a.names, r, ms, rfl, (oka r hk).len, by omega, by omega, _, rfl, _, (rowNK_data _).symm, rowNK_ok _, by simp; omega, ?_⟩
      rw [addK_rows]
      refine hC _ ⟨done ++ [r], _, _, by rw [← e1]; simp, rfl, n1, fun x => ?_⟩
      rw [n2, e4]
      simp only [List.mem_append, List.mem_singleton]
      constructor
      · rintro (⟨r0, h1, h2⟩ | h)
        · exact ⟨r0, .inl h1, h2⟩
        · exact ⟨r, .inr rfl, h⟩
      · rintro ⟨r0, h1 | h1, h2⟩
        · exact .inl ⟨r0, h1, h2⟩
        · exact .inr (by rw [h2, h1])
    · rintro ρ ⟨done, acc, s5, e1, e2, e3, e4⟩
      subst e2
      rw [List.append_nil] at e1
      subst e1
      simp
      refine ⟨_, rfl, ?_⟩
      rw [keys_data]
      refine q acc e3 fun r => ?_
      rw [e4, Mn]
      constructor
      · rintro ⟨r0, h1, h2⟩
        exact ⟨r0, (ma r0).mp h1, h2⟩
      · rintro ⟨r0, h1, h2⟩
        exact ⟨r0, (ma r0).mpr h1, h2⟩
  | same x y a =>
    simp [Plan.depth] at hd
    rw [enc_same]
    refine t_tagF rfl (ns (by decide)) (iteF (t_tagF rfl (ns (by decide)) (iteF (t_tagT rfl rfl (iteT ?_)))))
    simp
    refine ⟨⟨6, rfl⟩, N, a, t, rfl, hp.1, tk, hm, by omega, fun ra na ma => ?_⟩
    have la := Nat.le_trans (names_le hp.1) tk.few
    have oka : ∀ r ∈ ra, RWOk t.length a.names.length r := fun r hr => mn_ok hp.1 ((ma r).mp hr)
    have lra := rows_le t4 la na oka
    simp
    refine ⟨by omega, ?_⟩
    refine lc_map (F := fun r => if readsF t a.names r x y = true then some (rowE r) else none) (g := rowE) (l := ra) (fun r hr C hC => ?_) ?_
    · simp
      refine ⟨a.names, r, x, y, t, rfl, (oka r hr).len, by omega, hp.2.1, hp.2.2, by omega, ?_⟩
      by_cases c : readsF t a.names r x y = true
      · rw [if_pos c] at hC
        exact .inr ⟨by simp [c], hC⟩
      · rw [if_neg c] at hC
        exact .inl ⟨by simp [c], hC⟩
    · have e : ra.filterMap (fun r => if readsF t a.names r x y = true then some (rowE r) else none) = (ra.filter fun r => readsF t a.names r x y).map rowE := by
        rw [← List.filterMap_eq_map, List.filterMap_filter]
        rfl
      rw [e]
      refine q _ (na.sublist List.filter_sublist) fun r => ?_
      rw [List.mem_filter, ma, Mn]
theorem c_meaning (W : Wd K mg) (hT : TabB base mg (He.codeOf K ("_law_rows", none)) T) : ∀ d, Con P w K mg base "_law_meaning" (2 * d + 45) (spT T 2 (WMean d))
  | 0 => by
    obtain ⟨f, fd, hm, F⟩ := W.at_ 49 (x := "_law_meaning") (j := 91)
    exact con_noneT F hm (ps := ["_law_plan_here", "_law_text"]) rfl (fun _ _ _ _ _ _ us hl => match us, hl with | [_, _], _ => rfl) fun ds Φ ⟨_, _, _, _, _, _, _, h, _⟩ => absurd h (Nat.not_lt_zero _)
  | d + 1 => by
    have h1 := c_meaning W hT d
    have h2 := c_two (d := d) W h1 (by omega)
    exact (c_meaning_step W hT (h1.mono (Nat.le_succ _)) h2 (by omega)).mono (by omega)
end
end MP
-- PL6
/-! The downward rules keep what a plan means. -/
namespace MP
open PySem PySem.Spec PyProof.Rows L2
abbrev Asg := Str → Option (Nat × Nat)
def asg (ns : List Str) (r : Row) : Asg := fun n => (lkN ns r n).join
def restr (ns : List Str) (g : Asg) : Asg := fun n => if n ∈ ns then g n else none
def rdA (t : Str) (g : Asg) (x y : Str) : Bool := match g x, g y with
  | some p, some q => cutS t (some (p.1 : Nat)) (some (p.2 : Nat)) == cutS t (some (q.1 : Nat)) (some (q.2 : Nat))
  | _, _ => false
def mrg (ns : List Str) (g h : Asg) : Asg := fun n => if n ∈ ns then g n else h n
def Tb (t : Str) : Plan → Asg → Prop
  | .pat p, f => ∃ r ∈ rowsF t p (sset p.marks), f = asg (sset p.marks) r
  | .only ns a, f => ∃ g, Tb t a g ∧ f = restr ns g
  | .same x y a, f => Tb t a f ∧ rdA t f x y = true
  | .without a b, f => Tb t a f ∧ ¬ Tb t b f
  | .either a b, f => Tb t a f ∨ Tb t b f
  | .join a b, f => ∃ g h, Tb t a g ∧ Tb t b h ∧ (∀ n ∈ a.names, n ∈ b.names → g n = h n) ∧ f = mrg a.names g h
def Sup (ns : List Str) (f : Asg) : Prop := ∀ n, ¬ n ∈ ns → f n = none
theorem asg_sup (ns : List Str) (r : Row) : Sup ns (asg ns r) := fun n hn => by
  unfold asg
  rw [lkN_none hn]
  rfl
theorem tb_sup {N : List Str} {t : Str} : ∀ {p : Plan} {f : Asg}, p.ok N → Tb t p f → Sup p.names f
  | .pat p, f, h, hf => by
    obtain ⟨r, _, rfl⟩ := hf
    exact asg_sup _ r
  | .only ns a, f, h, hf => by
    obtain ⟨g, _, rfl⟩ := hf
    exact fun n hn => if_neg hn
  | .same x y a, f, h, hf => tb_sup (p := a) h.1 hf.1
  | .without a b, f, h, hf => tb_sup (p := a) h.1 hf.1
  | .either a b, f, h, hf => fun n hn => by
    have hn : ¬ n ∈ sset (a.names ++ b.names) := hn
    rw [mem_sset, List.mem_append, not_or] at hn
    rcases hf with hf | hf
    · exact tb_sup (p := a) h.1 hf n hn.1
    · exact tb_sup (p := b) h.2 hf n hn.2
  | .join a b, f, h, hf => fun n hn => by
    have hn : ¬ n ∈ sset (a.names ++ b.names) := hn
    rw [mem_sset, List.mem_append, not_or] at hn
    obtain ⟨g, k, h1, h2, _, rfl⟩ := hf
    unfold mrg
    rw [if_neg hn.1]
    exact tb_sup (p := b) h.2 h2 n hn.2
theorem lkN_map {ns : List Str} {g : Asg} {n : Str} (hn : n ∈ ns) : lkN ns (ns.map g) n = some (g n) := by
  obtain ⟨s, e⟩ := lkN_some (ns := ns) (r := ns.map g) (by simp) hn
  rw [e]
  unfold lkN at e
  obtain ⟨p, hp, rfl⟩ := Option.map_eq_some_iff.mp e
  have h1 := List.mem_reverse.mp (List.mem_of_find?_eq_some hp)
  have h2 := List.find?_some hp
  simp at h2
  obtain ⟨i, hi, ei⟩ := List.mem_iff_getElem.mp h1
  rw [List.getElem_zip, List.getElem_map] at ei
  rw [← ei, ← h2, ← ei]
theorem asg_map {ns : List Str} {g : Asg} (h : Sup ns g) : asg ns (ns.map g) = g := by
  funext n
  unfold asg
  by_cases c : n ∈ ns
  · rw [lkN_map c]; rfl
  · rw [lkN_none c, h n c]; rfl
theorem map_asg {ns : List Str} {r : Row} (nd : ns.Nodup) (h : r.length = ns.length) : ns.map (asg ns r) = r := by
  refine List.ext_getElem (by simp [h]) fun i h1 h2 => ?_
  rw [List.getElem_map]
  have hi : i < ns.length := by simpa using h1
  unfold asg
  rw [lkN_zip nd (s := r[i]) (List.mem_iff_getElem.mpr ⟨i, by rw [List.length_zip]; omega, by simp⟩)]
  rfl
theorem map_inj {ns : List Str} {g h : Asg} (hg : Sup ns g) (hh : Sup ns h) (e : ns.map g = ns.map h) : g = h := by
  rw [← asg_map hg, ← asg_map hh, e]
theorem pad_map {ns all : List Str} {g : Asg} (h : Sup ns g) : padF ns (ns.map g) all = all.map g := by
  have e := asg_map h
  unfold padF
  exact List.map_congr_left fun n _ => congrFun e n
theorem reads_map {t : Str} {ns : List Str} {g : Asg} {x y : Str} (h : Sup ns g) : readsF t ns (ns.map g) x y = rdA t g x y := by
  have e := asg_map h
  have ex : (lkN ns (ns.map g) x).join = g x := congrFun e x
  have ey : (lkN ns (ns.map g) y).join = g y := congrFun e y
  unfold readsF rdA
  rw [ex, ey]
  all_goals (cases g x <;> cases g y <;> rfl)
theorem with_map {ns os : List Str} {g h : Asg} : withF ns (ns.map g) os (os.map h) = if (∀ n ∈ ns, n ∈ os → g n = h n) then some ((sset (ns ++ os)).map (mrg ns g h)) else none := by
  have hag : agree ns (ns.map g) os (os.map h) ↔ ∀ n ∈ ns, n ∈ os → g n = h n := by
    constructor
    · intro a n h1 h2
      have := a n h1 h2
      rw [lkN_map h1, lkN_map h2] at this
      exact Option.some.inj this
    · intro a n h1 h2
      rw [lkN_map h1, lkN_map h2, a n h1 h2]
  unfold withF
  by_cases c : ∀ n ∈ ns, n ∈ os → g n = h n
  · rw [if_pos (hag.mpr c), if_pos c]
    congr 1
    refine List.map_congr_left fun n hn => ?_
    unfold mrg
    by_cases c2 : n ∈ ns
    · rw [if_pos c2, if_pos c2, lkN_map c2]; rfl
    · have c3 : n ∈ os := by
        rcases List.mem_append.mp (mem_sset.mp hn) with z | z
        · exact absurd z c2
        · exact z
      rw [if_neg c2, if_neg c2, lkN_map c3]; rfl
  · rw [if_neg (fun z => c (hag.mp z)), if_neg c]
theorem mn_tb {N : List Str} {t : Str} : ∀ {p : Plan} (_ : p.ok N) (r : Row), Mn t p r ↔ ∃ f, Tb t p f ∧ r = p.names.map f
  | .pat p, h, r => by
    have nd := (srt_sset p.marks).nodup
    have ok := rowsF_ok (ns := sset p.marks) (t := t) h
    constructor
    · intro hr
      exact ⟨asg (sset p.marks) r, ⟨r, hr, rfl⟩, (map_asg nd (ok.2 r hr).len).symm⟩
    · rintro ⟨f, ⟨r0, h0, rfl⟩, e⟩
      have e : r = (sset p.marks).map (asg (sset p.marks) r0) := e
      rw [map_asg nd (ok.2 r0 h0).len] at e
      rw [e]
      exact h0
  | .only ns a, h, r => by
    have ih := mn_tb (t := t) (p := a) h.1
    have key : ∀ g, ns.map (restr ns g) = ns.map g := fun g => List.map_congr_left fun n hn => if_pos hn
    constructor
    · rintro ⟨r0, h0, rfl⟩
      obtain ⟨g, hg, rfl⟩ := (ih r0).mp h0
      exact ⟨restr ns g, ⟨g, hg, rfl⟩, by rw [pad_map (tb_sup h.1 hg)]; exact (key g).symm⟩
    · rintro ⟨f, ⟨g, hg, rfl⟩, e⟩
      exact ⟨a.names.map g, (ih _).mpr ⟨g, hg, rfl⟩, by rw [pad_map (tb_sup h.1 hg), ← key g]; exact e⟩
  | .same x y a, h, r => by
    have ih := mn_tb (t := t) (p := a) h.1
    constructor
    · rintro ⟨h1, h2⟩
      obtain ⟨g, hg, rfl⟩ := (ih r).mp h1
      rw [reads_map (tb_sup h.1 hg)] at h2
      exact ⟨g, ⟨hg, h2⟩, rfl⟩
    · rintro ⟨f, ⟨hg, h2⟩, e⟩
      have e : r = a.names.map f := e
      subst e
      exact ⟨(ih _).mpr ⟨f, hg, rfl⟩, by rw [reads_map (tb_sup h.1 hg)]; exact h2⟩
  | .without a b, h, r => by
    have iha := mn_tb (t := t) (p := a) h.1
    have ihb := mn_tb (t := t) (p := b) h.2.1
    constructor
    · rintro ⟨h1, h2⟩
      obtain ⟨g, hg, rfl⟩ := (iha r).mp h1
      exact ⟨g, ⟨hg, fun z => h2 ((ihb _).mpr ⟨g, z, by rw [h.2.2]⟩)⟩, rfl⟩
    · rintro ⟨f, ⟨hg, h2⟩, e⟩
      have e : r = a.names.map f := e
      subst e
      refine ⟨(iha _).mpr ⟨f, hg, rfl⟩, fun z => h2 ?_⟩
      obtain ⟨g, z1, z2⟩ := (ihb _).mp z
      rw [h.2.2] at z2
      have : f = g := map_inj (by rw [← h.2.2]; exact tb_sup h.1 hg) (tb_sup h.2.1 z1) z2
      rw [this]
      exact z1
  | .either a b, h, r => by
    have iha := mn_tb (t := t) (p := a) h.1
    have ihb := mn_tb (t := t) (p := b) h.2
    constructor
    · rintro (⟨r0, h0, rfl⟩ | ⟨r0, h0, rfl⟩)
      · obtain ⟨g, hg, rfl⟩ := (iha r0).mp h0
        exact ⟨g, .inl hg, by rw [pad_map (tb_sup h.1 hg)]; rfl⟩
      · obtain ⟨g, hg, rfl⟩ := (ihb r0).mp h0
        exact ⟨g, .inr hg, by rw [pad_map (tb_sup h.2 hg)]; rfl⟩
    · rintro ⟨f, hg | hg, e⟩
      · exact .inl ⟨_, (iha _).mpr ⟨f, hg, rfl⟩, by rw [pad_map (tb_sup h.1 hg)]; exact e⟩
      · exact .inr ⟨_, (ihb _).mpr ⟨f, hg, rfl⟩, by rw [pad_map (tb_sup h.2 hg)]; exact e⟩
  | .join a b, h, r => by
    have iha := mn_tb (t := t) (p := a) h.1
    have ihb := mn_tb (t := t) (p := b) h.2
    constructor
    · rintro ⟨r1, r2, h1, h2, e⟩
      obtain ⟨g, hg, rfl⟩ := (iha r1).mp h1
      obtain ⟨k, hk, rfl⟩ := (ihb r2).mp h2
      rw [with_map] at e
      split at e
      · rename_i c
        exact ⟨mrg a.names g k, ⟨g, k, hg, hk, c, rfl⟩, (Option.some.inj e).symm⟩
      · cases e
    · rintro ⟨f, ⟨g, k, hg, hk, c, rfl⟩, e⟩
      exact ⟨_, _, (iha _).mpr ⟨g, hg, rfl⟩, (ihb _).mpr ⟨k, hk, rfl⟩, by rw [with_map, if_pos c]; exact congrArg some e.symm⟩
/-! ### each rule keeps the table -/
theorem restr_among {ns : List Str} {a : Plan} {g : Asg} (h : Sup a.names g) : restr (among ns a) g = restr ns g := by
  funext n
  unfold restr
  by_cases c : n ∈ ns
  · by_cases c2 : n ∈ a.names
    · rw [if_pos (mem_among.mpr ⟨c, c2⟩), if_pos c]
    · rw [if_neg (fun z => c2 (mem_among.mp z).2), if_pos c, h n c2]
  · rw [if_neg (fun z => c (mem_among.mp z).1), if_neg c]
theorem shared_iff {ns : List Str} {a b : Plan} (h : shared ns a b = true) : ∀ n ∈ a.names, n ∈ b.names → n ∈ ns := by
  intro n h1 h2
  unfold shared at h
  rw [List.isEmpty_iff, List.filter_eq_nil_iff] at h
  have := h n h1
  simpa [h2] using this
theorem deed_tb {N : List Str} {t : Str} {k : Nat} {p o : Plan} (hp : p.ok N) (h : deed k p = some o) (f : Asg) : Tb t p f ↔ Tb t o f := by
  unfold deed at h
  split at h
  · -- 5
    rename_i ns a b
    cases h
    obtain ⟨⟨ha, hb⟩, hs, hn⟩ := hp
    constructor
    · rintro ⟨g, hg | hg, rfl⟩
      · exact .inl ⟨g, hg, (restr_among (tb_sup ha hg)).symm⟩
      · exact .inr ⟨g, hg, (restr_among (tb_sup hb hg)).symm⟩
    · rintro (⟨g, hg, rfl⟩ | ⟨g, hg, rfl⟩)
      · exact ⟨g, .inl hg, restr_among (tb_sup ha hg)⟩
      · exact ⟨g, .inr hg, restr_among (tb_sup hb hg)⟩
  · -- 6
    rename_i ns ms a
    cases h
    obtain ⟨⟨ha, hs2, hn2⟩, hs, hn⟩ := hp
    have key : ∀ g, restr ns (restr ms g) = restr ns g := fun g => by
      funext n
      unfold restr
      by_cases c : n ∈ ns
      · have : n ∈ ms := hn n c
        rw [if_pos c, if_pos c, if_pos this]
      · rw [if_neg c, if_neg c]
    constructor
    · rintro ⟨g0, ⟨g, hg, rfl⟩, rfl⟩
      exact ⟨g, hg, key g⟩
    · rintro ⟨g, hg, rfl⟩
      exact ⟨_, ⟨g, hg, rfl⟩, (key g).symm⟩
  · -- 7
    rename_i ns a
    obtain ⟨e, rfl⟩ := some_of_ite h
    have key : ∀ g, Tb t a g → restr ns g = g := fun g hg => by
      funext n
      unfold restr
      by_cases c : n ∈ ns
      · rw [if_pos c]
      · rw [if_neg c, tb_sup hp.1 hg n (by rw [← e]; exact c)]
    constructor
    · rintro ⟨g, hg, rfl⟩
      rw [key g hg]
      exact hg
    · intro hf
      exact ⟨f, hf, (key f hf).symm⟩
  · -- 12
    rename_i ns a b
    obtain ⟨e, rfl⟩ := some_of_ite h
    obtain ⟨⟨ha, hb⟩, hs, hn⟩ := hp
    have sh := shared_iff e
    have key : ∀ g k, Tb t a g → Tb t b k → restr ns (mrg a.names g k) = mrg (among ns a) (restr (among ns a) g) (restr (among ns b) k) := fun g k hg hk => by
      funext n
      show (if n ∈ ns then (if n ∈ a.names then g n else k n) else none) = if n ∈ among ns a then (if n ∈ among ns a then g n else none) else (if n ∈ among ns b then k n else none)
      by_cases c : n ∈ ns
      · by_cases c2 : n ∈ a.names
        · rw [if_pos c, if_pos c2, if_pos (mem_among.mpr ⟨c, c2⟩), if_pos (mem_among.mpr ⟨c, c2⟩)]
        · rw [if_pos c, if_neg c2, if_neg (fun z => c2 (mem_among.mp z).2)]
          by_cases c3 : n ∈ b.names
          · rw [if_pos (mem_among.mpr ⟨c, c3⟩)]
          · rw [if_neg (fun z => c3 (mem_among.mp z).2), tb_sup hb hk n c3]
      · rw [if_neg c, if_neg (fun z => c (mem_among.mp z).1), if_neg (fun z => c (mem_among.mp z).1)]
    constructor
    · rintro ⟨g0, ⟨g, k, hg, hk, ag, rfl⟩, rfl⟩
      refine ⟨_, _, ⟨g, hg, rfl⟩, ⟨k, hk, rfl⟩, fun n h1 h2 => ?_, key g k hg hk⟩
      have h1 : n ∈ among ns a := h1
      have h2 : n ∈ among ns b := h2
      unfold restr
      rw [if_pos h1, if_pos h2]
      exact ag n (mem_among.mp h1).2 (mem_among.mp h2).2
    · rintro ⟨g', k', ⟨g, hg, rfl⟩, ⟨k, hk, rfl⟩, ag, rfl⟩
      refine ⟨_, ⟨g, k, hg, hk, fun n h1 h2 => ?_, rfl⟩, (key g k hg hk).symm⟩
      have hns := sh n h1 h2
      have h3 : n ∈ among ns a := mem_among.mpr ⟨hns, h1⟩
      have h4 : n ∈ among ns b := mem_among.mpr ⟨hns, h2⟩
      have := ag n h3 h4
      unfold restr at this
      rw [if_pos h3, if_pos h4] at this
      exact this
  · -- 14
    rename_i x y a b
    obtain ⟨e, rfl⟩ := some_of_ite h
    constructor
    · rintro ⟨h1 | h1, h2⟩
      · exact .inl ⟨h1, h2⟩
      · exact .inr ⟨h1, h2⟩
    · rintro (⟨h1, h2⟩ | ⟨h1, h2⟩)
      · exact ⟨.inl h1, h2⟩
      · exact ⟨.inr h1, h2⟩
  · -- 15
    rename_i x y a b
    obtain ⟨e, rfl⟩ := some_of_ite h
    obtain ⟨hx, hy⟩ := both_of e
    have key : ∀ g k, rdA t (mrg a.names g k) x y = rdA t g x y := fun g k => by
      unfold rdA mrg
      rw [if_pos hx, if_pos hy]
    constructor
    · rintro ⟨⟨g, k, hg, hk, ag, rfl⟩, h2⟩
      rw [key] at h2
      exact ⟨g, k, ⟨hg, h2⟩, hk, ag, rfl⟩
    · rintro ⟨g, k, ⟨hg, h2⟩, hk, ag, rfl⟩
      exact ⟨⟨g, k, hg, hk, ag, rfl⟩, by rw [← key g k] at h2; exact h2⟩
  · -- 16
    rename_i x y ns a
    cases h
    obtain ⟨⟨ha, hs, hn⟩, hx, hy⟩ := hp
    have hx : x ∈ ns := hx
    have hy : y ∈ ns := hy
    have key : ∀ g, rdA t (restr ns g) x y = rdA t g x y := fun g => by
      unfold rdA restr
      rw [if_pos hx, if_pos hy]
    constructor
    · rintro ⟨⟨g, hg, rfl⟩, h2⟩
      rw [key] at h2
      exact ⟨g, ⟨hg, h2⟩, rfl⟩
    · rintro ⟨g, ⟨hg, h2⟩, rfl⟩
      exact ⟨⟨g, hg, rfl⟩, by rw [key]; exact h2⟩
  · -- 17
    rename_i x y a b
    cases h
    constructor
    · rintro ⟨⟨h1, h2⟩, h3⟩
      exact ⟨⟨h1, h3⟩, h2⟩
    · rintro ⟨⟨h1, h3⟩, h2⟩
      exact ⟨⟨h1, h2⟩, h3⟩
  · cases h
theorem put_tb {N : List Str} {t : Str} : ∀ {r : List Nat} {p q o : Plan}, p.ok N → atPath p r = some q → Kept N q o → (∀ f, Tb t q f ↔ Tb t o f) → ∀ f, Tb t p f ↔ Tb t (putAt p r o) f
  | [], p, q, o, h, e, _, k, f => by
    have e : some p = some q := e
    cases e
    exact k f
  | i :: r, p, q, o, h, e, kk, k, f => by
    unfold atPath at e
    unfold putAt
    cases z : p.inner[i]? with
    | none => exact Iff.rfl
    | some u =>
      rw [z] at e
      have hu := inner_ok h u (List.mem_of_getElem? z)
      have ih := put_tb hu e kk k
      have nm : (putAt u r o).names = u.names := (put_kept hu e kk).nm
      show Tb t p f ↔ Tb t (withInner p (p.inner.set i (putAt u r o))) f
      have one : ∀ {x : Plan}, [x][i]? = some u → i = 0 ∧ x = u := fun {x} hz => by
        cases i with
        | zero => simpa using hz
        | succ j => simp at hz
      have two : ∀ {x y : Plan}, [x, y][i]? = some u → (i = 0 ∧ x = u) ∨ (i = 1 ∧ y = u) := fun {x y} hz => by
        match i with
        | 0 => exact .inl (by simpa using hz)
        | 1 => exact .inr (by simpa using hz)
        | j + 2 => simp at hz
      cases p with
      | pat p => simp [Plan.inner] at z
      | join a b =>
        rcases two (x := a) (y := b) z with ⟨rfl, rfl⟩ | ⟨rfl, rfl⟩
        · simp only [withInner, Plan.inner, List.set_cons_zero, Tb, ih, nm]
        · simp only [withInner, Plan.inner, List.set_cons_zero, List.set_cons_succ, Tb, ih, nm]
      | either a b =>
        rcases two (x := a) (y := b) z with ⟨rfl, rfl⟩ | ⟨rfl, rfl⟩
        · simp only [withInner, Plan.inner, List.set_cons_zero, Tb, ih]
        · simp only [withInner, Plan.inner, List.set_cons_zero, List.set_cons_succ, Tb, ih]
      | without a b =>
        rcases two (x := a) (y := b) z with ⟨rfl, rfl⟩ | ⟨rfl, rfl⟩
        · simp only [withInner, Plan.inner, List.set_cons_zero, Tb, ih]
        · simp only [withInner, Plan.inner, List.set_cons_zero, List.set_cons_succ, Tb, ih]
      | only ns a =>
        obtain ⟨rfl, rfl⟩ := one (x := a) z
        simp only [withInner, Plan.inner, List.set_cons_zero, Tb, ih]
      | same x y a =>
        obtain ⟨rfl, rfl⟩ := one (x := a) z
        simp only [withInner, Plan.inner, List.set_cons_zero, Tb, ih]
theorem steps_tb {N : List Str} {txt : Str} {p t : Plan} {ms : List (List Nat × Nat)} (h : Steps p ms t) (g : Good N p) : ∀ f, Tb txt p f ↔ Tb txt t f := by
  induction h with
  | nil => exact fun f => Iff.rfl
  | cons a b c d _ ih =>
    intro f
    have hq := (at_ok g.ok c).1
    rw [put_tb g.ok c (deed_kept hq d) (deed_tb hq d) f]
    exact ih (good_step g c d).1 f
/-- THE PLAIN LAW: led downward, a plan means the same -/
theorem steps_mn {N : List Str} {txt : Str} {p t : Plan} {ms : List (List Nat × Nat)} (h : Steps p ms t) (g : Good N p) (r : Row) : Mn txt t r ↔ Mn txt p r := by
  obtain ⟨g2, n2⟩ := h.good g
  rw [mn_tb g2.ok, mn_tb g.ok, n2]
  constructor
  · rintro ⟨f, h1, h2⟩
    exact ⟨f, (steps_tb h g f).mpr h1, h2⟩
  · rintro ⟨f, h1, h2⟩
    exact ⟨f, (steps_tb h g f).mp h1, h2⟩
end MP
-- PL7
/-! Lowering, plain: how many moves; what stands in a plan is kept; plans as data. -/
namespace MP
open PySem PySem.Spec PyProof.Rows L2
theorem steps_len {N : List Str} {p t : Plan} {ms : List (List Nat × Nat)} (h : Steps p ms t) (g : Good N p) : ms.length + wgt t ≤ wgt p := by
  induction h with
  | nil => simp
  | cons a b c d _ ih =>
    obtain ⟨g1, _, w1⟩ := good_step g c d
    have := ih g1
    rw [List.length_cons]
    omega
theorem deed_mok {k : Nat} {p o : Plan} (hp : p.mok) (h : deed k p = some o) : o.mok := by
  unfold deed at h
  split at h
  · cases h; exact hp
  · cases h; exact hp
  · obtain ⟨_, rfl⟩ := some_of_ite h; exact hp
  · obtain ⟨_, rfl⟩ := some_of_ite h; exact hp
  · obtain ⟨_, rfl⟩ := some_of_ite h; exact hp
  · obtain ⟨_, rfl⟩ := some_of_ite h; exact hp
  · cases h; exact hp
  · cases h; exact hp
  · cases h
theorem at_mok : ∀ {r : List Nat} {p q : Plan}, p.mok → atPath p r = some q → q.mok
  | [], p, q, h, e => by
    have e : some p = some q := e
    cases e
    exact h
  | i :: r, p, q, h, e => by
    unfold atPath at e
    cases z : p.inner[i]? with
    | none => rw [z] at e; cases e
    | some u =>
      rw [z] at e
      refine at_mok (p := u) ?_ e
      have hu := List.mem_of_getElem? z
      cases p <;> simp [Plan.inner] at hu
      · rcases hu with rfl | rfl
        · exact h.1
        · exact h.2
      · rcases hu with rfl | rfl
        · exact h.1
        · exact h.2
      · rcases hu with rfl | rfl
        · exact h.1
        · exact h.2
      · rw [hu]; exact h
      · rw [hu]; exact h
theorem put_mok : ∀ {r : List Nat} {p o : Plan}, p.mok → o.mok → (putAt p r o).mok
  | [], p, o, _, k => k
  | i :: r, p, o, h, k => by
    unfold putAt
    cases z : p.inner[i]? with
    | none => exact h
    | some u =>
      have hu : (putAt u r o).mok := by
        refine put_mok (p := u) ?_ k
        have hu := List.mem_of_getElem? z
        cases p <;> simp [Plan.inner] at hu
        · rcases hu with rfl | rfl
          · exact h.1
          · exact h.2
        · rcases hu with rfl | rfl
          · exact h.1
          · exact h.2
        · rcases hu with rfl | rfl
          · exact h.1
          · exact h.2
        · rw [hu]; exact h
        · rw [hu]; exact h
      show (withInner p (p.inner.set i (putAt u r o))).mok
      have hi : i < p.inner.length := (List.getElem?_eq_some_iff.mp z).1
      cases p with
      | pat p => exact h
      | join a b =>
        match i, hi with
        | 0, _ => exact ⟨hu, h.2⟩
        | 1, _ => exact ⟨h.1, hu⟩
      | either a b =>
        match i, hi with
        | 0, _ => exact ⟨hu, h.2⟩
        | 1, _ => exact ⟨h.1, hu⟩
      | without a b =>
        match i, hi with
        | 0, _ => exact ⟨hu, h.2⟩
        | 1, _ => exact ⟨h.1, hu⟩
      | only ns a =>
        match i, hi with
        | 0, _ => exact hu
      | same x y a =>
        match i, hi with
        | 0, _ => exact hu
theorem steps_mok {p t : Plan} {ms : List (List Nat × Nat)} (h : Steps p ms t) (g : p.mok) : t.mok := by
  induction h with
  | nil => exact g
  | cons a b c d _ ih => exact ih (put_mok g (deed_mok (at_mok g c) d))
/-! ### plans as data -/
theorem lay_pat {N : List Str} (hN : ∀ n ∈ N, sOk n) : ∀ {d : Nat} {p : Pat}, pok N d p → PyData.canLay0 p.enc = true ∧ p.enc.depth ≤ 2 * d
  | 0, _, h => h.elim
  | d + 1, p, h => by
    have ih := fun (q : Pat) (hq : pok N d q) => lay_pat hN hq
    cases p with
    | sign s =>
      have hs : PyData.strOk s = true := h.2.2
      rw [penc_sign]
      simp [PyData.canLay0, PyData.canLayAll0, PyData.depth, PyData.depthAll, hs]
      exact ⟨by decide +kernel, by omega⟩
    | row ps =>
      obtain ⟨h1, h2⟩ := lay_map (l := ps) (g := Pat.enc) (D := 2 * d) fun q hq => ih q (h.2.2 q hq)
      rw [penc_row]
      simp [PyData.canLay0, PyData.canLayAll0, PyData.depth, PyData.depthAll, h1]
      exact ⟨by decide +kernel, by omega⟩
    | any ps =>
      obtain ⟨h1, h2⟩ := lay_map (l := ps) (g := Pat.enc) (D := 2 * d) fun q hq => ih q (h.2.2 q hq)
      rw [penc_any]
      simp [PyData.canLay0, PyData.canLayAll0, PyData.depth, PyData.depthAll, h1]
      exact ⟨by decide +kernel, by omega⟩
    | rep lo hi q =>
      obtain ⟨h1, h2⟩ := ih q h.2.2.2
      have h3 : PyData.canLay0 (hiD hi) = true ∧ (hiD hi).depth = 0 := by cases hi <;> simp [hiD, PyData.canLay0, PyData.depth]
      rw [penc_rep]
      simp [PyData.canLay0, PyData.canLayAll0, PyData.depth, PyData.depthAll, h1, h3.1, h3.2]
      exact ⟨by decide +kernel, by omega⟩
    | mark n q =>
      obtain ⟨h1, h2⟩ := ih q h.2.2
      have hs : PyData.strOk n = true := (hN n h.2.1).2
      rw [penc_mark]
      simp [PyData.canLay0, PyData.canLayAll0, PyData.depth, PyData.depthAll, h1, hs]
      exact ⟨by decide +kernel, by omega⟩
theorem lay_plan {N : List Str} (hN : ∀ n ∈ N, sOk n) : ∀ {p : Plan}, p.ok N → PyData.canLay0 p.enc = true ∧ p.enc.depth ≤ 25 + 2 * p.depth
  | .pat p, h => by
    obtain ⟨h1, h2⟩ := lay_pat hN h
    rw [enc_pat]
    simp [PyData.canLay0, PyData.canLayAll0, PyData.depth, PyData.depthAll, h1, Plan.depth]
    exact ⟨by decide +kernel, by omega⟩
  | .join a b, h => by
    obtain ⟨h1, h2⟩ := lay_plan hN (p := a) h.1
    obtain ⟨h3, h4⟩ := lay_plan hN (p := b) h.2
    rw [enc_join]
    simp [PyData.canLay0, PyData.canLayAll0, PyData.depth, PyData.depthAll, h1, h3, Plan.depth]
    exact ⟨by decide +kernel, by omega⟩
  | .either a b, h => by
    obtain ⟨h1, h2⟩ := lay_plan hN (p := a) h.1
    obtain ⟨h3, h4⟩ := lay_plan hN (p := b) h.2
    rw [enc_either]
    simp [PyData.canLay0, PyData.canLayAll0, PyData.depth, PyData.depthAll, h1, h3, Plan.depth]
    exact ⟨by decide +kernel, by omega⟩
  | .without a b, h => by
    obtain ⟨h1, h2⟩ := lay_plan hN (p := a) h.1
    obtain ⟨h3, h4⟩ := lay_plan hN (p := b) h.2.1
    rw [enc_without]
    simp [PyData.canLay0, PyData.canLayAll0, PyData.depth, PyData.depthAll, h1, h3, Plan.depth]
    exact ⟨by decide +kernel, by omega⟩
  | .only ns a, h => by
    obtain ⟨h1, h2⟩ := lay_plan hN (p := a) h.1
    obtain ⟨h3, h4⟩ := lay_map (l := ns) (g := PyData.str) (D := 0) fun n hn => by
      have : PyData.strOk n = true := (hN n (names_sub h.1 n (h.2.2 n hn))).2
      simp [PyData.canLay0, PyData.depth, this]
    rw [enc_only]
    unfold stsD
    simp [PyData.canLay0, PyData.canLayAll0, PyData.depth, PyData.depthAll, h1, h3, Plan.depth]
    exact ⟨by decide +kernel, by omega⟩
  | .same x y a, h => by
    obtain ⟨h1, h2⟩ := lay_plan hN (p := a) h.1
    have hx : PyData.strOk x = true := (hN x (names_sub h.1 x h.2.1)).2
    have hy : PyData.strOk y = true := (hN y (names_sub h.1 y h.2.2)).2
    rw [enc_same]
    simp [PyData.canLay0, PyData.canLayAll0, PyData.depth, PyData.depthAll, h1, hx, hy, Plan.depth]
    exact ⟨by decide +kernel, by omega⟩
mutual
theorem eqv_refl : ∀ d : Dt, PyData.canLay0 d = true → PyData.eqv d d = true
  | .none, _ => by simp [PyData.eqv]
  | .bool b, _ => by simp [PyData.eqv]
  | .int i, _ => by simp [PyData.eqv]
  | .str x, _ => by simp [PyData.eqv]
  | .list xs, h => by
    rw [PyData.canLay0] at h
    rw [PyData.eqv]
    exact eqvAll_refl xs h
  | .tuple xs, h => by
    rw [PyData.canLay0] at h
    rw [PyData.eqv]
    exact eqvAll_refl xs h
  | .dict _, h => by
    rw [PyData.canLay0] at h
    cases h
theorem eqvAll_refl : ∀ ds : List Dt, PyData.canLayAll0 ds = true → PyData.eqvAll ds ds = true
  | [], _ => by simp [PyData.eqvAll]
  | d :: ds, h => by
    rw [PyData.canLayAll0, Bool.and_eq_true] at h
    rw [PyData.eqvAll, eqv_refl d h.1, eqvAll_refl ds h.2]
    rfl
end
theorem plan_eq {N : List Str} {p : Plan} (g : Good N p) : EqOk p.enc p.enc ∧ PyData.eqv p.enc p.enc = true := by
  obtain ⟨h1, h2⟩ := lay_plan g.nok.short g.ok
  have hd := g.dp
  have s : SeqAt.shaped p.enc = true := by
    unfold SeqAt.shaped
    rw [h1]
    simp
    omega
  exact ⟨.inr ⟨s, s⟩, eqv_refl _ h1⟩
end MP
-- PG1
/-! The walk of the law itself. -/
namespace MP
open PySem PySem.Spec PyProof.Rows L2 MH LamX
theorem texts_at : ∀ i : Nat, i < 8 → ∃ x : Str, atI [PyData.str "", PyData.str "a", PyData.str "ab", PyData.str "bab", PyData.str "aab", PyData.str "aa", PyData.str "abba", PyData.str "aaba"] ((i : Nat) : Int) = some (.str x) ∧ x.length ≤ 4 := by
  intro i hi
  match i, hi with
  | 0, _ => exact ⟨"", rfl, by decide +kernel⟩
  | 1, _ => exact ⟨"a", rfl, by decide +kernel⟩
  | 2, _ => exact ⟨"ab", rfl, by decide +kernel⟩
  | 3, _ => exact ⟨"bab", rfl, by decide +kernel⟩
  | 4, _ => exact ⟨"aab", rfl, by decide +kernel⟩
  | 5, _ => exact ⟨"aa", rfl, by decide +kernel⟩
  | 6, _ => exact ⟨"abba", rfl, by decide +kernel⟩
  | 7, _ => exact ⟨"aaba", rfl, by decide +kernel⟩
section
variable {P : Program} {w : World} {K : PySem.W.Frag} {mg : Str → Option Value} {base : Heap} {T : Addr}
theorem sc_law : FnScope ["_law_script", "_law_deck_here", "_law_size", "_law_names_here", "_law_many", "_law_plan_here", "_law_found", "_law_other", "_law_hops", "_law_move", "_law_text", "_law_due", "_law_rows_here", "_law_own", "_law_more", "_tb"] ["_law_script"] (defScope (top 99)) := ⟨rfl, rfl, rfl, by decide +kernel, rfl, by decide +kernel, by decide +kernel⟩
theorem law_rest (W : Wd K mg) (hT : TabB base mg (He.codeOf K ("_law_rows", none)) T) (f : Addr) (cdv : Value) (A : Around) (outer : List Env) (s : Shared) (H : Hp) (E : XK) (hr : Room 70 (A.deeper (envOfC "law" (defScope (top 99)) s.heap.objs.size f cdv))) :
    ∃ t z, DSs (cxOf CX0 P w K mg base ["_law_script", "_law_deck_here", "_law_size", "_law_names_here", "_law_many", "_law_plan_here", "_law_found", "_law_other", "_law_hops", "_law_move", "_law_text", "_law_due", "_law_rows_here", "_law_own", "_law_more", "_tb"] "law" (defScope (top 99)) f cdv A outer s H E).nox ((defBody (top 99)).drop 1) t z ∧
      ∀ a : Addr, z { nx := fun _ => False, rt := fun d _ => d = .bool true } [.no, .dk a 1000000, .tb T lamQ, .tb T lamQ, .tb T lamQ, .tb T lamQ, .tb T lamQ, .tb T lamQ, .tb T lamQ, .tb T lamQ, .tb T lamQ, .tb T lamQ, .tb T lamQ, .tb T lamQ, .tb T lamQ, .tb T lamQ] := by
  have h__law_draw := c_draw (P := P) (w := w) (base := base) W
  have h__law_names := c_names (P := P) (w := w) (base := base) W
  have h__law_plan := c_plan (P := P) (w := w) (base := base) W 3
  have h__law_topped := c_topped (P := P) (w := w) (base := base) W
  have h_lowered := c_lowered (P := P) (w := w) (base := base) W
  have h_led := c_led (P := P) (w := w) (base := base) W
  have h__law_low := c_low (P := P) (w := w) (base := base) W
  have h__law_meaning := c_meaning (P := P) (w := w) W hT 6
  refine ⟨_, _,
(dss_cons (ds_set (i := 2) (de_callK (i := 1) h__law_draw (hr.mono (by omega)) (da_cons de_int da_nil)) sc_law.nd)
      (dss_cons (ds_set (i := 3) (de_callK (i := 1) h__law_names (hr.mono (by omega)) (da_cons (de_op op_add rd_rI0 de_int (dv 2)) da_nil)) sc_law.nd)
      (dss_cons (ds_set (i := 4) (de_callK (i := 1) h__law_draw (hr.mono (by omega)) (da_cons (de_op op_add rd_rI0 (de_callB call_len rd_len (by rfl) W.z_len boot_len (da_cons (dv 3) da_nil)) de_int) da_nil)) sc_law.nd)
      (dss_cons (ds_set (i := 5) (de_callK (i := 1) h__law_topped (hr.mono (by omega)) (da_cons (de_callK (i := 1) h__law_plan (hr.mono (by omega)) (da_cons (FE.de (fe_slL (dv 3) do_none (do_some (dv 4)))) (da_cons (FE.de (fe_slL (dv 3) (do_some (dv 4)) do_none)) (da_cons (de_op op_add rd_rI0 de_int (de_callK (i := 1) h__law_draw (hr.mono (by omega)) (da_cons de_int da_nil))) da_nil)))) (da_cons (FE.de (fe_slL (dv 3) do_none (do_some (dv 4)))) da_nil))) sc_law.nd)
      (dss_cons (ds_set (i := 6) (de_call h_lowered (hr.mono (by omega)) (da_cons (dv 5) da_nil)) sc_law.nd)
      (dss_cons (ds_if (dw_or (dt_not (dt_truth (de_isinst (x := "") (n := "tuple") (dv 6) (by rfl) W.z_isinstance (by rfl) W.z_tuple (by decide +kernel)))) (dw_or (dt_cmp (op_neA (hu64 hr)) rd_ne (de_callB call_len rd_len (by rfl) W.z_len boot_len (da_cons (dv 6) da_nil)) de_int) (dw_or1 (dt_not (dt_truth (de_isinst (x := "") (n := "tuple") (de_ix (dv 6) de_int) (by rfl) W.z_isinstance (by rfl) W.z_tuple (by decide +kernel))))))).dt (dss_one (ds_ret de_bl)) dss_nil)
      (dss_cons (ds_asg (dv 6) (dg_tup (n := 2) rfl (dgs_cons (dg_name (i := 7) sc_law.nd) (dgs_cons (dg_name (i := 8) sc_law.nd) dgs_nil))))
      (dss_cons (ds_if (dw_or (dt_cmp (op_neA (hu64 hr)) rd_ne (FE.de (fe_lc (own := [("_law_move", 9)]) rfl sc_law.nd (di_tup (dv 8)) (blkOk_by (own := [("_law_move", 9)]) (N := ["_law_script", "_law_deck_here", "_law_size", "_law_names_here", "_law_many", "_law_plan_here", "_law_found", "_law_other", "_law_hops", "_law_move", "_law_text", "_law_due", "_law_rows_here", "_law_own", "_law_more", "_tb"]) (sc := defScope (top 99)) (by decide +kernel)) (fun _ _ _ _ _ => (dg_name (i := 9) sc_law.nd)) (fun _ _ _ _ _ => (DTs.castK (dts_one (dt_cmp (op_neA (hu64 hr)) rd_ne (de_ix (dv 9) de_int) de_int)) (by dsimp only [Cx.blk] <;> rfl))) (fun _ _ _ _ _ => (dv 9)))) (FE.de (fe_lst da_nil))) (dw_or (dt_cmp (op_neA (hu64 hr)) rd_ne (de_call h_led (hr.mono (by omega)) (da_cons (dv 5) (da_cons (FE.de (fe_callTy call_list_of rd_list (by rfl) W.z_list PyProof.Rows.boot_list (da_cons (dv 8) da_nil))) da_nil))) (dv 7)) (dw_or1 (dt_not (dt_truth (de_call h__law_low (hr.mono (by omega)) (da_cons (dv 7) da_nil))))))).dt (dss_one (ds_ret de_bl)) dss_nil)
      (dss_cons (ds_set (i := 10) (de_ix (FE.de (fe_lst (da_cons de_str (da_cons de_str (da_cons de_str (da_cons de_str (da_cons de_str (da_cons de_str (da_cons de_str (da_cons de_str da_nil)))))))))) (de_callK (i := 1) h__law_draw (hr.mono (by omega)) (da_cons (de_op op_sub rd_rI0 de_int (de_op op_mul rd_rI de_int (dv 2))) da_nil))) sc_law.nd)
      (dss_cons (ds_asg (de_callT h__law_meaning (hr.mono (by omega)) (da_cons (dv 5) (da_cons (dv 10) da_nil))) (dg_unl (n := 2) rfl (dgs_cons (dg_name (i := 11) sc_law.nd) (dgs_cons (dg_name (i := 12) sc_law.nd) dgs_nil))))
      (dss_cons (ds_asg (de_callT h__law_meaning (hr.mono (by omega)) (da_cons (dv 7) (da_cons (dv 10) da_nil))) (dg_unl (n := 2) rfl (dgs_cons (dg_name (i := 13) sc_law.nd) (dgs_cons (dg_name (i := 14) sc_law.nd) dgs_nil))))
      (dss_one (ds_ret (de_and (de_cmp (op_eqA (hu64 hr)) rd_eq (dv 13) (dv 11)) (de_one (de_setEq rfl (hu64 hr) W.z_set (dv 14) (dv 12)))))))))))))))))
    , fun a => ?_⟩
  refine ⟨a, ⟨_, rfl⟩, _, rfl, by decide, 2, rfl, by decide, by decide, fun sz z0 z1 => ?_⟩
  obtain ⟨z, rfl⟩ := Int.eq_ofNat_of_zero_le z0
  refine ⟨a, ⟨_, rfl⟩, _, rfl, 2, z, rfl, rfl, _, rfl, 2 + z, ?_, by omega, by decide, fun N m1 srt hl ok hm1 => ?_⟩
  · show [PyData.int ((2 : Int) + (z : Nat))] = _
    rw [show ((2 : Int) + (z : Nat)) = ((2 + z : Nat) : Int) by omega]
  have lN : lenD (.list (stsD N)) = some N.length := by simp
  refine ⟨a, ⟨_, rfl⟩, _, rfl, _, _, rfl, lN, _, 1, rfl, rfl, _, rfl, ?_, N.length + 1, rfl, by omega, by omega, fun mn v0 v1 => ?_⟩
  · omega
  obtain ⟨k, rfl⟩ := Int.eq_ofNat_of_zero_le v0
  refine ⟨a, ⟨_, rfl⟩, a, ⟨_, rfl⟩, .list (stsD N), rfl, .int k, rfl, k, rfl, stsD N, rfl, .list (stsD N), rfl, .int k, rfl, k, rfl, stsD N, rfl, a, ⟨_, rfl⟩, _, rfl, by omega, 2, rfl, by decide, by decide, fun dp d0 d1 => ?_⟩
  obtain ⟨e, rfl⟩ := Int.eq_ofNat_of_zero_le d0
  have td : N.take k ++ N.drop k = N := List.take_append_drop k N
  have nk : NmsOk (N.take k) (N.drop k) := ⟨srt.sublist (List.take_sublist k N), srt.sublist (List.drop_sublist k N), by rw [td]; exact srt.nodup, by rw [td]; omega, by rw [td]; exact ok⟩
  have dl : dpl (1 + e) ≤ 2000 := by
    have : e = 0 ∨ e = 1 := by omega
    rcases this with rfl | rfl <;> decide
  refine ⟨1, e, rfl, rfl, _, rfl, N.take k, N.drop k, 1 + e, by omega, by omega, ?_, nk, by omega, fun p m2 hp hm2 => ?_⟩
  · rw [cut_lo, cut_hi]
    show [_, _, PyData.int ((1 : Int) + (e : Nat))] = _
    rw [show ((1 : Int) + (e : Nat)) = ((1 + e : Nat) : Int) by omega]
  have tl : (N.take k).length ≤ 3 := by rw [List.length_take]; omega
  have tok : ∀ n ∈ N.take k, sOk n := fun n hn => ok n (List.mem_of_mem_take hn)
  refine ⟨.list (stsD N), rfl, .int k, rfl, k, rfl, stsD N, rfl, _, rfl, N.take k, N.take k ++ N.drop k, 1 + e, p, ?_, by omega, hp, srt.sublist (List.take_sublist k N), tl, tok, by omega, fun q m3 ok2 nm2 dp2 ph2 mm2 hm3 => ?_⟩
  · rw [cut_lo]
  rw [td] at ok2
  have g : Good N q := ⟨ok2, ⟨by omega, ok⟩, by omega, ph2⟩
  refine ⟨_, rfl, N, q, rfl, g, fun t ms st nn => ?_⟩
  obtain ⟨g2, n2⟩ := st.good g
  have hms := steps_len st g
  have wb : wgt q ≤ 1024 := Nat.le_trans (wgt_le q).1 (Nat.le_trans (Nat.pow_le_pow_right (by decide) g.dp) (by decide))
  have s2 := (shp_strs (ns := []) fun m hm => by cases hm).2
  obtain ⟨e1, e2⟩ := plan_eq g2
  simp
  refine ⟨by omega, ?_⟩
  refine lc_map (F := fun m => none) (g := mvE) (l := ms) (fun m hm C hC => ?_) ?_
  · simp [mvE]
    exact hC
  rw [show ms.filterMap (fun _ => (none : Option Dt)) = [] by simp]
  simp
  refine ⟨.inr ⟨s2, s2⟩, by simp [PyData.eqv, PyData.eqvAll], N, q, t, ms, rfl, g, st, e1, e2, N, t, rfl, g2, nn, rfl, .inl ⟨by decide, by decide⟩, by omega, by omega, by omega, fun v w0 w1 => ?_⟩
  obtain ⟨i, rfl⟩ := Int.eq_ofNat_of_zero_le w0
  obtain ⟨x, ex, lx⟩ := texts_at i (by omega)
  have tk : TOk N x := ⟨by omega, ok, lx⟩
  refine ⟨_, ex, ?_⟩
  refine ⟨⟨15, rfl⟩, N, q, x, rfl, ok2, tk, mm2, by omega, fun ra na ma => ?_⟩
  simp
  refine ⟨⟨15, rfl⟩, N, t, x, rfl, g2.ok, tk, steps_mok st mm2, by have := g2.dp; omega, fun rb nb mb => ?_⟩
  have lq := Nat.le_trans (names_le ok2) tk.few
  have lt := Nat.le_trans (names_le g2.ok) tk.few
  have la := rows_le tk.len lq na fun r hr => mn_ok ok2 ((ma r).mp hr)
  have lb := rows_le tk.len lt nb fun r hr => mn_ok g2.ok ((mb r).mp hr)
  have same : ∀ r, r ∈ rb ↔ r ∈ ra := fun r => by rw [mb, ma, steps_mn st g r]
  have k1 := (shp_strs fun m hm => ok m (names_sub g2.ok m hm)).2
  have k2 := (shp_strs fun m hm => ok m (names_sub ok2 m hm)).2
  have rk : ∀ l : List Row, ∀ k ∈ l.map rowNK, RowK k := fun l k hk => by
    obtain ⟨r, _, rfl⟩ := List.mem_map.mp hk
    exact rowNK_ok r
  simp
  refine ⟨.inr ⟨k1, k2⟩, n2, _, rfl, ⟨rb.map rowNK, by rw [keys_data], rk rb, by simp; exact lb⟩, _, rfl, rb.map rowNK, ra.map rowNK, by rw [keys_data], by rw [keys_data], rk rb, rk ra, by simp; exact lb, by simp; exact la, fun k => ?_, rfl⟩
  simp [same]
def spLaw (K : PySem.W.Frag) (T : Addr) : Sp := fun vs H Q _ => ∃ (a : Addr) (ns : List Int), vs = [.ref a] ∧ SqL K H a (ns.map V.int) ∧ TabL H T lamQ ∧ ∀ H', Q (.bl true) H'
theorem c_law (W : Wd K mg) (hT : TabB base mg (He.codeOf K ("_law_rows", none)) T) {f : Addr} {fd : FuncData} (F : FunD K "law" "law" (defArgs (top 99)) (defBody (top 99)) (defScope (top 99)) [] [] f fd) : FnOk P w K mg base CX0 71 f fd ["_law_script"] (spLaw K T) := by
  refine F.ok sc_law (fun vs H Q E ⟨_, _, h, _⟩ => by rw [h]; rfl) fun cdv A outer s H vs Q E hr ⟨a, ns, ev, hs, ht, q⟩ => ?_
  subst ev
  obtain ⟨t2, z2, hz, hw⟩ := law_rest (P := P) (w := w) W hT f cdv A outer s H E hr
  obtain ⟨f1, fd1, ps1, h1, h2, h3, h4⟩ := (c_deck (P := P) (w := w) (base := base) W).ex
  have hp : PSs (cxOf CX0 P w K mg base ["_law_script", "_law_deck_here", "_law_size", "_law_names_here", "_law_many", "_law_plan_here", "_law_found", "_law_other", "_law_hops", "_law_move", "_law_text", "_law_due", "_law_rows_here", "_law_own", "_law_more", "_tb"] "law" (defScope (top 99)) f cdv A outer s H E).nox (defBody (top 99)) (tSeq (tAsg (tCall (spD K) [] E0 (tCons (tVar 0) tNil)) (gName 1)) t2) :=
    pss_cons (ps_set (i := 1) sc_law.nd rfl (Or.inl rfl) (pe_call h4 (hr.mono (by omega)) rfl h1 h2 h3 .nil pass0 (da_cons (dv 0) da_nil).pa (by decide) rfl rfl) rfl (Or.inr rfl)) hz.ps
  refine ⟨_, hp.nox, ?_⟩
  refine ⟨.ref a, rfl, a, ns, rfl, hs, fun a' b' H' hx ha' hb' hd => ?_⟩
  have tab : TabL H' T lamQ := ht.ext hx
  have rep : Rep ⟨[a', b'], fun _ => none, H'⟩ (fun _ => none) H' ((L2.start ["_law_script", "_law_deck_here", "_law_size", "_law_names_here", "_law_many", "_law_plan_here", "_law_found", "_law_other", "_law_hops", "_law_move", "_law_text", "_law_due", "_law_rows_here", "_law_own", "_law_more", "_tb"] [.ref a]).set 1 (some (.ref a'))) (.no :: .dk a' 1000000 :: List.replicate 14 (.tb T lamQ)) [] := by
    refine ⟨fun b o e => (by cases e), fun b o e => ⟨o, e, rfl, fun _ _ => rfl⟩, fun _ _ t => t, ⟨[] :: [a', b'] :: List.replicate 14 [], rfl, fun i sl as e1 e2 => ?_, ?_, fun b hb => ?_⟩, fun q hq => (by cases hq), rfl⟩
    · match i with
      | 0 =>
        cases e1
        cases e2
        rfl
      | 1 =>
        cases e1
        cases e2
        exact ⟨b', rfl, rfl, hd⟩
      | i + 2 =>
        have e1 : (List.replicate 14 (Sl.tb T lamQ))[i]? = some sl := e1
        have e2 : (List.replicate 14 ([] : List Addr))[i]? = some as := e2
        have e3 := (List.mem_replicate.mp (List.mem_of_getElem? e1)).2
        have e4 := (List.mem_replicate.mp (List.mem_of_getElem? e2)).2
        subst e3 e4
        exact ⟨rfl, tab, rfl⟩
    · simp
      exact hd.1
    · simp at hb
      exact ⟨rfl, .inl (by simpa using hb)⟩
  refine hz.rd _ _ H' _ _ _ _ rep (hw a') (fun G' H2 σ' ρ' s' R' h' => h'.elim) fun v d G' H2 σ' ρ' s' R' dn h' => ?_
  subst h'
  cases dn
  exact q H2
end
end MP
-- MHead2
/-! The head: one run of the top; facts of the defs, the empty table of the code object that makes a lambda. -/
namespace MH
open PySem PySem.Spec PyProof.Rows L2
def tf : List He.Defn := [("_law_rows", none)]
def seenT (g : Addr → Option Obj) : (He.AlD × Bool) × Bool := (factsX (He.frT g (He.asD g 2)), He.tabsB g tf (He.frT g (He.asD g 2)))
def goodT : (He.AlD × Bool) × Bool := (goodX, true)
structure SaysT (h : Heap) (K : PySem.W.Frag) : Prop where
  facts : SaysX K
  hd : ∀ p ∈ tf, PySem.W.codeHdIn K (He.cT K p).1 (He.cT K p).2 = true
  out : ∀ p ∈ tf, K.lookup (He.cT K p).2 = none
  empty : ∀ p ∈ tf, h.get? (He.cT K p).2 = some { cls := .none, data := .fields #[] }
theorem saysT_of {h : Heap} (e : seenT h.get? = goodT) : SaysT h (He.frT h.get? (He.asD h.get? 2)) := by
  have e1 : factsX (He.frT h.get? (He.asD h.get? 2)) = goodX := congrArg (fun z : (He.AlD × Bool) × Bool => z.1) e
  have e2 : He.tabsB h.get? tf (He.frT h.get? (He.asD h.get? 2)) = true := congrArg (fun z : (He.AlD × Bool) × Bool => z.2) e
  have key : ∀ p ∈ tf, PySem.W.codeHdIn (He.frT h.get? (He.asD h.get? 2)) (He.cT (He.frT h.get? (He.asD h.get? 2)) p).1 (He.cT (He.frT h.get? (He.asD h.get? 2)) p).2 = true ∧ ∃ o, h.get? (He.cT (He.frT h.get? (He.asD h.get? 2)) p).2 = some o ∧ He.emptyTab o = true := fun p hp => by
    have h1 := List.all_eq_true.mp e2 p hp
    rw [Bool.and_eq_true] at h1
    obtain ⟨h3, h4⟩ := h1
    refine ⟨h3, ?_⟩
    cases q : h.get? (He.cT (He.frT h.get? (He.asD h.get? 2)) p).2 with
    | none => rw [q] at h4; cases h4
    | some o => rw [q] at h4; exact ⟨o, rfl, h4⟩
  exact ⟨e1, fun p hp => (key p hp).1, fun p hp => by
    obtain ⟨_, o, q, z⟩ := key p hp
    exact He.frT_none q z, fun p hp => by
    obtain ⟨_, o, q, z⟩ := key p hp
    rw [q, He.emptyTab_eq z]⟩
def hk : PySem.W.Hook where
  α := (He.AlD × Bool) × Bool
  obs := fun s => seenT s.heap.get?
  val := fun _ => goodT
  says := fun _ h => ∃ K : PySem.W.Frag, K.In h ∧ SaysT h K
  of := fun _ _ e => ⟨_, He.frT_in, saysT_of e⟩
  keeps := fun _ _ _ ⟨K, hK, c⟩ k => ⟨K, PySem.W.Frag.In.keeps hK k, ⟨c.facts, c.hd, c.out, fun p hp => k _ _ (c.empty p hp)⟩⟩
def ob (s : PySem.W.SharedT) : (He.AlD × Bool) × Bool := seenT (HandSHeadRun.getT s)
theorem ob_eq (s : PySem.W.SharedT) : ob s = hk.obs s.abs := by
  have e : HandSHeadRun.getT s = s.abs.heap.get? := funext (HandSHeadRun.getT_eq s)
  show seenT (HandSHeadRun.getT s) = seenT s.abs.heap.get?
  rw [e]
abbrev R : PySem.W.OpenRow := PySem.W.OpenLaw.row PySem.Challenge.rw_markpieces_k75_whole_put_lower
def loose0 : List PySem.Str := ["parts_of", "marked", "names_of", "MOST_NAMES", "inner_of", "with_inner", "names_in", "at_path", "put_at", "paths_of", "fits_bounds", "PieceError", "NoMove", "among", "alike_named", "pair_of", "join_turned", "join_right", "join_left", "either_turned", "either_right", "either_left", "join_dealt", "join_gathered", "only_dealt", "only_gathered", "only_in_either", "only_of_either", "only_once", "only_none"]
def loose1 : List PySem.Str := ["only_all", "join_itself", "join_twice", "either_itself", "either_twice", "without_dealt", "without_gathered", "without_both", "without_each", "shared_kept", "only_in_join", "only_of_join", "same_turned", "has_both", "same_in_either", "same_of_either", "same_in_join", "same_of_join", "same_in_only", "same_of_only", "same_in_without", "same_of_without", "same_passed", "without_joined", "without_parted", "FORTH", "BACK", "is_number", "is_move", "moved"]
def loose2 : List PySem.Str := ["led", "DOWNWARD", "next_move", "lowered", "_law_deck", "_law_draw", "_law_word", "_law_names", "_law_row_of", "_law_any_of", "_law_sign", "_law_solid", "_law_bare", "_law_marked", "_law_plan", "_law_goes", "_law_then", "_law_marks", "_law_rank", "_law_rows", "_law_named", "_law_with", "_law_padded", "_law_reads", "_law_two", "_law_meaning", "_law_paths", "_law_at", "_law_there", "_law_only_low"]
def loose3 : List PySem.Str := ["_law_same_low", "_law_low", "_law_topped"]
def loose : List PySem.Str := loose0 ++ loose1 ++ loose2 ++ loose3
theorem run (w : World) : HandSHeadRun.RunEq R (PySem.W.view R.prog [99]) hk ob 20000 loose w := by
  intro os
  kernel_rfl
end MH
-- PG2
/-! The law at the head. -/
namespace MP
open PySem PySem.Spec PyProof.Rows L2 MH LamX
theorem law_at {l : PySem.W.OpenLaw} {w : World} {K : PySem.W.Frag} {mg : Str → Option Value} {fa : Addr} {h : Heap} (KX : K.In h) (G : h.Ns mainGlobals mg) (hmg : mg "law" = some (.ref fa)) (c : SaysT h K) : LawAtS l w K CX0 71 63 "_law_script" mg fa h := by
  have W : Wd K mg := ⟨h, KX, G, c.facts⟩
  obtain ⟨f, fd, hm, F⟩ := W.at_ 57 (x := "law") (j := 99)
  have e : f = fa := by
    rw [hmg] at hm
    injection hm with hm
    injection hm with hm
    exact hm.symm
  subst e
  have hmem : (("_law_rows", none) : He.Defn) ∈ tf := List.mem_singleton_self _
  have b := FunD.bindsA (ps := ["_law_script"]) F fun _ _ _ _ _ _ us hl => match us, hl with | [_], _ => rfl
  refine ⟨fd, [He.cT K ("_law_rows", none)], spLaw K (He.cT K ("_law_rows", none)).2, fun p hp => ?_, fun p hp => ?_, fun p hp => ?_, fun s v => b s [v] rfl, fun H a ns _ _ hH hS => ?_, fun base _ _ hT => ?_⟩
  · rw [List.mem_singleton.mp hp]
    exact c.empty _ hmem
  · rw [List.mem_singleton.mp hp]
    exact c.out _ hmem
  · rw [List.mem_singleton.mp hp]
    exact PySem.W.codeHd_of_K KX (c.hd _ hmem)
  · exact ⟨a, ns, rfl, hS, ⟨rfl, TabS.nil (hH _ (List.mem_singleton_self _))⟩, fun _ => rfl⟩
  · exact c_law W (hT _ (List.mem_singleton_self _)) F
end MP
open PySem PySem.W PySem.Calls PyProof.Rows
theorem PySem.Challenge.cw_markpieces_k75_whole_put_lower_holds : PySem.Challenge.rw_markpieces_k75_whole_put_lower.Holds := by
  w_on; o_law
  refine HandSHeadRun.head_any (r := OpenLaw.row PySem.Challenge.rw_markpieces_k75_whole_put_lower) (q := view (OpenLaw.row PySem.Challenge.rw_markpieces_k75_whole_put_lower).prog [99]) (H := MH.hk) (ob := MH.ob) (M := 20000) (loose := MH.loose) (d := HandSHeadRun.topDef (OpenLaw.row PySem.Challenge.rw_markpieces_k75_whole_put_lower).prog 99) (kwd := []) MH.ob_eq
    (by kernel_rfl) (fun s => by kernel_rfl) MH.run (by kernel_rfl) (by kernel_rfl) (by kernel_rfl) (by rfl) (by first | assumption | decide +kernel) (by decide +kernel) ⟨rfl, rfl, rfl, rfl, rfl, by decide +kernel⟩ ?hw ?hc
  case hw => w_witness2
  case hc =>
    refine LamX.walk_ofTsE (l := PySem.Challenge.rw_markpieces_k75_whole_put_lower) (n := 63) (k := 71) (x := "_law_script") (CX := fun _ => L2.CX0) rfl (by decide) (by kernel_rfl) ⟨rfl, by decide, by decide⟩ ?F (fun _ _ _ _ _ z => z)
    intro w mg fa h Y G hmg0
    obtain ⟨K, KX, c⟩ := Y
    have hmg : mg ("law" : PySem.Str) = some (.ref fa) := by
      have e : (HandSHeadRun.topDef (OpenLaw.row PySem.Challenge.rw_markpieces_k75_whole_put_lower).prog 99).name = ("law" : PySem.Str) := by kernel_rfl
      rw [← e]
      exact hmg0
    exact ⟨K, KX, MP.law_at KX G hmg c⟩
