import PyProof.Rows.All
import Wide.All
import OpenK.AllK
import Wide.FinOn
import HandS.ForMost
import HandS.ForExc
import HandS.IsInst
import HandS.Conv
import HandS.Rev
import HandS.RevRange
import HandS.Zip
import HandS.Evl
import HandS.ExcIs
import HandS.More
import PyProof.ReprRoads
import HandS.Text
import KE.GoesRaise
import HandS.Deep
import HandS.Style
import HandS.TupAny
import HandS.Dict
import HandS.Strs
import HandS.Set
import PySem.Challenge.RW_freehour_k11_whole_why_no_earlier
set_option Elab.async false
set_option linter.all false
set_option maxRecDepth 100000
set_option maxHeartbeats 4000000
/-! Pure data: what code over data (none, bools, ints, texts, tuples, lists) evaluates to, without the heap in sight. -/
namespace Pd
open PySem L2

/-! ### heaps that grow -/
def Ex (H H' : Hp) : Prop := ∀ a o, H a = some o → H' a = some o
theorem Ex.rfl' {H : Hp} : Ex H H := fun _ _ h => h
theorem Ex.trans {H H1 H2 : Hp} (a : Ex H H1) (b : Ex H1 H2) : Ex H H2 := fun x o h => b x o (a x o h)
theorem Ex.new {H : Hp} {p : Addr} {o : HO} (h : H p = none) : Ex H (upd H p o) := fun a u e => by
  rw [upd_ne (ne_of_none e h)]; exact e
theorem Ex.mut {H H' : Hp} {p : Addr} {o : HO} (e : Ex H H') (h : H p = none) : Ex H (upd H' p o) := fun a u ha => by
  rw [upd_ne (ne_of_none ha h)]; exact e a u ha
theorem Ex.back {H H' : Hp} {p : Addr} (e : Ex H H') (h : H' p = none) : H p = none := by
  cases h1 : H p with
  | none => rfl
  | some o => rw [e p o h1] at h; cases h
theorem Ex.rd {H H' : Hp} {a : Addr} {u : HO} (e : Ex H H') (h : Rd H a u) : Rd H' a u := by
  rcases h with h | ⟨o, h⟩
  · exact .inl (e a _ h)
  · exact .inr ⟨o, e a _ h⟩
theorem Ex.sl {K : PySem.W.Frag} {H H' : Hp} {a : Addr} {xs : List V} (e : Ex H H') (h : SqL K H a xs) : SqL K H' a xs := by
  rcases h with h | h
  · exact .inl (e.rd h)
  · exact .inr h
theorem Ex.st {K : PySem.W.Frag} {H H' : Hp} {a : Addr} {xs : List V} (e : Ex H H') (h : SqT K H a xs) : SqT K H' a xs := by
  rcases h with h | h
  · exact .inl (e.rd h)
  · exact .inr h

mutual
theorem dpUp {K : PySem.W.Frag} {H H' : Hp} (e : Ex H H') : ∀ (d : PyData) (v : V), Dp K H v d → Dp K H' v d
  | .none, _, h => by cases h; exact .non
  | .bool b, _, h => by cases h; exact .bl b
  | .int i, _, h => by cases h; exact .int i
  | .str x, _, h => by cases h; exact .str x
  | .list ds, _, h => by cases h with | lst hs ha => exact .lst (e.sl hs) (dpUpAll e ds _ ha)
  | .tuple ds, _, h => by cases h with | tup hs ha => exact .tup (e.st hs) (dpUpAll e ds _ ha)
  | .dict _, _, h => by cases h
theorem dpUpAll {K : PySem.W.Frag} {H H' : Hp} (e : Ex H H') : ∀ (ds : List PyData) (vs : List V), DpAll K H vs ds → DpAll K H' vs ds
  | [], _, h => by cases h; exact .nil
  | d :: ds, _, h => by cases h with | cons h1 h2 => exact .cons (dpUp e d _ h1) (dpUpAll e ds _ h2)
end
theorem Ex.dp {K : PySem.W.Frag} {H H' : Hp} (e : Ex H H') {d : PyData} {v : V} (h : Dp K H v d) : Dp K H' v d := dpUp e d v h
theorem Ex.dpa {K : PySem.W.Frag} {H H' : Hp} (e : Ex H H') {ds : List PyData} {vs : List V} (h : DpAll K H vs ds) : DpAll K H' vs ds := dpUpAll e ds vs h

section
variable {K : PySem.W.Frag} {H : Hp}
theorem dpa_len : ∀ {ds : List PyData} {vs : List V}, DpAll K H vs ds → vs.length = ds.length
  | [], _, h => by cases h; rfl
  | _ :: ds, _, h => by cases h with | cons h1 h2 => simp [dpa_len h2]
theorem dpa_get : ∀ {ds : List PyData} {vs : List V} {i : Nat} {d : PyData}, DpAll K H vs ds → ds[i]? = some d → ∃ v, vs[i]? = some v ∧ Dp K H v d
  | [], _, _, _, _, e => by simp at e
  | _ :: _, _, 0, _, h, e => by cases h with | cons h1 h2 => simp at e; subst e; exact ⟨_, rfl, h1⟩
  | _ :: ds, _, i + 1, d, h, e => by
    cases h with
    | cons h1 h2 =>
      obtain ⟨v, e1, e2⟩ := dpa_get (i := i) h2 (by simpa using e)
      exact ⟨v, by simpa using e1, e2⟩
theorem dpa_getV : ∀ {ds : List PyData} {vs : List V} {i : Nat} {v : V}, DpAll K H vs ds → vs[i]? = some v → ∃ d, ds[i]? = some d ∧ Dp K H v d
  | [], _, _, _, h, e => by cases h; simp at e
  | _ :: _, _, 0, _, h, e => by cases h with | cons h1 h2 => simp at e; subst e; exact ⟨_, rfl, h1⟩
  | _ :: ds, _, i + 1, d, h, e => by
    cases h with
    | cons h1 h2 =>
      obtain ⟨v, e1, e2⟩ := dpa_getV (i := i) h2 (by simpa using e)
      exact ⟨v, by simpa using e1, e2⟩
theorem dpa_app : ∀ {ds es : List PyData} {vs ws : List V}, DpAll K H vs ds → DpAll K H ws es → DpAll K H (vs ++ ws) (ds ++ es)
  | [], _, _, _, h, g => by cases h; exact g
  | _ :: ds, _, _, _, h, g => by cases h with | cons h1 h2 => exact .cons h1 (dpa_app h2 g)
theorem dpa_take : ∀ (n : Nat) {ds : List PyData} {vs : List V}, DpAll K H vs ds → DpAll K H (vs.take n) (ds.take n)
  | 0, _, _, _ => by simp; exact .nil
  | _ + 1, [], _, h => by cases h; exact .nil
  | n + 1, _ :: _, _, h => by cases h with | cons h1 h2 => exact .cons h1 (dpa_take n h2)
theorem dpa_drop : ∀ (n : Nat) {ds : List PyData} {vs : List V}, DpAll K H vs ds → DpAll K H (vs.drop n) (ds.drop n)
  | 0, _, _, h => h
  | _ + 1, [], _, h => by cases h; exact .nil
  | n + 1, _ :: _, _, h => by cases h with | cons h1 h2 => exact dpa_drop n h2
theorem dpa_set : ∀ {ds : List PyData} {vs : List V} {d : PyData} {v : V} (n : Nat), DpAll K H vs ds → Dp K H v d → DpAll K H (vs.set n v) (ds.set n d)
  | [], _, _, _, _, h, _ => by cases h; exact .nil
  | _ :: _, _, _, _, 0, h, g => by cases h with | cons h1 h2 => exact .cons g h2
  | _ :: _, _, _, _, n + 1, h, g => by cases h with | cons h1 h2 => exact .cons h1 (dpa_set n h2 g)
theorem dpa_rev {ds : List PyData} {vs : List V} (h : DpAll K H vs ds) : DpAll K H vs.reverse ds.reverse := by
  induction ds generalizing vs with
  | nil => cases h; exact .nil
  | cons d ds ih =>
    cases h with
    | cons h1 h2 =>
      rw [List.reverse_cons, List.reverse_cons]
      exact dpa_app (ih h2) (.cons h1 .nil)
theorem dpa_ints : ∀ (ns : List Int), DpAll K H (ns.map V.int) (ns.map PyData.int)
  | [] => .nil
  | n :: ns => .cons (.int n) (dpa_ints ns)
theorem dpa_strs : ∀ (ns : List Str), DpAll K H (ns.map V.str) (ns.map PyData.str)
  | [] => .nil
  | n :: ns => .cons (.str n) (dpa_strs ns)
theorem dpa_bls : ∀ (ns : List Bool), DpAll K H (ns.map V.bl) (ns.map PyData.bool)
  | [] => .nil
  | n :: ns => .cons (.bl n) (dpa_bls ns)
theorem dpa_ints_inv : ∀ {ns : List Int} {vs : List V}, DpAll K H vs (ns.map PyData.int) → vs = ns.map V.int
  | [], _, h => by cases h; rfl
  | n :: ns, _, h => by
    cases h with
    | cons h1 h2 => cases h1; rw [dpa_ints_inv h2]; rfl
theorem dpa_strs_inv : ∀ {ns : List Str} {vs : List V}, DpAll K H vs (ns.map PyData.str) → vs = ns.map V.str
  | [], _, h => by cases h; rfl
  | n :: ns, _, h => by
    cases h with
    | cons h1 h2 => cases h1; rw [dpa_strs_inv h2]; rfl
theorem dpa_bls_inv : ∀ {ns : List Bool} {vs : List V}, DpAll K H vs (ns.map PyData.bool) → vs = ns.map V.bl
  | [], _, h => by cases h; rfl
  | n :: ns, _, h => by
    cases h with
    | cons h1 h2 => cases h1; rw [dpa_bls_inv h2]; rfl
end

/-! ### the base B: what is shared and stands still; H: all that is tracked -/
structure Stp (B H B2 H2 : Hp) : Prop where
  bb : Ex B B2
  bh : Ex B2 H2
  hh : Ex H H2
  hid : ∀ a o, H a = some o → B a = none → B2 a = none
theorem Stp.refl {B H : Hp} (h : Ex B H) : Stp B H B H := ⟨Ex.rfl', h, Ex.rfl', fun _ _ _ z => z⟩
theorem Stp.trans {B H B1 H1 B2 H2 : Hp} (a : Stp B H B1 H1) (b : Stp B1 H1 B2 H2) : Stp B H B2 H2 :=
  ⟨a.bb.trans b.bb, b.bh, a.hh.trans b.hh, fun x o h z => b.hid x o (a.hh x o h) (a.hid x o h z)⟩
/-- a new object that is shared | that is not -/
theorem Stp.new {B H B1 H1 : Hp} {p : Addr} {o : HO} (a : Stp B H B1 H1) (h : H1 p = none) : Stp B H (upd B1 p o) (upd H1 p o) := by
  have hb : B1 p = none := a.bh.back h
  refine ⟨a.bb.trans (Ex.new hb), fun x u e => ?_, a.hh.trans (Ex.new h), fun x u e z => ?_⟩
  · by_cases hx : x = p
    · subst hx; rw [upd_same] at e ⊢; exact e
    · rw [upd_ne hx] at e ⊢; exact a.bh x u e
  · have hx : x ≠ p := ne_of_none (a.hh x u e) h
    rw [upd_ne hx]; exact a.hid x u e z
theorem Stp.own {B H B1 H1 : Hp} {p : Addr} {o : HO} (a : Stp B H B1 H1) (h : H1 p = none) : Stp B H B1 (upd H1 p o) :=
  ⟨a.bb, a.bh.trans (Ex.new h), a.hh.trans (Ex.new h), a.hid⟩

/-- what a slot holds: nothing that is known, shared data, a list that only this slot knows, a value as it is -/
inductive Ent where
  | no | dat (d : PyData) | own (ds : List PyData) | val (v : V)
/-- the surroundings: what stands in cells that are no slot's own and are not shared, and what is told of the shared things -/
structure Gd where
  K : PySem.W.Frag
  cells : List (Addr × HO)
  rel : Hp → Prop
  rup : ∀ B B', Ex B B' → rel B → rel B'
def Gd.foot (G : Gd) : List Addr := G.cells.map (·.1)
def Gd.Wd (G : Gd) (B H : Hp) : Prop := (∀ c ∈ G.cells, H c.1 = some c.2 ∧ B c.1 = none) ∧ G.rel B
abbrev Gd.pure (K : PySem.W.Frag) : Gd := ⟨K, [], fun _ => True, fun _ _ _ h => h⟩
theorem Gd.Wd.step {G : Gd} {B H B2 H2 : Hp} (w : G.Wd B H) (s : Stp B H B2 H2) : G.Wd B2 H2 :=
  ⟨fun c hc => ⟨s.hh _ _ (w.1 c hc).1, s.hid _ _ (w.1 c hc).1 (w.1 c hc).2⟩, G.rup _ _ s.bb w.2⟩
theorem Gd.mem_foot {G : Gd} {c : Addr × HO} (h : c ∈ G.cells) : c.1 ∈ G.foot := List.mem_map_of_mem h
theorem Gd.Wd.mut {G : Gd} {B H : Hp} {p : Addr} {o : HO} (w : G.Wd B H) (n : p ∉ G.foot) : G.Wd B (upd H p o) :=
  ⟨fun c hc => ⟨by rw [upd_ne (fun e => n (by rw [← e]; exact Gd.mem_foot hc))]; exact (w.1 c hc).1, (w.1 c hc).2⟩, w.2⟩
theorem Gd.Wd.frz {G : Gd} {B H : Hp} {p : Addr} {o : HO} (w : G.Wd B H) (n : p ∉ G.foot) (x : Ex B (upd B p o)) : G.Wd (upd B p o) H :=
  ⟨fun c hc => ⟨(w.1 c hc).1, by rw [upd_ne (fun e => n (by rw [← e]; exact Gd.mem_foot hc))]; exact (w.1 c hc).2⟩, G.rup _ _ x w.2⟩
theorem Gd.Wd.there {G : Gd} {B H : Hp} (w : G.Wd B H) {a : Addr} (h : a ∈ G.foot) : (∃ o, H a = some o) ∧ B a = none := by
  obtain ⟨c, hc, rfl⟩ := List.mem_map.mp h
  exact ⟨⟨_, (w.1 c hc).1⟩, (w.1 c hc).2⟩
def EntOk (G : Gd) (B0 H0 B H : Hp) (x : Option V) : Ent → Prop
  | .no => True
  | .dat d => ∃ v, x = some v ∧ Dp G.K B v d
  | .own ds => ∃ p vs, x = some (.ref p) ∧ B p = none ∧ H0 p = none ∧ H p = some (.lst vs) ∧ DpAll G.K B vs ds
  | .val v => x = some v
structure EnvB (G : Gd) (B0 H0 B H : Hp) (σ : L2.St) (Γ : List Ent) : Prop where
  stp : Stp B0 H0 B H
  wd : G.Wd B H
  len : σ.length = Γ.length
  get : ∀ (i : Nat) (x : Option V) (e : Ent), σ[i]? = some x → Γ[i]? = some e → EntOk G B0 H0 B H x e
  dis : ∀ (i j : Nat) (p : Addr) (ds es : List PyData), i ≠ j → Γ[i]? = some (.own ds) → Γ[j]? = some (.own es) → σ[i]? = some (some (.ref p)) → σ[j]? ≠ some (some (.ref p))
  off : ∀ (i : Nat) (p : Addr) (ds : List PyData), Γ[i]? = some (.own ds) → σ[i]? = some (some (.ref p)) → p ∉ G.foot
section
variable {G : Gd} {B0 H0 B H B1 H1 : Hp} {σ : L2.St} {Γ : List Ent}
theorem EntOk.step (s : Stp B H B1 H1) {x : Option V} {e : Ent} (h : EntOk G B0 H0 B H x e) : EntOk G B0 H0 B1 H1 x e := by
  cases e with
  | no => trivial
  | dat d => obtain ⟨v, h1, h2⟩ := h; exact ⟨v, h1, s.bb.dp h2⟩
  | own ds => obtain ⟨p, vs, h1, h2, h3, h4, h5⟩ := h; exact ⟨p, vs, h1, s.hid p _ h4 h2, h3, s.hh p _ h4, s.bb.dpa h5⟩
  | val v => exact h
theorem EnvB.step (E : EnvB G B0 H0 B H σ Γ) (s : Stp B H B1 H1) : EnvB G B0 H0 B1 H1 σ Γ :=
  ⟨E.stp.trans s, E.wd.step s, E.len, fun i x e h1 h2 => (E.get i x e h1 h2).step s, E.dis, E.off⟩
theorem EnvB.dat (E : EnvB G B0 H0 B H σ Γ) {i : Nat} {d : PyData} (h : Γ[i]? = some (.dat d)) : ∃ v, σ[i]? = some (some v) ∧ Dp G.K B v d := by
  have hi : i < σ.length := by rw [E.len]; exact (List.getElem?_eq_some_iff.mp h).1
  obtain ⟨v, h1, h2⟩ := E.get i σ[i] (.dat d) (List.getElem?_eq_getElem hi) h
  exact ⟨v, by rw [List.getElem?_eq_getElem hi, h1], h2⟩
theorem EnvB.val (E : EnvB G B0 H0 B H σ Γ) {i : Nat} {v : V} (h : Γ[i]? = some (.val v)) : σ[i]? = some (some v) := by
  have hi : i < σ.length := by rw [E.len]; exact (List.getElem?_eq_some_iff.mp h).1
  have h1 : σ[i] = some v := E.get i σ[i] (.val v) (List.getElem?_eq_getElem hi) h
  rw [List.getElem?_eq_getElem hi, h1]
theorem EnvB.own (E : EnvB G B0 H0 B H σ Γ) {i : Nat} {ds : List PyData} (h : Γ[i]? = some (.own ds)) :
    ∃ p vs, σ[i]? = some (some (.ref p)) ∧ B p = none ∧ H0 p = none ∧ H p = some (.lst vs) ∧ DpAll G.K B vs ds := by
  have hi : i < σ.length := by rw [E.len]; exact (List.getElem?_eq_some_iff.mp h).1
  obtain ⟨p, vs, h1, h2⟩ := E.get i σ[i] (.own ds) (List.getElem?_eq_getElem hi) h
  exact ⟨p, vs, by rw [List.getElem?_eq_getElem hi, h1], h2⟩
theorem get_set {α : Type} {l : List α} {i j : Nat} {a b : α} (h : (l.set i a)[j]? = some b) : (j = i ∧ b = a) ∨ (j ≠ i ∧ l[j]? = some b) := by
  by_cases e : j = i
  · subst e
    by_cases hj : j < l.length
    · rw [List.getElem?_set_self hj] at h; exact .inl ⟨rfl, (Option.some.inj h).symm⟩
    · rw [List.getElem?_eq_none (by rw [List.length_set]; omega)] at h; cases h
  · rw [List.getElem?_set_ne (Ne.symm e)] at h; exact .inr ⟨e, h⟩
/-- a slot gets shared data | an exact value | is forgotten -/
theorem EnvB.set_dat (E : EnvB G B0 H0 B H σ Γ) (i : Nat) {v : V} {d : PyData} (h : Dp G.K B v d) : EnvB G B0 H0 B H (σ.set i (some v)) (Γ.set i (.dat d)) := by
  refine ⟨E.stp, E.wd, by simpa using E.len, fun j x e h1 h2 => ?_, fun j k p ds es hjk h1 h2 h3 h4 => ?_, fun j p ds h1 h3 => ?_⟩
  · rcases get_set h2 with ⟨rfl, rfl⟩ | ⟨ne, h2⟩
    · rcases get_set h1 with ⟨_, rfl⟩ | ⟨ne, _⟩
      · exact ⟨v, rfl, h⟩
      · exact absurd rfl ne
    · rcases get_set h1 with ⟨e, _⟩ | ⟨_, h1⟩
      · exact absurd e ne
      · exact E.get j x e h1 h2
  · rcases get_set h1 with ⟨_, z⟩ | ⟨n1, h1⟩
    · cases z
    · rcases get_set h2 with ⟨_, z⟩ | ⟨n2, h2⟩
      · cases z
      · rw [List.getElem?_set_ne (Ne.symm n1)] at h3
        rw [List.getElem?_set_ne (Ne.symm n2)] at h4
        exact E.dis j k p ds es hjk h1 h2 h3 h4
  · rcases get_set h1 with ⟨_, z⟩ | ⟨n1, h1⟩
    · cases z
    · rw [List.getElem?_set_ne (Ne.symm n1)] at h3
      exact E.off j p ds h1 h3
theorem EnvB.set_val (E : EnvB G B0 H0 B H σ Γ) (i : Nat) (v : V) : EnvB G B0 H0 B H (σ.set i (some v)) (Γ.set i (.val v)) := by
  refine ⟨E.stp, E.wd, by simpa using E.len, fun j x e h1 h2 => ?_, fun j k p ds es hjk h1 h2 h3 h4 => ?_, fun j p ds h1 h3 => ?_⟩
  · rcases get_set h2 with ⟨rfl, rfl⟩ | ⟨ne, h2⟩
    · rcases get_set h1 with ⟨_, rfl⟩ | ⟨ne, _⟩
      · exact rfl
      · exact absurd rfl ne
    · rcases get_set h1 with ⟨e, _⟩ | ⟨_, h1⟩
      · exact absurd e ne
      · exact E.get j x e h1 h2
  · rcases get_set h1 with ⟨_, z⟩ | ⟨n1, h1⟩
    · cases z
    · rcases get_set h2 with ⟨_, z⟩ | ⟨n2, h2⟩
      · cases z
      · rw [List.getElem?_set_ne (Ne.symm n1)] at h3
        rw [List.getElem?_set_ne (Ne.symm n2)] at h4
        exact E.dis j k p ds es hjk h1 h2 h3 h4
  · rcases get_set h1 with ⟨_, z⟩ | ⟨n1, h1⟩
    · cases z
    · rw [List.getElem?_set_ne (Ne.symm n1)] at h3
      exact E.off j p ds h1 h3
theorem EnvB.set_no (E : EnvB G B0 H0 B H σ Γ) (i : Nat) (x : Option V) : EnvB G B0 H0 B H (σ.set i x) (Γ.set i .no) := by
  refine ⟨E.stp, E.wd, by simpa using E.len, fun j x e h1 h2 => ?_, fun j k p ds es hjk h1 h2 h3 h4 => ?_, fun j p ds h1 h3 => ?_⟩
  · rcases get_set h2 with ⟨rfl, rfl⟩ | ⟨ne, h2⟩
    · trivial
    · rcases get_set h1 with ⟨e, _⟩ | ⟨_, h1⟩
      · exact absurd e ne
      · exact E.get j x e h1 h2
  · rcases get_set h1 with ⟨_, z⟩ | ⟨n1, h1⟩
    · cases z
    · rcases get_set h2 with ⟨_, z⟩ | ⟨n2, h2⟩
      · cases z
      · rw [List.getElem?_set_ne (Ne.symm n1)] at h3
        rw [List.getElem?_set_ne (Ne.symm n2)] at h4
        exact E.dis j k p ds es hjk h1 h2 h3 h4
  · rcases get_set h1 with ⟨_, z⟩ | ⟨n1, h1⟩
    · cases z
    · rw [List.getElem?_set_ne (Ne.symm n1)] at h3
      exact E.off j p ds h1 h3
/-- a slot gets a list that nobody else knows -/
theorem EnvB.set_own (E : EnvB G B0 H0 B H σ Γ) (i : Nat) {p : Addr} {vs : List V} {ds : List PyData} (hp : H p = none) (h : DpAll G.K B vs ds) :
    EnvB G B0 H0 B (upd H p (.lst vs)) (σ.set i (some (.ref p))) (Γ.set i (.own ds)) := by
  have hB : B p = none := E.stp.bh.back hp
  have hH0 : H0 p = none := E.stp.hh.back hp
  have E1 : EnvB G B0 H0 B (upd H p (.lst vs)) σ Γ := E.step ⟨Ex.rfl', E.stp.bh.trans (Ex.new hp), Ex.new hp, fun _ _ _ z => z⟩
  have ne : ∀ (j : Nat) (es : List PyData), Γ[j]? = some (.own es) → σ[j]? ≠ some (some (.ref p)) := fun j es h1 h2 => by
    obtain ⟨q, ws, e1, _, _, e4, _⟩ := E.own h1
    rw [e1] at h2; cases h2; rw [hp] at e4; cases e4
  refine ⟨E1.stp, E1.wd, by simpa using E.len, fun j x e h1 h2 => ?_, fun j k q ds' es hjk h1 h2 h3 h4 => ?_, fun j q ds' h1 h3 => ?_⟩
  · rcases get_set h2 with ⟨rfl, rfl⟩ | ⟨ne, h2⟩
    · rcases get_set h1 with ⟨_, rfl⟩ | ⟨ne, _⟩
      · exact ⟨p, vs, rfl, hB, hH0, upd_same, h⟩
      · exact absurd rfl ne
    · rcases get_set h1 with ⟨e, _⟩ | ⟨_, h1⟩
      · exact absurd e ne
      · exact E1.get j x e h1 h2
  · rcases get_set h3 with ⟨rfl, z⟩ | ⟨n1, g3⟩
    · cases z
      rcases get_set h4 with ⟨e, _⟩ | ⟨n2, h4⟩
      · exact hjk e.symm
      · rcases get_set h2 with ⟨e, _⟩ | ⟨_, h2⟩
        · exact n2 e
        · exact ne k es h2 h4
    · rcases get_set h1 with ⟨e, _⟩ | ⟨_, g1⟩
      · exact n1 e
      · rcases get_set h4 with ⟨rfl, z⟩ | ⟨n2, h4⟩
        · cases z
          exact ne j ds' g1 g3
        · rcases get_set h2 with ⟨e, _⟩ | ⟨_, h2⟩
          · exact n2 e
          · exact E.dis j k q ds' es hjk g1 h2 g3 h4
  · rcases get_set h3 with ⟨rfl, z⟩ | ⟨n1, g3⟩
    · cases z
      intro hm
      obtain ⟨⟨o, ho⟩, _⟩ := E.wd.there hm
      rw [hp] at ho; cases ho
    · rcases get_set h1 with ⟨e, _⟩ | ⟨_, g1⟩
      · exact absurd e n1
      · exact E.off j q ds' g1 g3
/-- the list of a slot is changed in its place -/
theorem EnvB.mut_own (E : EnvB G B0 H0 B H σ Γ) {i : Nat} {p : Addr} {ws : List V} {ds es : List PyData} (hi : Γ[i]? = some (.own ds)) (hs : σ[i]? = some (some (.ref p))) (h : DpAll G.K B ws es) :
    EnvB G B0 H0 B (upd H p (.lst ws)) σ (Γ.set i (.own es)) := by
  obtain ⟨q, us, e1, e2, e3, e4, e5⟩ := E.own hi
  rw [hs] at e1; cases e1
  refine ⟨⟨E.stp.bb, E.stp.bh.mut e2, E.stp.hh.mut e3, E.stp.hid⟩, E.wd.mut (E.off i p ds hi hs), by simpa using E.len, fun j x e h1 h2 => ?_, fun j k q ds' es' hjk h1 h2 h3 h4 => ?_, fun j q ds' h1 h3 => ?_⟩
  · rcases get_set h2 with ⟨rfl, rfl⟩ | ⟨ne, h2⟩
    · rw [hs] at h1; cases h1
      exact ⟨p, ws, rfl, e2, e3, upd_same, h⟩
    · have z := E.get j x e h1 h2
      cases e with
      | no => trivial
      | dat d => exact z
      | val v => exact z
      | own fs =>
        obtain ⟨r, rs, z1, z2, z3, z4, z5⟩ := z
        refine ⟨r, rs, z1, z2, z3, ?_, z5⟩
        have : r ≠ p := fun e => by
          subst e; subst z1
          exact E.dis j i r fs ds ne h2 hi h1 hs
        rw [upd_ne this]; exact z4
  · rcases get_set h1 with ⟨rfl, z⟩ | ⟨n1, g1⟩
    · rcases get_set h2 with ⟨e, _⟩ | ⟨n2, h2⟩
      · exact hjk e.symm
      · exact E.dis _ k q ds es' hjk hi h2 h3 h4
    · skip
      rcases get_set h2 with ⟨rfl, z⟩ | ⟨n2, h2⟩
      · exact E.dis j _ q ds' ds hjk g1 hi h3 h4
      · exact E.dis j k q ds' es' hjk g1 h2 h3 h4
  · rcases get_set h1 with ⟨rfl, z⟩ | ⟨n1, g1⟩
    · exact E.off _ q ds hi h3
    · exact E.off j q ds' g1 h3
/-- the list of a slot is shared from now on -/
theorem EnvB.freeze' (E : EnvB G B0 H0 B H σ Γ) {i : Nat} {ds : List PyData} (hi : Γ[i]? = some (.own ds)) :
    ∃ p vs, B p = none ∧ H p = some (.lst vs) ∧ Ex B (upd B p (.lst vs)) ∧ EnvB G B0 H0 (upd B p (.lst vs)) H σ (Γ.set i (.dat (.list ds))) := by
  obtain ⟨p, vs, e1, e2, e3, e4, e5⟩ := E.own hi
  have xb : Ex B (upd B p (.lst vs)) := Ex.new e2
  refine ⟨p, vs, e2, e4, xb, ⟨E.stp.bb.trans xb, fun a o h => ?_, E.stp.hh, fun a o h z => ?_⟩, E.wd.frz (E.off i p ds hi e1) xb, by simpa using E.len, fun j x e h1 h2 => ?_, fun j k q ds' es' hjk h1 h2 h3 h4 => ?_, fun j q ds' h1 h3 => ?_⟩
  · by_cases ha : a = p
    · subst ha; rw [upd_same] at h; cases h; exact e4
    · rw [upd_ne ha] at h; exact E.stp.bh a o h
  · have ha : a ≠ p := ne_of_none h e3
    rw [upd_ne ha]; exact E.stp.hid a o h z
  · rcases get_set h2 with ⟨rfl, rfl⟩ | ⟨ne, h2⟩
    · rw [e1] at h1; cases h1
      exact ⟨.ref p, rfl, .lst (SqL.of upd_same) (xb.dpa e5)⟩
    · have z := E.get j x e h1 h2
      cases e with
      | no => trivial
      | dat d => obtain ⟨v, z1, z2⟩ := z; exact ⟨v, z1, xb.dp z2⟩
      | val v => exact z
      | own fs =>
        obtain ⟨r, rs, z1, z2, z3, z4, z5⟩ := z
        have : r ≠ p := fun e => by
          subst e; subst z1
          exact E.dis j i r fs ds ne h2 hi h1 e1
        exact ⟨r, rs, z1, by rw [upd_ne this]; exact z2, z3, z4, xb.dpa z5⟩
  · rcases get_set h1 with ⟨_, z⟩ | ⟨n1, h1⟩
    · cases z
    · rcases get_set h2 with ⟨_, z⟩ | ⟨n2, h2⟩
      · cases z
      · exact E.dis j k q ds' es' hjk h1 h2 h3 h4
  · rcases get_set h1 with ⟨_, z⟩ | ⟨n1, h1⟩
    · cases z
    · exact E.off j q ds' h1 h3
theorem EnvB.freeze (E : EnvB G B0 H0 B H σ Γ) {i : Nat} {ds : List PyData} (hi : Γ[i]? = some (.own ds)) :
    ∃ B1, Ex B B1 ∧ EnvB G B0 H0 B1 H σ (Γ.set i (.dat (.list ds))) := by
  obtain ⟨p, vs, _, _, x, E1⟩ := E.freeze' hi
  exact ⟨_, x, E1⟩
/-- the list of a slot is read, and stays the slot's own -/
theorem EnvB.borrow (E : EnvB G B0 H0 B H σ Γ) {i : Nat} {ds : List PyData} (hi : Γ[i]? = some (.own ds)) :
    ∃ B1, EnvB G B0 H0 B1 H σ (Γ.set i (.dat (.list ds))) ∧ ∀ B2 H2, Stp B1 H B2 H2 → ∃ B3, Stp B H B3 H2 := by
  obtain ⟨p, vs, hb, hh, x, E1⟩ := E.freeze' hi
  refine ⟨_, E1, fun B2 H2 s => ⟨fun a => if a = p then none else B2 a, ⟨fun a o h => ?_, fun a o h => ?_, s.hh, fun a o h z => ?_⟩⟩⟩
  · show (if a = p then none else B2 a) = some o
    rw [if_neg (ne_of_none h hb)]
    exact s.bb a o (x a o h)
  · have h : (if a = p then none else B2 a) = some o := h
    by_cases ha : a = p
    · rw [if_pos ha] at h; cases h
    · rw [if_neg ha] at h; exact s.bh a o h
  · show (if a = p then none else B2 a) = none
    by_cases ha : a = p
    · rw [if_pos ha]
    · rw [if_neg ha]; exact s.hid a o h (by rw [upd_ne ha]; exact z)
def wipeE (Γ : List Ent) : List Nat → List Ent
  | [] => Γ
  | v :: vs => (wipeE Γ vs).set v .no
theorem EnvB.wipe (E : EnvB G B0 H0 B H σ Γ) : ∀ vs : List Nat, EnvB G B0 H0 B H (wipe σ vs) (wipeE Γ vs)
  | [] => E
  | v :: vs => (E.wipe vs).set_no v none
end

/-! ### what evaluates to what -/
section
variable (G : Gd)
def EvD (te : TE) (Γ : List Ent) (d : PyData) : Prop :=
  ∀ (B0 H0 B H : Hp) (σ : L2.St), EnvB G B0 H0 B H σ Γ → ∀ Q : VK, (∀ v B2 H2, Stp B H B2 H2 → Dp G.K B2 v d → Q v H2) → te σ H Q
/-- a new list that nobody knows -/
def EvF (te : TE) (Γ : List Ent) (ds : List PyData) : Prop :=
  ∀ (B0 H0 B H : Hp) (σ : L2.St), EnvB G B0 H0 B H σ Γ → ∀ Q : VK, (∀ p vs B2 H2, Stp B H B2 H2 → H2 p = none → DpAll G.K B2 vs ds → Q (.ref p) (upd H2 p (.lst vs))) → te σ H Q
def EvT (tt : TT) (Γ : List Ent) (b : Bool) : Prop :=
  ∀ (B0 H0 B H : Hp) (σ : L2.St), EnvB G B0 H0 B H σ Γ → ∀ Q : Bool → Hp → Prop, (∀ B2 H2, Stp B H B2 H2 → Q b H2) → tt σ H Q
def EvA (ta : TA) (Γ : List Ent) (ds : List PyData) : Prop :=
  ∀ (B0 H0 B H : Hp) (σ : L2.St), EnvB G B0 H0 B H σ Γ → ∀ Q : List V → Hp → Prop, (∀ vs B2 H2, Stp B H B2 H2 → DpAll G.K B2 vs ds → Q vs H2) → ta σ H Q
def EvO (to : TO) (Γ : List Ent) (o : Option Int) : Prop :=
  ∀ (B0 H0 B H : Hp) (σ : L2.St), EnvB G B0 H0 B H σ Γ → ∀ Q : Option Int → Hp → Prop, (∀ B2 H2, Stp B H B2 H2 → Q o H2) → to σ H Q
/-- by values -/
def OpD (r : R2) (x y z : PyData) : Prop :=
  ∀ (B H : Hp) (v w : V), Ex B H → Dp G.K B v x → Dp G.K B w y → ∀ Q : VK, (∀ u B2 H2, Stp B H B2 H2 → Dp G.K B2 u z → Q u H2) → r v w H Q
def CaD (r : List V → Hp → VK → Prop) (ds : List PyData) (z : PyData) : Prop :=
  ∀ (B H : Hp) (vs : List V), Ex B H → DpAll G.K B vs ds → ∀ Q : VK, (∀ u B2 H2, Stp B H B2 H2 → Dp G.K B2 u z → Q u H2) → r vs H Q
def CaF (r : List V → Hp → VK → Prop) (ds zs : List PyData) : Prop :=
  ∀ (B H : Hp) (vs : List V), Ex B H → DpAll G.K B vs ds → ∀ Q : VK, (∀ p us B2 H2, Stp B H B2 H2 → H2 p = none → DpAll G.K B2 us zs → Q (.ref p) (upd H2 p (.lst us))) → r vs H Q
end
section
variable {G : Gd} {Γ : List Ent} {ta tb tc te : TE} {t u : TT} {x y z d : PyData} {r r' : R2} {a b : Bool}
theorem EvF.ev {ds : List PyData} (h : EvF G te Γ ds) : EvD G te Γ (.list ds) := fun B0 H0 B H σ E Q k =>
  h B0 H0 B H σ E Q fun p vs B2 H2 s hp hd => k _ _ _ (s.new hp) (.lst (SqL.of upd_same) ((Ex.new (s.bh.back hp)).dpa hd))
theorem ev_var {i : Nat} (h : Γ[i]? = some (.dat d)) : EvD G (tVar i) Γ d := fun B0 H0 B H σ E Q k => by
  obtain ⟨v, h1, h2⟩ := E.dat h
  exact ⟨v, h1, k v B H (Stp.refl E.stp.bh) h2⟩
theorem ev_c {v : V} (h : ∀ B, Dp G.K B v d) : EvD G (tC v) Γ d := fun B0 H0 B H σ E Q k => k v B H (Stp.refl E.stp.bh) (h B)
theorem ev_int {i : Int} : EvD G (tC (.int i)) Γ (.int i) := ev_c fun _ => .int i
theorem ev_bl {b : Bool} : EvD G (tC (.bl b)) Γ (.bool b) := ev_c fun _ => .bl b
theorem ev_str {x : Str} : EvD G (tC (.str x)) Γ (.str x) := ev_c fun _ => .str x
theorem ev_non : EvD G (tC .non) Γ .none := ev_c fun _ => .non
theorem ev_op (ha : EvD G ta Γ x) (hb : EvD G tb Γ y) (hr : OpD G r x y z) : EvD G (tOp r ta tb) Γ z := fun B0 H0 B H σ E Q k =>
  ha B0 H0 B H σ E _ fun v B1 H1 s1 d1 => hb B0 H0 B1 H1 σ (E.step s1) _ fun w B2 H2 s2 d2 =>
    hr B2 H2 v w s2.bh (s2.bb.dp d1) d2 Q fun u B3 H3 s3 d3 => k u B3 H3 ((s1.trans s2).trans s3) d3
theorem ev_un {rr : V → Hp → VK → Prop} {i j : Int} (ha : EvD G ta Γ (.int i)) (hr : ∀ (H : Hp) (Q : VK), Q (.int j) H → rr (.int i) H Q) : EvD G (tUn rr ta) Γ (.int j) := fun B0 H0 B H σ E Q k =>
  ha B0 H0 B H σ E _ fun v B1 H1 s1 d1 => by cases d1; exact hr H1 Q (k _ B1 H1 s1 (.int j))
theorem ev_neg {i : Int} (ha : EvD G ta Γ (.int i)) : EvD G (tUn (rU fun i => .int (-i)) ta) Γ (.int (-i)) := ev_un ha fun H Q q => ⟨i, rfl, q⟩
/-- operators on ints -/
theorem od_I0 {g : Int → Int → V} {i j : Int} (hz : ∀ B, Dp G.K B (g i j) z) : OpD G (rI0 g) (.int i) (.int j) z := fun B H v w e d1 d2 Q k => by
  cases d1; cases d2
  exact ⟨i, j, rfl, rfl, k _ B H (Stp.refl e) (hz B)⟩
theorem od_I {C : Int → Int → Prop} {g : Int → Int → V} {i j : Int} (hc : C i j) (hz : ∀ B, Dp G.K B (g i j) z) : OpD G (rI C g) (.int i) (.int j) z := fun B H v w e d1 d2 Q k => by
  cases d1; cases d2
  exact ⟨i, j, rfl, rfl, hc, k _ B H (Stp.refl e) (hz B)⟩
theorem ev_andV (h1 : EvD G ta Γ (.bool a)) (h2 : a = true → EvD G tb Γ (.bool b)) : EvD G (tAndV ta tb) Γ (.bool (a && b)) := fun B0 H0 B H σ E Q k =>
  h1 B0 H0 B H σ E _ fun v B1 H1 s1 d1 => by
    cases d1
    refine ⟨a, rfl, ?_⟩
    cases a with
    | true => exact h2 rfl B0 H0 B1 H1 σ (E.step s1) Q fun w B2 H2 s2 d2 => k w B2 H2 (s1.trans s2) d2
    | false => exact k _ B1 H1 s1 (.bl false)
theorem ev_orV (h1 : EvD G ta Γ (.bool a)) (h2 : a = false → EvD G tb Γ (.bool b)) : EvD G (tOrV ta tb) Γ (.bool (a || b)) := fun B0 H0 B H σ E Q k =>
  h1 B0 H0 B H σ E _ fun v B1 H1 s1 d1 => by
    cases d1
    refine ⟨a, rfl, ?_⟩
    cases a with
    | false => exact h2 rfl B0 H0 B1 H1 σ (E.step s1) Q fun w B2 H2 s2 d2 => k w B2 H2 (s1.trans s2) d2
    | true => exact k _ B1 H1 s1 (.bl true)
theorem ev_notV (h1 : EvD G ta Γ (.bool a)) : EvD G (tNotV ta) Γ (.bool (!a)) := fun B0 H0 B H σ E Q k =>
  h1 B0 H0 B H σ E _ fun v B1 H1 s1 d1 => by
    cases d1
    exact ⟨a, rfl, k _ B1 H1 s1 (.bl _)⟩
theorem ev_chain (ha : EvD G ta Γ x) (hb : EvD G tb Γ y) (hr : OpD G r x y (.bool a)) (hc : a = true → EvD G tc Γ z) (hr' : a = true → OpD G r' y z (.bool b)) : EvD G (tChain r r' ta tb tc) Γ (.bool (a && b)) := fun B0 H0 B H σ E Q k =>
  ha B0 H0 B H σ E _ fun v B1 H1 s1 d1 => hb B0 H0 B1 H1 σ (E.step s1) _ fun w B2 H2 s2 d2 =>
    hr B2 H2 v w s2.bh (s2.bb.dp d1) d2 _ fun c B3 H3 s3 d3 => by
      cases d3
      refine ⟨a, rfl, ?_⟩
      have s13 := (s1.trans s2).trans s3
      cases a with
      | true =>
        exact hc rfl B0 H0 B3 H3 σ (E.step s13) _ fun w2 B4 H4 s4 d4 => hr' rfl B4 H4 w w2 s4.bh ((s3.trans s4).bb.dp d2) d4 Q fun c2 B5 H5 s5 d5 => k c2 B5 H5 ((s13.trans s4).trans s5) d5
      | false => exact k _ B3 H3 s13 (.bl false)
theorem ev_if (h : EvT G t Γ a) (h1 : a = true → EvD G ta Γ d) (h2 : a = false → EvD G tb Γ d) : EvD G (tIf t ta tb) Γ d := fun B0 H0 B H σ E Q k =>
  h B0 H0 B H σ E _ fun B1 H1 s1 => by
    cases a with
    | true => exact h1 rfl B0 H0 B1 H1 σ (E.step s1) Q fun w B2 H2 s2 d2 => k w B2 H2 (s1.trans s2) d2
    | false => exact h2 rfl B0 H0 B1 H1 σ (E.step s1) Q fun w B2 H2 s2 d2 => k w B2 H2 (s1.trans s2) d2
theorem et_test (h : EvD G te Γ (.bool a)) : EvT G (tTest te) Γ a := fun B0 H0 B H σ E Q k =>
  h B0 H0 B H σ E _ fun v B1 H1 s1 d1 => by cases d1; exact ⟨a, rfl, k B1 H1 s1⟩
theorem et_B (h : EvD G te Γ (.bool a)) : EvT G (tB te) Γ a := fun B0 H0 B H σ E Q k =>
  h B0 H0 B H σ E _ fun v B1 H1 s1 d1 => by cases d1; exact ⟨a, rfl, k B1 H1 s1⟩
theorem et_and (h1 : EvT G t Γ a) (h2 : a = true → EvT G u Γ b) : EvT G (tAnd t u) Γ (a && b) := fun B0 H0 B H σ E Q k =>
  h1 B0 H0 B H σ E _ fun B1 H1 s1 => by
    cases a with
    | true => exact h2 rfl B0 H0 B1 H1 σ (E.step s1) Q fun B2 H2 s2 => k B2 H2 (s1.trans s2)
    | false => exact k B1 H1 s1
theorem et_or (h1 : EvT G t Γ a) (h2 : a = false → EvT G u Γ b) : EvT G (tOr t u) Γ (a || b) := fun B0 H0 B H σ E Q k =>
  h1 B0 H0 B H σ E _ fun B1 H1 s1 => by
    cases a with
    | false => exact h2 rfl B0 H0 B1 H1 σ (E.step s1) Q fun B2 H2 s2 => k B2 H2 (s1.trans s2)
    | true => exact k B1 H1 s1
theorem et_not (h1 : EvT G t Γ a) : EvT G (tNot t) Γ (!a) := fun B0 H0 B H σ E Q k => h1 B0 H0 B H σ E _ fun B1 H1 s1 => k B1 H1 s1
theorem et_yes : EvT G tYes Γ true := fun B0 H0 B H σ E Q k => k B H (Stp.refl E.stp.bh)
theorem ea_nil : EvA G tNil Γ [] := fun B0 H0 B H σ E Q k => k [] B H (Stp.refl E.stp.bh) .nil
theorem ea_cons {tr : TA} {ds : List PyData} (h : EvD G te Γ d) (hr : EvA G tr Γ ds) : EvA G (tCons te tr) Γ (d :: ds) := fun B0 H0 B H σ E Q k =>
  h B0 H0 B H σ E _ fun v B1 H1 s1 d1 => hr B0 H0 B1 H1 σ (E.step s1) _ fun vs B2 H2 s2 d2 => k _ B2 H2 (s1.trans s2) (.cons (s2.bb.dp d1) d2)
theorem ev_tup {t : TA} {ds : List PyData} (h : EvA G t Γ ds) (hl : ds.length ≤ 100000 := by decide) : EvD G (tTup t) Γ (.tuple ds) := fun B0 H0 B H σ E Q k =>
  h B0 H0 B H σ E _ fun vs B1 H1 s1 d1 => ⟨Evl.sz_of (by rw [dpa_len d1]; exact hl), fun p hp => k _ _ _ (s1.new hp) (.tup (SqT.of upd_same) ((Ex.new (s1.bh.back hp)).dpa d1))⟩
theorem ef_lst {t : TA} {ds : List PyData} (h : EvA G t Γ ds) (hl : ds.length ≤ 100000 := by decide) : EvF G (tLst t) Γ ds := fun B0 H0 B H σ E Q k =>
  h B0 H0 B H σ E _ fun vs B1 H1 s1 d1 => ⟨Evl.sz_of (by rw [dpa_len d1]; exact hl), fun p hp => k p vs B1 H1 s1 hp d1⟩
theorem ev_cb {rr : List V → Hp → VK → Prop} {t : TA} {ds : List PyData} (h : EvA G t Γ ds) (hr : CaD G rr ds z) : EvD G (tCB rr t) Γ z := fun B0 H0 B H σ E Q k =>
  h B0 H0 B H σ E _ fun vs B1 H1 s1 d1 => hr B1 H1 vs s1.bh d1 Q fun u B2 H2 s2 d2 => k u B2 H2 (s1.trans s2) d2
theorem ef_cb {rr : List V → Hp → VK → Prop} {t : TA} {ds zs : List PyData} (h : EvA G t Γ ds) (hr : CaF G rr ds zs) : EvF G (tCB rr t) Γ zs := fun B0 H0 B H σ E Q k =>
  h B0 H0 B H σ E _ fun vs B1 H1 s1 d1 => hr B1 H1 vs s1.bh d1 Q fun p us B2 H2 s2 hp d2 => k p us B2 H2 (s1.trans s2) hp d2
theorem eo_none : EvO G tNoPart Γ none := fun B0 H0 B H σ E Q k => k B H (Stp.refl E.stp.bh)
theorem eo_some {i : Int} (h : EvD G te Γ (.int i)) : EvO G (tPart te) Γ (some i) := fun B0 H0 B H σ E Q k =>
  h B0 H0 B H σ E _ fun v B1 H1 s1 d1 => by cases d1; exact ⟨i, rfl, k B1 H1 s1⟩
theorem ev_to (h : EvD G te Γ x) (e : x = y) : EvD G te Γ y := e ▸ h
theorem et_to (h : EvT G t Γ a) (e : a = b) : EvT G t Γ b := e ▸ h
end
end Pd

namespace Pd
open PySem L2

/-! ### operators that take what stands there -/
section
variable {X : Cx}
def rCatS (K : PySem.W.Frag) : R2 := fun x y H Q => ∃ l b xs zs, x = .ref l ∧ y = .ref b ∧ SqL K H l xs ∧ SqL K H b zs ∧ xs.length + zs.length ≤ sizeLine ∧ ∀ p, H p = none → Q (.ref p) (upd H p (.lst (xs ++ zs)))
theorem op_catS : OpR X (binaryOp .Add) (rCatS X.K) := by
  intro pins s σ H x y v u Q I rx ry h
  obtain ⟨l, b, xs, zs, rfl, rfl, hH, hB, hz, q⟩ := h
  cases rx
  cases ry
  obtain ⟨its, r, ⟨⟨cls, dd, data, sl⟩, n, e, hc, hdd, hd⟩, z⟩ := I.list hH
  obtain ⟨its2, r2, ⟨⟨cls2, dd2, data2, sl2⟩, n2, e2, hc2, hdd2, hd2⟩, z2⟩ := I.list hB
  simp only at hc hd hc2 hd2 hdd hdd2
  subst hc hd hc2 hd2 hdd hdd2
  have l1 := r.length
  have l2 := r2.length
  have ea : its.toArray ++ its2.toArray = (its ++ its2).toArray := by simp
  refine concat_meets ⟨_, e, rfl⟩ ⟨_, e2, rfl⟩ noFill_list_add seq_list_add PySem.F.slot_list_add PySem.F.entry_list_add (PySem.F.args_list_add_2 _ _) (PyProof.Rows.list_addW l b its.toArray its2.toArray n n2 _ _ sl sl2 (by simp only [List.size_toArray]; omega)) ⟨e, e2, ?_⟩
  rw [ea]
  exact ⟨.ref _, _, I.lnew (t' := s.toks) (r.append r2) (by rw [List.length_append]; omega), rfl, q _ I.fresh⟩
def rAddTx : R2 := fun x y H Q => ∃ i j, x = .str i ∧ y = .str j ∧ i.length + j.length ≤ sizeLine ∧ Q (.str (i ++ j)) H
def rAddA (K : PySem.W.Frag) : R2 := fun x y H Q => rI0 (fun i j => .int (i + j)) x y H Q ∨ rAddTx x y H Q ∨ rCatS K x y H Q ∨ rCatT K x y H Q
theorem op_addA : OpR X (binaryOp .Add) (rAddA X.K) := op_add.or (OpR.or (r := rAddTx) op_add_str (op_catS.or op_catT))
def rEqA (K : PySem.W.Frag) : R2 := fun x y H Q => rEq x y H Q ∨ rEqD K x y H Q
def rNeA (K : PySem.W.Frag) : R2 := fun x y H Q => rNe x y H Q ∨ rNeD K x y H Q
theorem op_eqA (hu : X.A.units + 64 < cLine) : OpR X (compareOp .Eq) (rEqA X.K) := op_eq.or (op_eqD hu)
theorem op_neA (hu : X.A.units + 64 < cLine) : OpR X (compareOp .NotEq) (rNeA X.K) := op_ne.or (op_neD hu)
def rLt : R2 := rI0 fun i j => .bl (decide (i < j))
def rLe : R2 := rI0 fun i j => .bl (decide (i ≤ j))
def rGt : R2 := rI0 fun i j => .bl (decide (j < i))
def rGe : R2 := rI0 fun i j => .bl (decide (j ≤ i))
theorem op_ltI : OpR X (compareOp .Lt) rLt := op_lt
theorem op_leI : OpR X (compareOp .LtE) rLe := op_le
theorem op_gtI : OpR X (compareOp .Gt) rGt := op_gt
theorem op_geI : OpR X (compareOp .GtE) rGe := op_ge
def rSub : R2 := rI0 fun i j => .int (i - j)
theorem op_subI : OpR X (binaryOp .Sub) rSub := op_sub
def rMul : R2 := rI CMul fun i j => .int (i * j)
theorem op_mulI : OpR X (binaryOp .Mult) rMul := op_mul
def rDiv : R2 := rI CDiv fun i j => .int (i / j)
theorem op_divI : OpR X (binaryOp .FloorDiv) rDiv := op_fdiv
def rMod : R2 := rI (fun _ j => 0 < j) fun i j => .int (i % j)
theorem op_modI : OpR X (binaryOp .Mod) rMod := op_mod
def rPow : R2 := rI CPow fun i j => .int (i ^ j.toNat)
theorem op_powI : OpR X (binaryOp .Pow) rPow := op_pow
def rIsN : R2 := fun x y H Q => y = .non ∧ Q (.bl (decide (x = .non))) H
theorem op_isNI : OpR X (compareOp .Is) rIsN := op_isN
def rIsNot : R2 := fun x y H Q => y = .non ∧ Q (.bl (!decide (x = .non))) H
theorem op_isNotI : OpR X (compareOp .IsNot) rIsNot := op_notN
def rInSg : R2 := fun x y H Q => ∃ (c : Nat) (z : Str), x = .str ⟨#[c]⟩ ∧ y = .str z ∧ Q (.bl (decide (c ∈ z.cps.toList))) H
def rNotInSg : R2 := fun x y H Q => ∃ (c : Nat) (z : Str), x = .str ⟨#[c]⟩ ∧ y = .str z ∧ Q (.bl (!decide (c ∈ z.cps.toList))) H
def rInA (K : PySem.W.Frag) : R2 := fun x y H Q => rIn K false x y H Q ∨ rInSg x y H Q
def rNotInA (K : PySem.W.Frag) : R2 := fun x y H Q => rIn K true x y H Q ∨ rNotInSg x y H Q
theorem op_inA : OpR X (compareOp .In) (rInA X.K) := OpR.or op_in_seq (r' := rInSg) op_in_sign
theorem op_notInA : OpR X (compareOp .NotIn) (rNotInA X.K) := OpR.or op_notIn_seq (r' := rNotInSg) op_notIn_sign
def rLen (K : PySem.W.Frag) : List V → Hp → VK → Prop := fun xs H Q => ∃ x n, xs = [x] ∧ LenV K x H n ∧ Q (.int n) H
theorem call_lenA : CallR X (.builtin "len") (rLen X.K) := call_len
def rIntA : List V → Hp → VK → Prop := fun xs H Q => ((∃ i, xs = [.int i] ∧ Q (.int i) H) ∨ ∃ k, xs = [.bl k] ∧ Q (.int (if k then 1 else 0)) H) ∨ ∃ a n, xs = [.str a] ∧ PySem.intText? a = some n ∧ a.length ≤ 640 ∧ Q (.int n) H
theorem call_intA : CallR X (.type "int") rIntA := CallR.or call_int1 call_int_str
def rStrI : List V → Hp → VK → Prop := fun xs H Q => ∃ i, xs = [.int i] ∧ i.natAbs.log2 < 1920 ∧ Q (.str (toString i)) H
theorem call_strI : CallR X (.type "str") rStrI := call_str_int
def rListOf (K : PySem.W.Frag) : List V → Hp → VK → Prop := fun xs H Q => ∃ p ys, xs = [.ref p] ∧ (SqL K H p ys ∨ SqT K H p ys) ∧ ∀ l, H l = none → Q (.ref l) (upd H l (.lst ys))
theorem call_listA : CallR X (.type "list") (rListOf X.K) := call_list_of
def rTupOf (K : PySem.W.Frag) : List V → Hp → VK → Prop := fun xs H Q => ∃ p ys, xs = [.ref p] ∧ ((SqL K H p ys ∧ ∀ l, H l = none → Q (.ref l) (upd H l (.tup ys))) ∨ (SqT K H p ys ∧ Q (.ref p) H))
theorem call_tupA : CallR X (.type "tuple") (rTupOf X.K) := call_tuple_of
def rMax2 : List V → Hp → VK → Prop := fun xs H Q => ∃ i j, xs = [.int i, .int j] ∧ Q (.int (if j > i then j else i)) H
theorem call_maxI (hc : X.calm = true) : CallR X (.builtin "max") rMax2 := call_max2 hc
def rMin2 : List V → Hp → VK → Prop := fun xs H Q => ∃ i j, xs = [.int i, .int j] ∧ Q (.int (if j < i then j else i)) H
theorem call_minI (hc : X.calm = true) : CallR X (.builtin "min") rMin2 := call_min2 hc
/-- walks of anything served -/
theorem pi_or {tg e : Expr} {w1 w2 : TI} (h1 : PI X tg e w1) (h2 : PI X tg e w2) : PI X tg e (fun σ H R => w1 σ H R ∨ w2 σ H R) := ⟨fun pins s σ H R I h => h.elim (h1.run pins s σ H R I) (h2.run pins s σ H R I)⟩
def iAny (K : PySem.W.Frag) (te : TE) : TI := fun σ H R => iList K te σ H R ∨ iTup K te σ H R ∨ iStr te σ H R
theorem pi_any {tg e : Expr} {te : TE} (h : PE X e te) : PI X tg e (iAny X.K te) := pi_or (pi_list h) (pi_or (pi_tup h) (pi_str h))
end

section
variable {G : Gd} {Γ : List Ent} {ta tb tc te : TE} {x y z d : PyData} {i j : Int} {p q : Str} {a b : Bool}
/-! ### their data -/
theorem od_add_int : OpD G (rAddA G.K) (.int i) (.int j) (.int (i + j)) := fun B H v w e d1 d2 Q k => .inl (od_I0 (fun _ => .int _) B H v w e d1 d2 Q k)
theorem od_add_str (h : p.length + q.length ≤ 100000) : OpD G (rAddA G.K) (.str p) (.str q) (.str (p ++ q)) := fun B H v w e d1 d2 Q k => by
  cases d1; cases d2
  exact .inr (.inl ⟨p, q, rfl, rfl, Evl.sz_of h, k _ B H (Stp.refl e) (.str _)⟩)
theorem of_add_list {xs ys : List PyData} (h : xs.length + ys.length ≤ 100000) (ha : EvD G ta Γ (.list xs)) (hb : EvD G tb Γ (.list ys)) : EvF G (tOp (rAddA G.K) ta tb) Γ (xs ++ ys) := fun B0 H0 B H σ E Q k =>
  ha B0 H0 B H σ E _ fun v B1 H1 s1 d1 => hb B0 H0 B1 H1 σ (E.step s1) _ fun w B2 H2 s2 d2 => by
    have d1' := s2.bb.dp d1
    cases d1' with
    | lst h1 a1 =>
      cases d2 with
      | lst h2 a2 =>
        exact .inr (.inr (.inl ⟨_, _, _, _, rfl, rfl, s2.bh.sl h1, s2.bh.sl h2, Evl.sz_of (by rw [dpa_len a1, dpa_len a2]; exact h), fun p hp => k p _ B2 H2 (s1.trans s2) hp (dpa_app a1 a2)⟩))
theorem od_add_tup {xs ys : List PyData} (hx : xs ≠ []) (h : xs.length + ys.length ≤ 100000) : OpD G (rAddA G.K) (.tuple xs) (.tuple ys) (.tuple (xs ++ ys)) := fun B H v w e d1 d2 Q k => by
  cases d1 with
  | tup h1 a1 =>
    cases d2 with
    | tup h2 a2 =>
      refine .inr (.inr (.inr ⟨_, _, _, _, rfl, rfl, e.st h1, e.st h2, fun z => ?_, Evl.sz_of (by rw [dpa_len a1, dpa_len a2]; exact h), fun z => ?_, fun z p hp => ?_⟩))
      · have := dpa_len a1; rw [z] at this; exact hx (List.length_eq_zero_iff.mp this.symm)
      · have := dpa_len a2; rw [z] at this; have := List.length_eq_zero_iff.mp this.symm; subst this
        exact k _ B H (Stp.refl e) (by rw [List.append_nil]; exact .tup h1 a1)
      · exact k _ _ _ ((Stp.refl e).new hp) (.tup (SqT.of upd_same) ((Ex.new (e.back hp)).dpa (dpa_app a1 a2)))
theorem ev_add_int (ha : EvD G ta Γ (.int i)) (hb : EvD G tb Γ (.int j)) : EvD G (tOp (rAddA G.K) ta tb) Γ (.int (i + j)) := ev_op ha hb od_add_int
theorem ev_add_str (ha : EvD G ta Γ (.str p)) (hb : EvD G tb Γ (.str q)) (h : p.length + q.length ≤ 100000) : EvD G (tOp (rAddA G.K) ta tb) Γ (.str (p ++ q)) := ev_op ha hb (od_add_str h)
theorem ev_add_tup {xs ys : List PyData} (ha : EvD G ta Γ (.tuple xs)) (hb : EvD G tb Γ (.tuple ys)) (hx : xs ≠ []) (h : xs.length + ys.length ≤ 100000) : EvD G (tOp (rAddA G.K) ta tb) Γ (.tuple (xs ++ ys)) := ev_op ha hb (od_add_tup hx h)
theorem ev_sub (ha : EvD G ta Γ (.int i)) (hb : EvD G tb Γ (.int j)) : EvD G (tOp rSub ta tb) Γ (.int (i - j)) := ev_op ha hb (od_I0 fun _ => .int _)
theorem ev_mul (ha : EvD G ta Γ (.int i)) (hb : EvD G tb Γ (.int j)) (h : CMul i j) : EvD G (tOp rMul ta tb) Γ (.int (i * j)) := ev_op ha hb (od_I h fun _ => .int _)
theorem ev_div (ha : EvD G ta Γ (.int i)) (hb : EvD G tb Γ (.int j)) (h : CDiv i j) : EvD G (tOp rDiv ta tb) Γ (.int (i / j)) := ev_op ha hb (od_I h fun _ => .int _)
theorem ev_mod (ha : EvD G ta Γ (.int i)) (hb : EvD G tb Γ (.int j)) (h : 0 < j) : EvD G (tOp rMod ta tb) Γ (.int (i % j)) := ev_op ha hb (od_I h fun _ => .int _)
/-- a power of two written numbers -/
theorem ev_pow {n : Int} (ha : EvD G ta Γ (.int i)) (hb : EvD G tb Γ (.int j)) (h : CPow i j) (e : i ^ j.toNat = n) : EvD G (tOp rPow ta tb) Γ (.int n) := e ▸ ev_op ha hb (od_I h fun _ => .int _)
theorem od_lt : OpD G rLt (.int i) (.int j) (.bool (decide (i < j))) := od_I0 fun _ => .bl _
theorem od_le : OpD G rLe (.int i) (.int j) (.bool (decide (i ≤ j))) := od_I0 fun _ => .bl _
theorem od_gt : OpD G rGt (.int i) (.int j) (.bool (decide (j < i))) := od_I0 fun _ => .bl _
theorem od_ge : OpD G rGe (.int i) (.int j) (.bool (decide (j ≤ i))) := od_I0 fun _ => .bl _
theorem ev_lt (ha : EvD G ta Γ (.int i)) (hb : EvD G tb Γ (.int j)) : EvD G (tOp rLt ta tb) Γ (.bool (decide (i < j))) := ev_op ha hb od_lt
theorem ev_le (ha : EvD G ta Γ (.int i)) (hb : EvD G tb Γ (.int j)) : EvD G (tOp rLe ta tb) Γ (.bool (decide (i ≤ j))) := ev_op ha hb od_le
theorem ev_gt (ha : EvD G ta Γ (.int i)) (hb : EvD G tb Γ (.int j)) : EvD G (tOp rGt ta tb) Γ (.bool (decide (j < i))) := ev_op ha hb od_gt
theorem ev_ge (ha : EvD G ta Γ (.int i)) (hb : EvD G tb Γ (.int j)) : EvD G (tOp rGe ta tb) Γ (.bool (decide (j ≤ i))) := ev_op ha hb od_ge
theorem dec_V_int : decide (V.int i = V.int j) = decide (i = j) := by rw [Bool.eq_iff_iff]; simp
theorem dec_V_str : decide (V.str p = V.str q) = decide (p = q) := by rw [Bool.eq_iff_iff]; simp
theorem dec_V_bl : decide (V.bl a = V.bl b) = decide (a = b) := by rw [Bool.eq_iff_iff]; simp
theorem od_eq_int : OpD G (rEqA G.K) (.int i) (.int j) (.bool (decide (i = j))) := fun B H v w e d1 d2 Q k => by
  cases d1; cases d2
  exact .inl ⟨rfl, by rw [dec_V_int]; exact k _ B H (Stp.refl e) (.bl _)⟩
theorem od_eq_str : OpD G (rEqA G.K) (.str p) (.str q) (.bool (decide (p = q))) := fun B H v w e d1 d2 Q k => by
  cases d1; cases d2
  exact .inl ⟨rfl, by rw [dec_V_str]; exact k _ B H (Stp.refl e) (.bl _)⟩
theorem od_eq_bl : OpD G (rEqA G.K) (.bool a) (.bool b) (.bool (decide (a = b))) := fun B H v w e d1 d2 Q k => by
  cases d1; cases d2
  exact .inl ⟨rfl, by rw [dec_V_bl]; exact k _ B H (Stp.refl e) (.bl _)⟩
theorem od_eq_any (hx : SeqAt.shaped x = true) (hy : SeqAt.shaped y = true) : OpD G (rEqA G.K) x y (.bool (PyData.eqv x y)) := fun B H v w e d1 d2 Q k =>
  .inr ⟨x, y, e.dp d1, e.dp d2, hx, hy, k _ B H (Stp.refl e) (.bl _)⟩
theorem od_ne_int : OpD G (rNeA G.K) (.int i) (.int j) (.bool (!decide (i = j))) := fun B H v w e d1 d2 Q k => by
  cases d1; cases d2
  exact .inl ⟨rfl, by rw [dec_V_int]; exact k _ B H (Stp.refl e) (.bl _)⟩
theorem od_ne_str : OpD G (rNeA G.K) (.str p) (.str q) (.bool (!decide (p = q))) := fun B H v w e d1 d2 Q k => by
  cases d1; cases d2
  exact .inl ⟨rfl, by rw [dec_V_str]; exact k _ B H (Stp.refl e) (.bl _)⟩
theorem od_ne_bl : OpD G (rNeA G.K) (.bool a) (.bool b) (.bool (!decide (a = b))) := fun B H v w e d1 d2 Q k => by
  cases d1; cases d2
  exact .inl ⟨rfl, by rw [dec_V_bl]; exact k _ B H (Stp.refl e) (.bl _)⟩
theorem od_ne_any (hx : SeqAt.shaped x = true) (hy : SeqAt.shaped y = true) : OpD G (rNeA G.K) x y (.bool (!PyData.eqv x y)) := fun B H v w e d1 d2 Q k =>
  .inr ⟨x, y, e.dp d1, e.dp d2, hx, hy, k _ B H (Stp.refl e) (.bl _)⟩
theorem ev_eq_int (ha : EvD G ta Γ (.int i)) (hb : EvD G tb Γ (.int j)) : EvD G (tOp (rEqA G.K) ta tb) Γ (.bool (decide (i = j))) := ev_op ha hb od_eq_int
theorem ev_eq_str (ha : EvD G ta Γ (.str p)) (hb : EvD G tb Γ (.str q)) : EvD G (tOp (rEqA G.K) ta tb) Γ (.bool (decide (p = q))) := ev_op ha hb od_eq_str
theorem ev_eq_bl (ha : EvD G ta Γ (.bool a)) (hb : EvD G tb Γ (.bool b)) : EvD G (tOp (rEqA G.K) ta tb) Γ (.bool (decide (a = b))) := ev_op ha hb od_eq_bl
theorem ev_eq_any (ha : EvD G ta Γ x) (hb : EvD G tb Γ y) (hx : SeqAt.shaped x = true) (hy : SeqAt.shaped y = true) : EvD G (tOp (rEqA G.K) ta tb) Γ (.bool (PyData.eqv x y)) := ev_op ha hb (od_eq_any hx hy)
theorem ev_ne_int (ha : EvD G ta Γ (.int i)) (hb : EvD G tb Γ (.int j)) : EvD G (tOp (rNeA G.K) ta tb) Γ (.bool (!decide (i = j))) := ev_op ha hb od_ne_int
theorem ev_ne_str (ha : EvD G ta Γ (.str p)) (hb : EvD G tb Γ (.str q)) : EvD G (tOp (rNeA G.K) ta tb) Γ (.bool (!decide (p = q))) := ev_op ha hb od_ne_str
theorem ev_ne_bl (ha : EvD G ta Γ (.bool a)) (hb : EvD G tb Γ (.bool b)) : EvD G (tOp (rNeA G.K) ta tb) Γ (.bool (!decide (a = b))) := ev_op ha hb od_ne_bl
theorem ev_ne_any (ha : EvD G ta Γ x) (hb : EvD G tb Γ y) (hx : SeqAt.shaped x = true) (hy : SeqAt.shaped y = true) : EvD G (tOp (rNeA G.K) ta tb) Γ (.bool (!PyData.eqv x y)) := ev_op ha hb (od_ne_any hx hy)
def isNoneD : PyData → Bool
  | .none => true
  | _ => false
theorem dp_isN {K : PySem.W.Frag} {B : Hp} {v : V} {d : PyData} (h : Dp K B v d) : decide (v = .non) = isNoneD d := by
  cases h with
  | non => rfl
  | bl b => rfl
  | int i => rfl
  | str x => rfl
  | lst _ _ => rfl
  | tup _ _ => rfl
theorem ev_isN (ha : EvD G ta Γ x) : EvD G (tOp rIsN ta (tC .non)) Γ (.bool (isNoneD x)) := ev_op ha ev_non fun B H v w e d1 d2 Q k => by
  cases d2
  exact ⟨rfl, by rw [dp_isN d1]; exact k _ B H (Stp.refl e) (.bl _)⟩
theorem ev_isNot (ha : EvD G ta Γ x) : EvD G (tOp rIsNot ta (tC .non)) Γ (.bool (!isNoneD x)) := ev_op ha ev_non fun B H v w e d1 d2 Q k => by
  cases d2
  exact ⟨rfl, by rw [dp_isN d1]; exact k _ B H (Stp.refl e) (.bl _)⟩
/-! in -/
def flatD : PyData → Bool
  | .none => true | .bool _ => true | .int _ => true | .str _ => true | _ => false
def inD (x : PyData) (ds : List PyData) : Bool := ds.any fun y => PyData.eqv y x
theorem dp_flat {K : PySem.W.Frag} {B : Hp} {v : V} {d : PyData} (h : Dp K B v d) (f : flatD d = true) : flatV v = true := by
  cases h with
  | non => rfl
  | bl b => rfl
  | int i => rfl
  | str x => rfl
  | lst _ _ => cases f
  | tup _ _ => cases f
theorem dp_eqV {K : PySem.W.Frag} {B : Hp} {v w : V} {d e : PyData} (h : Dp K B v d) (g : Dp K B w e) (f : flatD d = true) (f' : flatD e = true) : eqV v w = PyData.eqv d e := by
  cases h with
  | lst _ _ => cases f
  | tup _ _ => cases f
  | non => cases g <;> first | (simp [eqV, PyData.eqv]; done) | cases f'
  | bl b => cases g <;> first | (cases b <;> simp [eqV, PyData.eqv]; done) | (simp [eqV, PyData.eqv]; done) | cases f'
  | int i => cases g <;> first | (simp [eqV, PyData.eqv]; done) | (rename_i b; cases b <;> simp [eqV, PyData.eqv]; done) | cases f'
  | str x => cases g <;> first | (simp [eqV, PyData.eqv]; done) | cases f'
end
end Pd

namespace Pd
open PySem L2
section
variable {G : Gd} {Γ : List Ent} {ta tb tc te : TE} {x y z d : PyData} {i j : Int} {p q : Str} {a b : Bool} {ds es : List PyData}
theorem dpa_eqAll {K : PySem.W.Frag} {B : Hp} {v : V} {d : PyData} (g : Dp K B v d) (f : flatD d = true) : ∀ {es : List PyData} {ws : List V}, DpAll K B ws es → es.all flatD = true → inV v ws = inD d es ∧ ws.all flatV = true
  | [], _, h, _ => by cases h; exact ⟨rfl, rfl⟩
  | e :: es, _, h, fa => by
    cases h with
    | cons h1 h2 =>
      rw [List.all_cons, Bool.and_eq_true] at fa
      obtain ⟨e1, e2⟩ := dpa_eqAll g f h2 fa.2
      refine ⟨?_, ?_⟩
      · show (eqV _ v || inV v _) = (PyData.eqv e d || inD d es)
        rw [e1, dp_eqV h1 g fa.1 f]
      · rw [List.all_cons, dp_flat h1 fa.1, e2]; rfl
theorem od_in {ds : List PyData} (hx : flatD x = true) (hf : ds.all flatD = true) (hy : y = .list ds ∨ y = .tuple ds) : OpD G (rInA G.K) x y (.bool (inD x ds)) := fun B H v w e d1 d2 Q k => by
  rcases hy with rfl | rfl
  · cases d2 with
    | lst h1 a1 =>
      obtain ⟨e1, e2⟩ := dpa_eqAll d1 hx a1 hf
      exact .inl ⟨_, _, rfl, .inl (e.sl h1), dp_flat d1 hx, e2, k _ B H (Stp.refl e) (by show Dp _ _ (.bl (inV v _)) _; rw [e1]; exact .bl _)⟩
  · cases d2 with
    | tup h1 a1 =>
      obtain ⟨e1, e2⟩ := dpa_eqAll d1 hx a1 hf
      exact .inl ⟨_, _, rfl, .inr (e.st h1), dp_flat d1 hx, e2, k _ B H (Stp.refl e) (by show Dp _ _ (.bl (inV v _)) _; rw [e1]; exact .bl _)⟩
theorem od_notIn {ds : List PyData} (hx : flatD x = true) (hf : ds.all flatD = true) (hy : y = .list ds ∨ y = .tuple ds) : OpD G (rNotInA G.K) x y (.bool (!inD x ds)) := fun B H v w e d1 d2 Q k => by
  rcases hy with rfl | rfl
  · cases d2 with
    | lst h1 a1 =>
      obtain ⟨e1, e2⟩ := dpa_eqAll d1 hx a1 hf
      exact .inl ⟨_, _, rfl, .inl (e.sl h1), dp_flat d1 hx, e2, k _ B H (Stp.refl e) (by show Dp _ _ (.bl (!inV v _)) _; rw [e1]; exact .bl _)⟩
  · cases d2 with
    | tup h1 a1 =>
      obtain ⟨e1, e2⟩ := dpa_eqAll d1 hx a1 hf
      exact .inl ⟨_, _, rfl, .inr (e.st h1), dp_flat d1 hx, e2, k _ B H (Stp.refl e) (by show Dp _ _ (.bl (!inV v _)) _; rw [e1]; exact .bl _)⟩
theorem ev_in_list (ha : EvD G ta Γ x) (hb : EvD G tb Γ (.list ds)) (hx : flatD x = true) (hf : ds.all flatD = true) : EvD G (tOp (rInA G.K) ta tb) Γ (.bool (inD x ds)) := ev_op ha hb (od_in hx hf (.inl rfl))
theorem ev_in_tup (ha : EvD G ta Γ x) (hb : EvD G tb Γ (.tuple ds)) (hx : flatD x = true) (hf : ds.all flatD = true) : EvD G (tOp (rInA G.K) ta tb) Γ (.bool (inD x ds)) := ev_op ha hb (od_in hx hf (.inr rfl))
theorem ev_notIn_list (ha : EvD G ta Γ x) (hb : EvD G tb Γ (.list ds)) (hx : flatD x = true) (hf : ds.all flatD = true) : EvD G (tOp (rNotInA G.K) ta tb) Γ (.bool (!inD x ds)) := ev_op ha hb (od_notIn hx hf (.inl rfl))
theorem ev_notIn_tup (ha : EvD G ta Γ x) (hb : EvD G tb Γ (.tuple ds)) (hx : flatD x = true) (hf : ds.all flatD = true) : EvD G (tOp (rNotInA G.K) ta tb) Γ (.bool (!inD x ds)) := ev_op ha hb (od_notIn hx hf (.inr rfl))
theorem ev_in_sign {c : Nat} (ha : EvD G ta Γ (.str ⟨#[c]⟩)) (hb : EvD G tb Γ (.str q)) : EvD G (tOp (rInA G.K) ta tb) Γ (.bool (decide (c ∈ q.cps.toList))) := ev_op ha hb fun B H v w e d1 d2 Q k => by
  cases d1; cases d2
  exact .inr ⟨c, q, rfl, rfl, k _ B H (Stp.refl e) (.bl _)⟩
theorem ev_notIn_sign {c : Nat} (ha : EvD G ta Γ (.str ⟨#[c]⟩)) (hb : EvD G tb Γ (.str q)) : EvD G (tOp (rNotInA G.K) ta tb) Γ (.bool (!decide (c ∈ q.cps.toList))) := ev_op ha hb fun B H v w e d1 d2 Q k => by
  cases d1; cases d2
  exact .inr ⟨c, q, rfl, rfl, k _ B H (Stp.refl e) (.bl _)⟩
/-! subscripts, slices -/
theorem dpa_at {K : PySem.W.Frag} {B : Hp} {ds : List PyData} {vs : List V} (h : DpAll K B vs ds) {i : Int} {d : PyData} (e : atI ds i = some d) : ∃ v, atI vs i = some v ∧ Dp K B v d := by
  unfold atI at e ⊢
  rw [dpa_len h]
  cases hx : ixN ds.length i with
  | none => rw [hx] at e; cases e
  | some n =>
    rw [hx] at e
    exact dpa_get h e
theorem ev_ix_list (ha : EvD G ta Γ (.list ds)) (hb : EvD G tb Γ (.int i)) (h : atI ds i = some d) : EvD G (tOp (rIx G.K) ta tb) Γ d := ev_op ha hb fun B H v w e d1 d2 Q k => by
  cases d2
  cases d1 with
  | lst h1 a1 =>
    obtain ⟨v, e1, e2⟩ := dpa_at a1 h
    exact .inl ⟨_, _, i, v, rfl, rfl, e.sl h1, e1, k v B H (Stp.refl e) e2⟩
theorem ev_ix_tup (ha : EvD G ta Γ (.tuple ds)) (hb : EvD G tb Γ (.int i)) (h : atI ds i = some d) : EvD G (tOp (rIx G.K) ta tb) Γ d := ev_op ha hb fun B H v w e d1 d2 Q k => by
  cases d2
  cases d1 with
  | tup h1 a1 =>
    obtain ⟨v, e1, e2⟩ := dpa_at a1 h
    exact .inr (.inl ⟨_, _, i, v, rfl, rfl, e.st h1, e1, k v B H (Stp.refl e) e2⟩)
theorem ev_ix_str {c : Nat} (ha : EvD G ta Γ (.str p)) (hb : EvD G tb Γ (.int i)) (hl : p.length ≤ 100000) (h : atI p.cps.toList i = some c) : EvD G (tOp (rIx G.K) ta tb) Γ (.str ⟨#[c]⟩) := ev_op ha hb fun B H v w e d1 d2 Q k => by
  cases d1; cases d2
  exact .inr (.inr ⟨p, i, c, rfl, rfl, Evl.sz_of hl, h, k _ B H (Stp.refl e) (.str _)⟩)
def rSlA (K : PySem.W.Frag) : V → Option Int → Option Int → Hp → VK → Prop := fun x lo hi H Q => rSlL K x lo hi H Q ∨ rSlT K x lo hi H Q ∨ rSlS x lo hi H Q
theorem sl_any {X : Cx} : SlR X (rSlA X.K) := sl_list.or (sl_tup.or sl_str)
def cutD (xs : List PyData) (lo hi : Option Int) : List PyData := (xs.drop (HT.sIx xs.length 0 lo)).take (HT.sIx xs.length xs.length hi - HT.sIx xs.length 0 lo)
theorem dpa_cut {K : PySem.W.Frag} {B : Hp} {ds : List PyData} {vs : List V} (h : DpAll K B vs ds) (lo hi : Option Int) : DpAll K B (cutV vs lo hi) (cutD ds lo hi) := by
  unfold cutV cutD
  rw [dpa_len h]
  exact dpa_take _ (dpa_drop _ h)
theorem ef_sl_list {tl th : TO} {lo hi : Option Int} (ha : EvD G ta Γ (.list ds)) (h1 : EvO G tl Γ lo) (h2 : EvO G th Γ hi) : EvF G (tSl (rSlA G.K) ta tl th) Γ (cutD ds lo hi) := fun B0 H0 B H σ E Q k =>
  ha B0 H0 B H σ E _ fun v B1 H1 s1 d1 => h1 B0 H0 B1 H1 σ (E.step s1) _ fun B2 H2 s2 => h2 B0 H0 B2 H2 σ (E.step (s1.trans s2)) _ fun B3 H3 s3 => by
    have d3 := (s2.trans s3).bb.dp d1
    cases d3 with
    | lst g1 a1 => exact .inl ⟨_, _, rfl, s3.bh.sl g1, fun p hp => k p _ B3 H3 ((s1.trans s2).trans s3) hp (dpa_cut a1 lo hi)⟩
theorem ev_sl_str {tl th : TO} {lo hi : Option Int} (ha : EvD G ta Γ (.str p)) (h1 : EvO G tl Γ lo) (h2 : EvO G th Γ hi) (hl : p.length ≤ 100000) : EvD G (tSl (rSlA G.K) ta tl th) Γ (.str (cutS p lo hi)) := fun B0 H0 B H σ E Q k =>
  ha B0 H0 B H σ E _ fun v B1 H1 s1 d1 => h1 B0 H0 B1 H1 σ (E.step s1) _ fun B2 H2 s2 => h2 B0 H0 B2 H2 σ (E.step (s1.trans s2)) _ fun B3 H3 s3 => by
    cases d1
    exact .inr (.inr ⟨p, rfl, Evl.sz_of hl, k _ B3 H3 ((s1.trans s2).trans s3) (.str _)⟩)
/-! len, int, str, list, tuple, max, min -/
theorem ca_len_list : CaD G (rLen G.K) [.list ds] (.int (ds.length : Int)) := fun B H vs e dv Q k => by
  cases dv with
  | cons h1 h2 =>
    cases h2
    cases h1 with
    | lst g a => exact ⟨_, _, rfl, .inl ⟨_, e.sl g, rfl⟩, by rw [dpa_len a]; exact k _ B H (Stp.refl e) (.int _)⟩
theorem ca_len_tup : CaD G (rLen G.K) [.tuple ds] (.int (ds.length : Int)) := fun B H vs e dv Q k => by
  cases dv with
  | cons h1 h2 =>
    cases h2
    cases h1 with
    | tup g a => exact ⟨_, _, rfl, .inr ⟨_, e.st g, rfl⟩, by rw [dpa_len a]; exact k _ B H (Stp.refl e) (.int _)⟩
theorem ca_len_str (hl : p.length ≤ 100000) : CaD G (rLen G.K) [.str p] (.int (p.length : Int)) := fun B H vs e dv Q k => by
  cases dv with
  | cons h1 h2 =>
    cases h2; cases h1
    exact ⟨_, p.length, rfl, ⟨Evl.sz_of hl, rfl⟩, k _ B H (Stp.refl e) (.int _)⟩
theorem ca_int_int : CaD G rIntA [.int i] (.int i) := fun B H vs e dv Q k => by
  cases dv with
  | cons h1 h2 => cases h2; cases h1; exact .inl (.inl ⟨i, rfl, k _ B H (Stp.refl e) (.int _)⟩)
theorem ca_int_bl : CaD G rIntA [.bool a] (.int (if a then 1 else 0)) := fun B H vs e dv Q k => by
  cases dv with
  | cons h1 h2 => cases h2; cases h1; exact .inl (.inr ⟨a, rfl, k _ B H (Stp.refl e) (.int _)⟩)
theorem ca_int_str {n : Int} (h : PySem.intText? p = some n) (hl : p.length ≤ 640) : CaD G rIntA [.str p] (.int n) := fun B H vs e dv Q k => by
  cases dv with
  | cons h1 h2 => cases h2; cases h1; exact .inr ⟨p, n, rfl, h, hl, k _ B H (Stp.refl e) (.int _)⟩
theorem ca_str_int (hl : i.natAbs.log2 < 1920) : CaD G rStrI [.int i] (.str (toString i)) := fun B H vs e dv Q k => by
  cases dv with
  | cons h1 h2 => cases h2; cases h1; exact ⟨i, rfl, hl, k _ B H (Stp.refl e) (.str _)⟩
theorem cf_list (hz : z = .list ds ∨ z = .tuple ds) : CaF G (rListOf G.K) [z] ds := fun B H vs e dv Q k => by
  cases dv with
  | cons h1 h2 =>
    cases h2
    rcases hz with rfl | rfl
    · cases h1 with
      | lst g a => exact ⟨_, _, rfl, .inl (e.sl g), fun l hl => k l _ B H (Stp.refl e) hl a⟩
    · cases h1 with
      | tup g a => exact ⟨_, _, rfl, .inr (e.st g), fun l hl => k l _ B H (Stp.refl e) hl a⟩
theorem ca_tup_list : CaD G (rTupOf G.K) [.list ds] (.tuple ds) := fun B H vs e dv Q k => by
  cases dv with
  | cons h1 h2 =>
    cases h2
    cases h1 with
    | lst g a => exact ⟨_, _, rfl, .inl ⟨e.sl g, fun l hl => k _ _ _ ((Stp.refl e).new hl) (.tup (SqT.of upd_same) ((Ex.new (e.back hl)).dpa a))⟩⟩
theorem ca_tup_tup : CaD G (rTupOf G.K) [.tuple ds] (.tuple ds) := fun B H vs e dv Q k => by
  cases dv with
  | cons h1 h2 =>
    cases h2
    cases h1 with
    | tup g a => exact ⟨_, _, rfl, .inr ⟨e.st g, k _ B H (Stp.refl e) (.tup g a)⟩⟩
theorem ca_max : CaD G rMax2 [.int i, .int j] (.int (if j > i then j else i)) := fun B H vs e dv Q k => by
  cases dv with
  | cons h1 h2 =>
    cases h2 with
    | cons h2 h3 => cases h3; cases h1; cases h2; exact ⟨i, j, rfl, k _ B H (Stp.refl e) (.int _)⟩
theorem ca_min : CaD G rMin2 [.int i, .int j] (.int (if j < i then j else i)) := fun B H vs e dv Q k => by
  cases dv with
  | cons h1 h2 =>
    cases h2 with
    | cons h2 h3 => cases h3; cases h1; cases h2; exact ⟨i, j, rfl, k _ B H (Stp.refl e) (.int _)⟩
/-! all, any of a list of bools -/
def boD : PyData → Bool
  | .bool b => b
  | _ => false
theorem dpa_bos {K : PySem.W.Frag} {B : Hp} : ∀ {ds : List PyData} {vs : List V}, DpAll K B vs ds → (∀ d ∈ ds, ∃ b, d = .bool b) → ∃ bs : List Bool, vs = bs.map V.bl ∧ bs = ds.map boD
  | [], _, h, _ => by cases h; exact ⟨[], rfl, rfl⟩
  | d :: ds, _, h, f => by
    cases h with
    | cons h1 h2 =>
      obtain ⟨bs, e1, e2⟩ := dpa_bos h2 fun d' hd => f d' (List.mem_cons_of_mem _ hd)
      obtain ⟨b, rfl⟩ := f d List.mem_cons_self
      cases h1
      exact ⟨b :: bs, by rw [e1]; rfl, by rw [e2]; rfl⟩
theorem ca_all (f : ∀ d ∈ ds, ∃ b, d = .bool b) : CaD G (rAll G.K) [.list ds] (.bool (ds.all boD)) := fun B H vs e dv Q k => by
  cases dv with
  | cons h1 h2 =>
    cases h2
    cases h1 with
    | lst g a =>
      obtain ⟨bs, e1, e2⟩ := dpa_bos a f
      subst e1
      refine ⟨_, bs, rfl, e.sl g, k _ B H (Stp.refl e) ?_⟩
      rw [e2, List.all_map]
      exact .bl _
theorem ca_any (f : ∀ d ∈ ds, ∃ b, d = .bool b) : CaD G (rAny G.K) [.list ds] (.bool (ds.any boD)) := fun B H vs e dv Q k => by
  cases dv with
  | cons h1 h2 =>
    cases h2
    cases h1 with
    | lst g a =>
      obtain ⟨bs, e1, e2⟩ := dpa_bos a f
      subst e1
      refine ⟨_, bs, rfl, e.sl g, k _ B H (Stp.refl e) ?_⟩
      rw [e2, List.any_map]
      exact .bl _
/-! isinstance -/
def tyD : PyData → String
  | .none => "NoneType" | .bool _ => "bool" | .int _ => "int" | .str _ => "str" | .list _ => "list" | .tuple _ => "tuple" | .dict _ => "dict"
def isiD (T : String) (d : PyData) : Bool := (kitB (tyD d) T).getD false
theorem dp_ty {K : PySem.W.Frag} {B H : Hp} {v : V} {d : PyData} (e : Ex B H) (h : Dp K B v d) : TyX K H v (.type (tyD d)) := by
  cases h with
  | non => exact .base .non
  | bl b => exact .base (.bl b)
  | int i => exact .base (.int i)
  | str x => exact .base (.str x)
  | lst g _ =>
    rcases e.sl g with (h | ⟨o, h⟩) | ⟨o, its, n, h1, h2, _⟩
    · exact .base (.lst h)
    · exact .base (.frz h)
    · exact .kList h1 h2
  | tup g _ =>
    rcases e.st g with (h | ⟨o, h⟩) | ⟨o, its, n, h1, h2, _⟩
    · exact .base (.tup h)
    · exact .fTuple h
    · exact .kTuple h1 h2
theorem ev_isi {T : String} (h : EvD G te Γ x) (ht : (kitB (tyD x) T).isSome = true) : EvD G (tCB (rIsi G.K) (tCons te (tCons (tC (.ty T)) tNil))) Γ (.bool (isiD T x)) := fun B0 H0 B H σ E Q k =>
  h B0 H0 B H σ E _ fun v B1 H1 s1 d1 => by
    refine ⟨v, .ty T, .type (tyD x), .type T, isiD T x, rfl, .ty T, dp_ty s1.bh d1, kit_ty ?_, k _ B1 H1 s1 (.bl _)⟩
    unfold isiD
    cases hk : kitB (tyD x) T with
    | none => rw [hk] at ht; cases ht
    | some b => rfl
def tyNames : List String := ["NoneType", "bool", "int", "str", "list", "tuple", "dict"]
theorem tyD_in (x : PyData) : tyD x ∈ tyNames := by cases x <;> simp [tyD, tyNames]
theorem ks_int : ∀ a ∈ tyNames, (kitB a "int").isSome = true := by decide +kernel
theorem kb_int (x : PyData) : (kitB (tyD x) "int").isSome = true := ks_int _ (tyD_in x)
theorem kg_int : ∀ a ∈ tyNames, (kitB a "int").getD false = (a == "int" || a == "bool") := by decide +kernel
theorem ks_bool : ∀ a ∈ tyNames, (kitB a "bool").isSome = true := by decide +kernel
theorem kb_bool (x : PyData) : (kitB (tyD x) "bool").isSome = true := ks_bool _ (tyD_in x)
theorem kg_bool : ∀ a ∈ tyNames, (kitB a "bool").getD false = (a == "bool") := by decide +kernel
theorem ks_str : ∀ a ∈ tyNames, (kitB a "str").isSome = true := by decide +kernel
theorem kb_str (x : PyData) : (kitB (tyD x) "str").isSome = true := ks_str _ (tyD_in x)
theorem kg_str : ∀ a ∈ tyNames, (kitB a "str").getD false = (a == "str") := by decide +kernel
theorem ks_list : ∀ a ∈ tyNames, (kitB a "list").isSome = true := by decide +kernel
theorem kb_list (x : PyData) : (kitB (tyD x) "list").isSome = true := ks_list _ (tyD_in x)
theorem kg_list : ∀ a ∈ tyNames, (kitB a "list").getD false = (a == "list") := by decide +kernel
theorem ks_tuple : ∀ a ∈ tyNames, (kitB a "tuple").isSome = true := by decide +kernel
theorem kb_tuple (x : PyData) : (kitB (tyD x) "tuple").isSome = true := ks_tuple _ (tyD_in x)
theorem kg_tuple : ∀ a ∈ tyNames, (kitB a "tuple").getD false = (a == "tuple") := by decide +kernel
def isInt : PyData → Bool
  | .int _ => true | .bool _ => true | _ => false
def isBool : PyData → Bool
  | .bool _ => true | _ => false
def isStr : PyData → Bool
  | .str _ => true | _ => false
def isList : PyData → Bool
  | .list _ => true | _ => false
def isTup : PyData → Bool
  | .tuple _ => true | _ => false
theorem isi_int (x : PyData) : isiD "int" x = isInt x := by
  show (kitB (tyD x) "int").getD false = _
  rw [kg_int _ (tyD_in x)]
  cases x <;> rfl
theorem isi_bool (x : PyData) : isiD "bool" x = isBool x := by
  show (kitB (tyD x) "bool").getD false = _
  rw [kg_bool _ (tyD_in x)]
  cases x <;> rfl
theorem isi_str (x : PyData) : isiD "str" x = isStr x := by
  show (kitB (tyD x) "str").getD false = _
  rw [kg_str _ (tyD_in x)]
  cases x <;> rfl
theorem isi_list (x : PyData) : isiD "list" x = isList x := by
  show (kitB (tyD x) "list").getD false = _
  rw [kg_list _ (tyD_in x)]
  cases x <;> rfl
theorem isi_tuple (x : PyData) : isiD "tuple" x = isTup x := by
  show (kitB (tyD x) "tuple").getD false = _
  rw [kg_tuple _ (tyD_in x)]
  cases x <;> rfl
theorem ev_isInt (h : EvD G te Γ x) : EvD G (tCB (rIsi G.K) (tCons te (tCons (tC (.ty "int")) tNil))) Γ (.bool (isInt x)) := isi_int x ▸ ev_isi h (kb_int x)
theorem ev_isBool (h : EvD G te Γ x) : EvD G (tCB (rIsi G.K) (tCons te (tCons (tC (.ty "bool")) tNil))) Γ (.bool (isBool x)) := isi_bool x ▸ ev_isi h (kb_bool x)
theorem ev_isStr (h : EvD G te Γ x) : EvD G (tCB (rIsi G.K) (tCons te (tCons (tC (.ty "str")) tNil))) Γ (.bool (isStr x)) := isi_str x ▸ ev_isi h (kb_str x)
theorem ev_isList (h : EvD G te Γ x) : EvD G (tCB (rIsi G.K) (tCons te (tCons (tC (.ty "list")) tNil))) Γ (.bool (isList x)) := isi_list x ▸ ev_isi h (kb_list x)
theorem ev_isTup (h : EvD G te Γ x) : EvD G (tCB (rIsi G.K) (tCons te (tCons (tC (.ty "tuple")) tNil))) Γ (.bool (isTup x)) := isi_tuple x ▸ ev_isi h (kb_tuple x)
end
end Pd

namespace Pd
open PySem L2
/-! ### walks -/
def WalksD (G : Gd) (J : It) (B1 : Hp) (xs : List PyData) : Prop :=
  ∀ (i : Nat) (B' H' : Hp), Ex B1 B' → Ex B' H' → G.Wd B' H' →
    (i < xs.length → J.go i H' ∧ ∀ x H'', J.yld i H' x H'' → ∃ B'' d, Stp B' H' B'' H'' ∧ xs[i]? = some d ∧ Dp G.K B'' x d) ∧ (xs.length ≤ i → J.stop i H')
section
variable (G : Gd)
def ItD (wi : TI) (Γ : List Ent) (xs : List PyData) : Prop :=
  ∀ (B0 H0 B H : Hp) (σ : L2.St), EnvB G B0 H0 B H σ Γ → ∀ R : It → Hp → Prop, (∀ J B1 H1, Stp B H B1 H1 → WalksD G J B1 xs → R J H1) → wi σ H R
def TgD (g : TG) (idx : List Nat) (Γ : List Ent) (d : PyData) (Γ' : List Ent) : Prop :=
  ∀ (B0 H0 B H : Hp) (σ : L2.St), EnvB G B0 H0 B H σ Γ → ∀ v, Dp G.K B v d → ∀ Q : L2.St → Hp → Prop,
    (∀ σ', EnvB G B0 H0 B H σ' Γ' → (∀ vs : List Nat, (∀ i ∈ idx, i ∈ vs) → wipe σ' vs = wipe σ vs) → Q σ' H) → g v σ H Q
end
section
variable {G : Gd} {Γ : List Ent} {ta tb tc te tl : TE} {x y z d : PyData} {i j : Int} {p q : Str} {ds es xs ys : List PyData}
theorem it_list (h : EvD G tl Γ (.list xs)) : ItD G (iList G.K tl) Γ xs := fun B0 H0 B H σ E R k =>
  h B0 H0 B H σ E _ fun v B1 H1 s1 d1 => by
    cases d1 with
    | @lst a ws _ g hv =>
      refine ⟨a, rfl, ⟨ws, s1.bh.sl g⟩, k _ B1 H1 s1 fun i B' H' e1 e2 _ => ⟨fun hi => ?_, fun hi => ⟨ws, e2.sl (e1.sl g), by rw [dpa_len hv]; exact hi⟩⟩⟩
      have hx : xs[i]? = some xs[i] := List.getElem?_eq_getElem hi
      obtain ⟨v, f1, f2⟩ := dpa_get hv hx
      refine ⟨⟨ws, v, e2.sl (e1.sl g), f1⟩, fun x H'' hy => ?_⟩
      obtain ⟨rfl, hy⟩ := hy
      have := hy ws (e2.sl (e1.sl g))
      rw [f1] at this; cases this
      exact ⟨B', _, Stp.refl e2, hx, e1.dp f2⟩
theorem it_tup (h : EvD G tl Γ (.tuple xs)) : ItD G (iTup G.K tl) Γ xs := fun B0 H0 B H σ E R k =>
  h B0 H0 B H σ E _ fun v B1 H1 s1 d1 => by
    cases d1 with
    | @tup a ws _ g hv =>
      refine ⟨a, rfl, ⟨ws, s1.bh.st g⟩, k _ B1 H1 s1 fun i B' H' e1 e2 _ => ⟨fun hi => ?_, fun hi => ⟨ws, e2.st (e1.st g), by rw [dpa_len hv]; exact hi⟩⟩⟩
      have hx : xs[i]? = some xs[i] := List.getElem?_eq_getElem hi
      obtain ⟨v, f1, f2⟩ := dpa_get hv hx
      refine ⟨⟨ws, v, e2.st (e1.st g), f1⟩, fun x H'' hy => ?_⟩
      obtain ⟨rfl, hy⟩ := hy
      have := hy ws (e2.st (e1.st g))
      rw [f1] at this; cases this
      exact ⟨B', _, Stp.refl e2, hx, e1.dp f2⟩
def signsD (p : Str) : List PyData := p.cps.toList.map fun c => .str ⟨#[c]⟩
theorem it_str (h : EvD G tl Γ (.str p)) : ItD G (iStr tl) Γ (signsD p) := fun B0 H0 B H σ E R k =>
  h B0 H0 B H σ E _ fun v B1 H1 s1 d1 => by
    cases d1
    have hl : (signsD p).length = p.cps.size := by unfold signsD; rw [List.length_map, Array.length_toList]
    refine ⟨p, rfl, k _ B1 H1 s1 fun i B' H' e1 e2 _ => ⟨fun hi => ⟨by rw [hl] at hi; exact hi, fun x H'' hy => ?_⟩, fun hi => by rw [hl] at hi; exact hi⟩⟩
    obtain ⟨rfl, c, hc, rfl⟩ := hy
    refine ⟨B', .str ⟨#[c]⟩, Stp.refl e2, ?_, .str _⟩
    unfold signsD
    rw [List.getElem?_map, Array.getElem?_toList, hc]; rfl
theorem it_any_list (h : EvD G tl Γ (.list xs)) : ItD G (iAny G.K tl) Γ xs := fun B0 H0 B H σ E R k => .inl (it_list h B0 H0 B H σ E R k)
theorem it_any_tup (h : EvD G tl Γ (.tuple xs)) : ItD G (iAny G.K tl) Γ xs := fun B0 H0 B H σ E R k => .inr (.inl (it_tup h B0 H0 B H σ E R k))
theorem it_any_str (h : EvD G tl Γ (.str p)) : ItD G (iAny G.K tl) Γ (signsD p) := fun B0 H0 B H σ E R k => .inr (.inr (it_str h B0 H0 B H σ E R k))
/-- lo, lo + 1, .. (n of them) -/
def rngD (lo : Int) (n : Nat) : List PyData := (List.range n).map fun (k : Nat) => .int (lo + (k : Int))
theorem rngD_len (lo : Int) (n : Nat) : (rngD lo n).length = n := by unfold rngD; rw [List.length_map, List.length_range]
theorem rngD_get {lo : Int} {n k : Nat} (h : k < n) : (rngD lo n)[k]? = some (.int (lo + (k : Int))) := by
  unfold rngD; rw [List.getElem?_map, List.getElem?_range h]; rfl
theorem walks_rng {G : Gd} {lo : Int} {n : Nat} {B1 : Hp} : WalksD G (Itr lo n) B1 (rngD lo n) := fun i B' H' e1 e2 _ => by
  rw [rngD_len]
  refine ⟨fun hi => ⟨hi, fun x H'' hy => ?_⟩, fun hi => hi⟩
  obtain ⟨rfl, rfl⟩ := hy
  exact ⟨B', _, Stp.refl e2, rngD_get hi, .int _⟩
theorem it_rng1 {ta : TA} {n : Int} (h : EvA G ta Γ [.int n]) (h1 : -(2 ^ 62) ≤ n) (h2 : n < 2 ^ 62) : ItD G (iRng1 ta) Γ (rngD 0 n.toNat) := fun B0 H0 B H σ E R k =>
  h B0 H0 B H σ E _ fun vs B1 H1 s1 d1 => by
    cases d1 with
    | cons a b => cases b; cases a; exact ⟨n, rfl, h1, h2, k _ B1 H1 s1 walks_rng⟩
theorem it_rng2 {ta : TA} {lo n : Int} (h : EvA G ta Γ [.int lo, .int n]) (h1 : -(2 ^ 62) ≤ lo) (h2 : lo < 2 ^ 62) (h3 : -(2 ^ 62) ≤ n) (h4 : n < 2 ^ 62) : ItD G (iRng2 ta) Γ (rngD lo (n - lo).toNat) := fun B0 H0 B H σ E R k =>
  h B0 H0 B H σ E _ fun vs B1 H1 s1 d1 => by
    cases d1 with
    | cons a b =>
      cases b with
      | cons b c => cases c; cases a; cases b; exact ⟨lo, n, rfl, ⟨h1, h2, h3, h4⟩, k _ B1 H1 s1 walks_rng⟩
/-- reversed(a list or a tuple) -/
theorem rev_get {α : Type} {l : List α} {k : Nat} (h : k < l.length) : l.reverse[k]? = l[l.length - 1 - k]? := List.getElem?_reverse h
theorem it_rev_list (h : EvD G tl Γ (.list xs)) : ItD G (RT.iRevA G.K tl) Γ xs.reverse := fun B0 H0 B H σ E R k =>
  h B0 H0 B H σ E _ fun v B1 H1 s1 d1 => by
    cases d1 with
    | @lst a ws _ g hv =>
      have hl := dpa_len hv
      refine ⟨a, ws, rfl, .inl ⟨s1.bh.sl g, k _ B1 H1 s1 fun i B' H' e1 e2 _ => ⟨fun hi => ?_, fun hi => by rw [List.length_reverse, ← hl] at hi; exact hi⟩⟩⟩
      rw [List.length_reverse] at hi
      have hx : xs[xs.length - 1 - i]? = some xs[xs.length - 1 - i] := List.getElem?_eq_getElem (by omega)
      obtain ⟨v, f1, f2⟩ := dpa_get hv hx
      rw [← hl] at f1
      refine ⟨⟨by omega, ws, v, e2.sl (e1.sl g), f1⟩, fun x H'' hy => ?_⟩
      obtain ⟨rfl, hy⟩ := hy
      have := hy ws (e2.sl (e1.sl g))
      rw [f1] at this; cases this
      exact ⟨B', _, Stp.refl e2, by rw [rev_get hi]; exact hx, e1.dp f2⟩
/-- targets -/
theorem wipe_get (σ : L2.St) : ∀ (vs : List Nat) (k : Nat), (wipe σ vs)[k]? = if k ∈ vs then (if k < σ.length then some none else none) else σ[k]?
  | [], k => by simp [wipe]
  | v :: vs, k => by
    unfold wipe
    by_cases e : v = k
    · subst e
      by_cases hk : v < (wipe σ vs).length
      · rw [List.getElem?_set_self hk, wipe_length] at *; simp [hk]
      · rw [List.getElem?_eq_none (by rw [List.length_set]; omega)]; rw [wipe_length] at hk; simp [hk]
    · rw [List.getElem?_set_ne e, wipe_get σ vs k]
      have : (k ∈ v :: vs) ↔ k ∈ vs := by simp [Ne.symm e]
      simp only [this]
theorem wipe_set {σ : L2.St} {i : Nat} {x : Option V} {vs : List Nat} (h : i ∈ vs) : wipe (σ.set i x) vs = wipe σ vs := by
  apply List.ext_getElem?
  intro k
  rw [wipe_get, wipe_get, List.length_set]
  by_cases hk : k ∈ vs
  · simp [hk]
  · simp only [hk, if_false]
    exact List.getElem?_set_ne (fun e => hk (by rw [← e]; exact h))
theorem tg_name {i : Nat} : TgD G (gName i) [i] Γ d (Γ.set i (.dat d)) := fun B0 H0 B H σ E v hv Q k => k _ (E.set_dat i hv) fun vs h => wipe_set (h i (by simp))
theorem tg_tup2 {i j : Nat} {d1 d2 : PyData} : TgD G (gTup G.K 2 (gCons (gName i) (gCons (gName j) gNil))) [i, j] Γ (.tuple [d1, d2]) ((Γ.set i (.dat d1)).set j (.dat d2)) := fun B0 H0 B H σ E v hv Q k => by
  cases hv with
  | @tup a ws _ g hv =>
    cases hv with
    | cons h1 h2 =>
      cases h2 with
      | cons h2 h3 =>
        cases h3
        exact ⟨a, _, rfl, E.stp.bh.st g, rfl, _, _, rfl, _, _, rfl, rfl, k _ ((E.set_dat i h1).set_dat j h2) fun vs h => by rw [wipe_set (h j (by simp)), wipe_set (h i (by simp))]⟩

/-! ### comprehensions: one clause -/
theorem wipe_wipe {σ : L2.St} {vs : List Nat} : wipe (wipe σ vs) vs = wipe σ vs := by
  apply List.ext_getElem?
  intro k
  rw [wipe_get, wipe_get, wipe_length]
  by_cases hk : k ∈ vs <;> simp [hk]
theorem ef_lc {α : Type} {wi : TI} {g : TG} {tt : TT} {vs : List Nat} {c : α → PyData} {ys : List α} (idx : List Nat) (Γx : α → List Ent) (f : α → Bool) (h : α → PyData) (hi : ItD G wi Γ (ys.map c)) (hz : ys.length ≤ 50000) (hv : ∀ i ∈ idx, i ∈ vs)
    (hg : ∀ y ∈ ys, TgD G g idx (wipeE Γ vs) (c y) (Γx y)) (ht : ∀ y ∈ ys, EvT G tt (Γx y) (f y)) (he : ∀ y ∈ ys, f y = true → EvD G te (Γx y) (h y)) :
    EvF G (tLc wi g tt te vs) Γ ((ys.filter f).map h) := fun B0 H0 B H σ E Q k =>
  hi B0 H0 B H σ E _ fun J B1 H1 s1 w => fun Dl hD => by
    have E1 := E.step s1
    unfold WalksD at w
    rw [List.length_map] at w
    refine ⟨fun i m H' => m = ys.length - i ∧ i ≤ ys.length ∧ ∃ B' ws, Stp B1 H1 B' H' ∧ B' Dl = none ∧ H' Dl = some (.lst ws) ∧ DpAll G.K B' ws (((ys.take i).filter f).map h),
      ⟨ys.length, by simp, Nat.zero_le _, B1, [], (Stp.refl s1.bh).own hD, s1.bh.back hD, upd_same, by simp; exact .nil⟩, ?_⟩
    rintro i m H' ⟨rfl, hle, B', ws, s2, nB, hH, hd⟩
    obtain ⟨w1, w2⟩ := w i B' H' s2.bb s2.bh (E1.step s2).wd
    by_cases hlt : i < ys.length
    · obtain ⟨go, yl⟩ := w1 hlt
      refine .inr ⟨go, fun H3 => ∃ B3 ws3, Stp B1 H1 B3 H3 ∧ B3 Dl = none ∧ H3 Dl = some (.lst ws3) ∧ DpAll G.K B3 ws3 (((ys.take (i + 1)).filter f).map h), fun H3 ⟨B3, ws3, a1, a2, a3, a4⟩ => ⟨ys.length - (i + 1), by omega, rfl, hlt, B3, ws3, a1, a2, a3, a4⟩, fun x H'' hy => ?_⟩
      obtain ⟨B'', d, s3, hx, hdx⟩ := yl x H'' hy
      have hy' : ys[i]? = some ys[i] := List.getElem?_eq_getElem hlt
      generalize ys[i] = y at hy'
      have hdy : d = c y := by rw [List.getElem?_map, hy'] at hx; exact (Option.some.inj hx).symm
      subst hdy
      have hmem : y ∈ ys := List.mem_of_getElem? hy'
      have hD'' : H'' Dl = some (.lst ws) := s3.hh Dl _ hH
      have nB'' : B'' Dl = none := s3.hid Dl _ hH nB
      have s23 := s2.trans s3
      have E3 := (E1.step s23).wipe vs
      refine hg y hmem B0 H0 B'' H'' _ E3 x hdx _ fun σ2 E4 hw => ⟨by rw [hw vs hv, wipe_wipe], ?_⟩
      refine ht y hmem B0 H0 B'' H'' σ2 E4 _ fun B4 H4 s4 => ?_
      have htake : (ys.take (i + 1)) = ys.take i ++ [y] := by rw [List.take_add_one, hy']; rfl
      cases hf : f y with
      | false =>
        show ∃ B3 ws3, _
        refine ⟨B4, ws, s23.trans s4, s4.hid Dl _ hD'' nB'', s4.hh Dl _ hD'', ?_⟩
        rw [htake, List.filter_append, List.filter_cons, if_neg (by rw [hf]; decide), List.filter_nil, List.append_nil]
        exact (s3.trans s4).bb.dpa hd
      | true =>
        show te σ2 H4 _
        refine he y hmem hf B0 H0 B4 H4 σ2 (E4.step s4) _ fun z B5 H5 s5 d5 => ?_
        have s45 := s4.trans s5
        have hD5 : H5 Dl = some (.lst ws) := s45.hh Dl _ hD''
        have nB5 : B5 Dl = none := s45.hid Dl _ hD'' nB''
        have hl : ws.length ≤ i := by
          rw [dpa_len hd, List.length_map]
          refine Nat.le_trans (List.length_filter_le _ _) ?_
          rw [List.length_take]; omega
        refine ⟨ws, hD5, Evl.sz_lt (by omega), B5, ws ++ [z], ?_, nB5, upd_same, ?_⟩
        · have st := s23.trans s45
          refine ⟨st.bb, st.bh.mut nB5, fun a o ha => ?_, st.hid⟩
          rw [upd_ne (ne_of_none ha hD)]; exact st.hh a o ha
        · rw [htake, List.filter_append, List.filter_cons, if_pos hf, List.filter_nil, List.map_append]
          exact dpa_app ((s3.trans s45).bb.dpa hd) (.cons d5 .nil)
    · have e : i = ys.length := by omega
      subst e
      refine .inl ⟨w2 (Nat.le_refl _), ?_⟩
      rw [List.take_length] at hd
      have hb : Stp B H B' (fun a => if a = Dl then none else H' a) := by
        refine ⟨s1.bb.trans s2.bb, fun a o ha => ?_, fun a o ha => ?_, fun a o ha z => ?_⟩
        · rw [if_neg (ne_of_none ha nB)]; exact s2.bh a o ha
        · have h1 := s1.hh a o ha
          rw [if_neg (ne_of_none h1 hD)]; exact s2.hh a o h1
        · exact s2.hid a o (s1.hh a o ha) (s1.hid a o ha z)
      have := k Dl ws B' (fun a => if a = Dl then none else H' a) hb (if_pos rfl) hd
      have e : upd (fun a => if a = Dl then none else H' a) Dl (.lst ws) = H' := by
        funext a
        unfold upd
        by_cases ha : a = Dl
        · rw [if_pos ha, ha, hH]
        · rw [if_neg ha]
          show (if a = Dl then none else H' a) = H' a
          rw [if_neg ha]
      rw [e] at this
      exact this
theorem ef_lcn {α : Type} {wi : TI} {tt : TT} {vs : List Nat} {j : Nat} {c : α → PyData} {zs : List α} {f : α → Bool} {h : α → PyData} (hi : ItD G wi Γ (zs.map c)) (hz : zs.length ≤ 50000) (hv : j ∈ vs)
    (ht : ∀ y ∈ zs, EvT G tt ((wipeE Γ vs).set j (.dat (c y))) (f y)) (he : ∀ y ∈ zs, f y = true → EvD G te ((wipeE Γ vs).set j (.dat (c y))) (h y)) :
    EvF G (tLc wi (gName j) tt te vs) Γ ((zs.filter f).map h) := ef_lc [j] _ f h hi hz (by simpa using hv) (fun y _ => tg_name) ht he
/-- without a test -/
theorem ef_lcm {α : Type} {wi : TI} {vs : List Nat} {j : Nat} {c : α → PyData} {zs : List α} {h : α → PyData} (hi : ItD G wi Γ (zs.map c)) (hz : zs.length ≤ 50000) (hv : j ∈ vs)
    (he : ∀ y ∈ zs, EvD G te ((wipeE Γ vs).set j (.dat (c y))) (h y)) : EvF G (tLc wi (gName j) tYes te vs) Γ (zs.map h) := by
  have := ef_lcn (tt := tYes) (f := fun _ => true) hi hz hv (fun y _ => et_yes) (fun y hy _ => he y hy)
  rw [List.filter_eq_self.mpr (fun _ _ => rfl)] at this
  exact this
end

/-! ### statements -/
structure Post where
  nx : List Ent → Prop
  bk : List Ent → Prop := fun _ => False
  ct : List Ent → Prop := fun _ => False
  rt : PyData → Prop
  er : Addr → List Ent → Prop := fun _ _ => False
structure Mt (G : Gd) (W : WX) (B0 H0 B : Hp) (D : Ends) (P : Post) : Prop where
  nx : ∀ Γ2 B2 H2 σ2, P.nx Γ2 → Ex B B2 → EnvB G B0 H0 B2 H2 σ2 Γ2 → D.nx σ2 H2
  bk : ∀ Γ2 B2 H2 σ2, P.bk Γ2 → Ex B B2 → EnvB G B0 H0 B2 H2 σ2 Γ2 → D.bk σ2 H2
  ct : ∀ Γ2 B2 H2 σ2, P.ct Γ2 → Ex B B2 → EnvB G B0 H0 B2 H2 σ2 Γ2 → D.ct σ2 H2
  rt : ∀ d v B2 H2, P.rt d → Stp B0 H0 B2 H2 → Ex B B2 → Dp G.K B2 v d → D.rt v H2
  er : ∀ c Γ2 B2 H2 σ2, P.er c Γ2 → Ex B B2 → EnvB G B0 H0 B2 H2 σ2 Γ2 → W (.ref c) none σ2 H2
def WpD (G : Gd) (W : WX) (ts : TS) (Γ : List Ent) (P : Post) : Prop :=
  ∀ (B0 H0 B H : Hp) (σ : L2.St) (D : Ends), EnvB G B0 H0 B H σ Γ → Mt G W B0 H0 B D P → ts D σ H
section
variable {G : Gd} {W : WX} {B0 H0 B B1 : Hp} {D : Ends} {P P' : Post}
theorem Mt.up (M : Mt G W B0 H0 B D P) (e : Ex B B1) : Mt G W B0 H0 B1 D P :=
  ⟨fun _ _ _ _ a b => M.nx _ _ _ _ a (e.trans b), fun _ _ _ _ a b => M.bk _ _ _ _ a (e.trans b), fun _ _ _ _ a b => M.ct _ _ _ _ a (e.trans b), fun _ _ _ _ a s b => M.rt _ _ _ _ a s (e.trans b), fun _ _ _ _ _ a b => M.er _ _ _ _ _ a (e.trans b)⟩
end
section
variable {G : Gd} {W : WX} {Γ : List Ent} {ta tb tc te tl : TE} {tt : TT} {ts tu tw tz : TS} {d x y : PyData} {i j : Int} {ds es xs : List PyData} {P : Post} {a b : Bool}
theorem WpD.mono {P' : Post} (h : WpD G W ts Γ P) (h1 : ∀ Γ', P.nx Γ' → P'.nx Γ') (h2 : ∀ Γ', P.bk Γ' → P'.bk Γ') (h3 : ∀ Γ', P.ct Γ' → P'.ct Γ') (h4 : ∀ d, P.rt d → P'.rt d) (h5 : ∀ c Γ', P.er c Γ' → P'.er c Γ') : WpD G W ts Γ P' := fun B0 H0 B H σ D E M =>
  h B0 H0 B H σ D E ⟨fun _ _ _ _ a => M.nx _ _ _ _ (h1 _ a), fun _ _ _ _ a => M.bk _ _ _ _ (h2 _ a), fun _ _ _ _ a => M.ct _ _ _ _ (h3 _ a), fun _ _ _ _ a => M.rt _ _ _ _ (h4 _ a), fun _ _ _ _ _ a => M.er _ _ _ _ _ (h5 _ _ a)⟩
/-- a word between -/
theorem wp_cut (N : List Ent → Prop) (h : WpD G W ts Γ { P with nx := N }) (k : ∀ Γ', N Γ' → P.nx Γ') : WpD G W ts Γ P := h.mono k (fun _ z => z) (fun _ z => z) (fun _ z => z) fun _ _ z => z
theorem wp_seq (h : WpD G W ts Γ { P with nx := fun Γ' => WpD G W tu Γ' P }) : WpD G W (tSeq ts tu) Γ P := fun B0 H0 B H σ D E M =>
  h B0 H0 B H σ { D with nx := tu D } E ⟨fun Γ2 B2 H2 σ2 a b E2 => a B0 H0 B2 H2 σ2 D E2 (M.up b), M.bk, M.ct, M.rt, M.er⟩
theorem wp_next (h : P.nx Γ) : WpD G W tNext Γ P := fun B0 H0 B H σ D E M => M.nx Γ B H σ h Ex.rfl' E
theorem wp_break (h : P.bk Γ) : WpD G W tBreak Γ P := fun B0 H0 B H σ D E M => M.bk Γ B H σ h Ex.rfl' E
theorem wp_cont (h : P.ct Γ) : WpD G W tCont Γ P := fun B0 H0 B H σ D E M => M.ct Γ B H σ h Ex.rfl' E
theorem wp_never (h : False) : WpD G W ts Γ P := h.elim
theorem wp_asg {i : Nat} (h : EvD G te Γ d) (k : P.nx (Γ.set i (.dat d))) : WpD G W (tAsg te (gName i)) Γ P := fun B0 H0 B H σ D E M =>
  h B0 H0 B H σ E _ fun v B1 H1 s1 d1 => M.nx _ _ _ _ k s1.bb ((E.step s1).set_dat i d1)
theorem wp_asg_own {i : Nat} (h : EvF G te Γ ds) (k : P.nx (Γ.set i (.own ds))) : WpD G W (tAsg te (gName i)) Γ P := fun B0 H0 B H σ D E M =>
  h B0 H0 B H σ E _ fun p vs B1 H1 s1 hp d1 => M.nx _ _ _ _ k s1.bb ((E.step s1).set_own i hp d1)
theorem wp_ret (h : EvD G te Γ d) (k : P.rt d) : WpD G W (tRet te) Γ P := fun B0 H0 B H σ D E M =>
  h B0 H0 B H σ E _ fun v B1 H1 s1 d1 => M.rt d v B1 H1 k (E.stp.trans s1) s1.bb d1
theorem wp_retN (k : P.rt .none) : WpD G W tRetN Γ P := fun B0 H0 B H σ D E M => M.rt .none .non B H k E.stp Ex.rfl' .non
theorem wp_drop (h : EvD G te Γ d) (k : P.nx Γ) : WpD G W (tDrop te) Γ P := fun B0 H0 B H σ D E M =>
  h B0 H0 B H σ E _ fun v B1 H1 s1 d1 => M.nx _ _ _ _ k s1.bb (E.step s1)
theorem wp_if (h : EvT G tt Γ b) (h1 : b = true → WpD G W tu Γ P) (h2 : b = false → WpD G W tw Γ P) : WpD G W (tIfS tt tu tw) Γ P := fun B0 H0 B H σ D E M =>
  h B0 H0 B H σ E _ fun B1 H1 s1 => by
    cases b with
    | true => exact h1 rfl B0 H0 B1 H1 σ D (E.step s1) (M.up s1.bb)
    | false => exact h2 rfl B0 H0 B1 H1 σ D (E.step s1) (M.up s1.bb)
theorem wp_aug {i : Nat} {f : Int → Int → Int} {m n : Int} (hx : Γ[i]? = some (.dat (.int m))) (h : EvD G te Γ (.int n)) (k : P.nx (Γ.set i (.dat (.int (f m n))))) : WpD G W (tAug i te (ipI f)) Γ P := fun B0 H0 B H σ D E M => by
  obtain ⟨v, e1, e2⟩ := E.dat hx
  refine ⟨v, e1, h B0 H0 B H σ E _ fun w B1 H1 s1 d1 => ?_⟩
  cases e2; cases d1
  exact ⟨m, n, rfl, rfl, M.nx _ _ _ _ k s1.bb ((E.step s1).set_dat i (.int _))⟩
theorem wp_freeze {i : Nat} (hi : Γ[i]? = some (.own ds)) (k : WpD G W ts (Γ.set i (.dat (.list ds))) P) : WpD G W ts Γ P := fun B0 H0 B H σ D E M => by
  obtain ⟨B1, e, E1⟩ := E.freeze hi
  exact k B0 H0 B1 H σ D E1 (M.up e)
theorem nx_freeze {i : Nat} {N : List Ent → Prop} (h : N = fun Γ' => WpD G W ts Γ' P) (hi : Γ[i]? = some (.own ds)) (k : N (Γ.set i (.dat (.list ds)))) : N Γ := by
  subst h; exact wp_freeze hi k
/-- xs.append(e), the list of a slot -/
theorem wp_app {i : Nat} (hi : Γ[i]? = some (.own ds)) (h : EvD G te Γ d) (hz : ds.length < 100000) (k : P.nx (Γ.set i (.own (ds ++ [d])))) : WpD G W (tDrop (tBM G.K "list" rAppend (tVar i) (tCons te tNil))) Γ P := fun B0 H0 B H σ D E M => by
  obtain ⟨p, vs, e1, e2, e3, e4, e5⟩ := E.own hi
  refine ⟨.ref p, e1, .inl ⟨rfl, vs, SqL.of e4⟩, h B0 H0 B H σ E _ fun v B1 H1 s1 d1 => ?_⟩
  have E1 := E.step s1
  refine ⟨p, vs, v, rfl, rfl, s1.hh p _ e4, Evl.sz_lt (by rw [dpa_len e5]; exact hz), ?_⟩
  exact M.nx _ _ _ _ k s1.bb (E1.mut_own hi e1 (dpa_app (s1.bb.dpa e5) (.cons d1 .nil)))
/-- xs[n] = e, the list of a slot -/
theorem ixN_ok {n : Nat} {k : Int} {j : Nat} (h : ixN n k = some j) : j < n := by
  obtain ⟨_, h2, _⟩ := ixN_seq h; exact h2
theorem wp_setL {i : Nat} {k : Int} {j : Nat} (hi : Γ[i]? = some (.own ds)) (h : EvD G te Γ d) (hk : EvD G tb Γ (.int k)) (hj : ixN ds.length k = some j) (q : P.nx (Γ.set i (.own (ds.set j d)))) : WpD G W (tAsg te (gSub (tVar i) tb rSetL)) Γ P := fun B0 H0 B H σ D E M =>
  h B0 H0 B H σ E _ fun v B1 H1 s1 d1 => by
    have E1 := E.step s1
    obtain ⟨p, vs, e1, e2, e3, e4, e5⟩ := E1.own hi
    refine ⟨.ref p, e1, hk B0 H0 B1 H1 σ E1 _ fun w B2 H2 s2 d2 => ?_⟩
    cases d2
    refine ⟨p, vs, k, j, rfl, rfl, s2.hh p _ e4, by rw [dpa_len e5]; exact hj, ?_⟩
    exact M.nx _ _ _ _ q (s1.bb.trans s2.bb) ((E1.step s2).mut_own hi e1 (dpa_set j (s2.bb.dpa e5) (s2.bb.dp d1)))
theorem wp_raise {C : Addr} (k : P.er C Γ) : WpD G W (fun _ σ H => W (.ref C) none σ H) Γ P := fun B0 H0 B H σ D E M => M.er C Γ B H σ k Ex.rfl' E
/-- loops by a word of the turn -/
theorem wp_for {wi : TI} {g : TG} {tb : TS} {idx : List Nat} (I : Nat → List Ent → Prop) (hi : ItD G wi Γ xs) (h0 : I 0 Γ)
    (hs : ∀ i x Γ', xs[i]? = some x → I i Γ' → ∃ Γ'', TgD G g idx Γ' x Γ'' ∧ WpD G W tb Γ'' { P with nx := I (i + 1), ct := I (i + 1), bk := P.nx }) (hd : ∀ Γ', I xs.length Γ' → P.nx Γ') : WpD G W (tFor wi g tb) Γ P := fun B0 H0 B H σ D E M =>
  hi B0 H0 B H σ E _ fun J B1 H1 s1 w => by
    refine ⟨fun i m σ' H' => m = xs.length - i ∧ i ≤ xs.length ∧ ∃ Γ' B', I i Γ' ∧ Ex B1 B' ∧ EnvB G B0 H0 B' H' σ' Γ', ⟨xs.length, by simp, Nat.zero_le _, Γ, B1, h0, Ex.rfl', E.step s1⟩, ?_⟩
    rintro i m σ' H' ⟨rfl, hle, Γ', B', hI, e1, E'⟩
    obtain ⟨w1, w2⟩ := w i B' H' e1 E'.stp.bh E'.wd
    by_cases hlt : i < xs.length
    · obtain ⟨go, yl⟩ := w1 hlt
      refine .inr ⟨go, fun σ3 H3 => ∃ Γ3 B3, I (i + 1) Γ3 ∧ Ex B1 B3 ∧ EnvB G B0 H0 B3 H3 σ3 Γ3, fun σ3 H3 ⟨Γ3, B3, a1, a2, a3⟩ => ⟨xs.length - (i + 1), by omega, rfl, hlt, Γ3, B3, a1, a2, a3⟩, fun x H'' hy => ?_⟩
      obtain ⟨B'', d, s3, hx, hdx⟩ := yl x H'' hy
      obtain ⟨Γ'', hT, hW⟩ := hs i d Γ' hx hI
      refine hT B0 H0 B'' H'' σ' (E'.step s3) x hdx _ fun σ2 E2 _ => ?_
      refine hW B0 H0 B'' H'' σ2 _ E2 ⟨fun Γ3 B3 H3 σ3 a1 a2 a3 => ⟨Γ3, B3, a1, (e1.trans s3.bb).trans a2, a3⟩, fun Γ3 B3 H3 σ3 a1 a2 a3 => M.nx _ _ _ _ a1 (((s1.bb.trans e1).trans s3.bb).trans a2) a3,
        fun Γ3 B3 H3 σ3 a1 a2 a3 => ⟨Γ3, B3, a1, (e1.trans s3.bb).trans a2, a3⟩, fun d v B3 H3 a1 a2 a3 => M.rt _ _ _ _ a1 a2 (((s1.bb.trans e1).trans s3.bb).trans a3), fun c Γ3 B3 H3 σ3 a1 a2 a3 => M.er _ _ _ _ _ a1 (((s1.bb.trans e1).trans s3.bb).trans a2) a3⟩
    · have e : i = xs.length := by omega
      subst e
      exact .inl ⟨w2 (Nat.le_refl _), M.nx _ _ _ _ (hd _ hI) (s1.bb.trans e1) E'⟩
/-- .. where the target is a name -/
theorem wp_forn {wi : TI} {j : Nat} {tb : TS} (I : Nat → List Ent → Prop) (hi : ItD G wi Γ xs) (h0 : I 0 Γ)
    (hs : ∀ i x Γ', xs[i]? = some x → I i Γ' → WpD G W tb (Γ'.set j (.dat x)) { P with nx := I (i + 1), ct := I (i + 1), bk := P.nx }) (hd : ∀ Γ', I xs.length Γ' → P.nx Γ') : WpD G W (tFor wi (gName j) tb) Γ P :=
  wp_for I hi h0 (fun i x Γ' hx hI => ⟨_, tg_name, hs i x Γ' hx hI⟩) hd
theorem wp_while {tb : TS} (I : Nat → List Ent → Prop) (m : Nat) (h0 : I m Γ)
    (hs : ∀ m Γ', I m Γ' → ∃ b, EvT G tt Γ' b ∧ (b = true → WpD G W tb Γ' { P with nx := fun Γ2 => ∃ m', m' < m ∧ I m' Γ2, ct := fun Γ2 => ∃ m', m' < m ∧ I m' Γ2, bk := P.nx }) ∧ (b = false → P.nx Γ')) : WpD G W (tWhile tt tb) Γ P := fun B0 H0 B H σ D E M => by
  refine ⟨fun m σ' H' => ∃ Γ' B', I m Γ' ∧ Ex B B' ∧ EnvB G B0 H0 B' H' σ' Γ', ⟨m, Γ, B, h0, Ex.rfl', E⟩, ?_⟩
  rintro m σ' H' ⟨Γ', B', hI, e1, E'⟩
  obtain ⟨b, hb, h1, h2⟩ := hs m Γ' hI
  refine hb B0 H0 B' H' σ' E' _ fun B2 H2 s2 => ?_
  have e2 := e1.trans s2.bb
  cases b with
  | true =>
    refine ⟨fun σ3 H3 => ∃ m', m' < m ∧ ∃ Γ3 B3, I m' Γ3 ∧ Ex B B3 ∧ EnvB G B0 H0 B3 H3 σ3 Γ3, fun σ3 H3 h => h, ?_⟩
    refine h1 rfl B0 H0 B2 H2 σ' _ (E'.step s2) ⟨fun Γ3 B3 H3 σ3 ⟨m', a0, a1⟩ a2 a3 => ⟨m', a0, Γ3, B3, a1, e2.trans a2, a3⟩, fun Γ3 B3 H3 σ3 a1 a2 a3 => M.nx _ _ _ _ a1 (e2.trans a2) a3, fun Γ3 B3 H3 σ3 ⟨m', a0, a1⟩ a2 a3 => ⟨m', a0, Γ3, B3, a1, e2.trans a2, a3⟩,
      fun d v B3 H3 a1 a2 a3 => M.rt _ _ _ _ a1 a2 (e2.trans a3), fun c Γ3 B3 H3 σ3 a1 a2 a3 => M.er _ _ _ _ _ a1 (e2.trans a2) a3⟩
  | false => exact M.nx _ _ _ _ (h2 rfl) e2 (E'.step s2)
end

/-! ### defs -/
inductive Res where
  | ok (d : PyData) | err (c : Addr)
/-- a def over data that raises nothing: R arguments result -/
def spV (K : PySem.W.Frag) (R : List PyData → PyData → Prop) : Sp := fun vs H Q _ => ∃ B ds d, Ex B H ∧ DpAll K B vs ds ∧ R ds d ∧ ∀ v B2 H2, Stp B H B2 H2 → Dp K B2 v d → Q v H2
/-- .. that may raise -/
def spR (K : PySem.W.Frag) (R : List PyData → Res → Prop) : Sp := fun vs H Q E => ∃ B ds r, Ex B H ∧ DpAll K B vs ds ∧ R ds r ∧ (∀ d v B2 H2, r = .ok d → Stp B H B2 H2 → Dp K B2 v d → Q v H2) ∧ ∀ c B2 H2, r = .err c → Stp B H B2 H2 → E (.ref c) none H2
/-- the slots at the entry -/
def entry (N : List Str) (ds : List PyData) : List Ent := ds.map .dat ++ List.replicate (N.length - ds.length) .no
theorem entry_env {K : PySem.W.Frag} {B H : Hp} {N : List Str} {vs : List V} {ds : List PyData} (e : Ex B H) (h : DpAll K B vs ds) : EnvB (.pure K) B H B H (L2.start N vs) (entry N ds) := by
  have hl := dpa_len h
  refine ⟨Stp.refl e, ⟨fun c hc => (nomatch hc), trivial⟩, by simp [L2.start, entry, hl], fun i x en h1 h2 => ?_, fun i j p ds' es hij h1 h2 => ?_, fun i p ds' h1 h2 z => (nomatch z)⟩
  · unfold L2.start at h1
    unfold entry at h2
    by_cases hi : i < ds.length
    · rw [List.getElem?_append_left (by simpa using hi), List.getElem?_map, List.getElem?_eq_getElem hi] at h2
      rw [List.getElem?_append_left (by simpa [hl] using hi), List.getElem?_map] at h1
      cases h2
      obtain ⟨v, e1, e2⟩ := dpa_get h (List.getElem?_eq_getElem hi)
      rw [e1] at h1; cases h1
      exact ⟨v, rfl, e2⟩
    · rw [List.getElem?_append_right (by simpa using hi), List.getElem?_replicate] at h2
      split at h2
      · cases h2; trivial
      · cases h2
  · exfalso
    unfold entry at h1
    by_cases hi : i < ds.length
    · rw [List.getElem?_append_left (by simpa using hi), List.getElem?_map, List.getElem?_eq_getElem hi] at h1
      cases h1
    · rw [List.getElem?_append_right (by simpa using hi), List.getElem?_replicate] at h1
      split at h1 <;> cases h1
abbrev WNo : WX := fun _ _ _ _ => False
abbrev WOf (E : XK) : WX := fun c d _ H => E c d H
section
variable {P : Program} {w : World} {K : PySem.W.Frag} {mg : Str → Option Value} {base : Heap}
theorem fn_ok {x qual : Str} {st : Stmt} {f : Addr} {fd : FuncData} {N ps : List Str} {k : Nat} {R : List PyData → PyData → Prop} (F : Fun K x qual st f fd) (S : FnScope N ps (defScope st)) (len : ∀ ds d, R ds d → ds.length = ps.length)
    (hb : ∀ (cdv : Value) (A : Around) (outer : List Env) (s : Shared) (H : Hp) (E : XK), Room k (A.deeper (PyProof.Rows.envOfC qual (defScope st) s.heap.objs.size f cdv)) →
      ∃ t, PSs (cxOf CX0 P w K mg base N qual (defScope st) f cdv A outer s H E).nox (defBody st) t ∧ ∀ ds d, R ds d → WpD (.pure K) WNo t (entry N ds) { nx := fun _ => d = .none, rt := fun d' => d' = d }) : FnOk P w K mg base CX0 (k + 1) f fd ps (spV K R) := by
  refine F.ok S (fun vs H Q E h => ?_) (fun cdv A outer s H vs Q E hr h => ?_)
  · obtain ⟨B, ds, d, e, hd, hR, _⟩ := h
    rw [dpa_len hd]; exact len ds d hR
  · obtain ⟨B, ds, d, e, hd, hR, q⟩ := h
    obtain ⟨t, ht, hw⟩ := hb cdv A outer s H E hr
    refine ⟨t, ht, hw ds d hR B H B H _ _ (entry_env e hd) ⟨fun Γ2 B2 H2 σ2 a b c => ?_, fun _ _ _ _ a => a.elim, fun _ _ _ _ a => a.elim, fun d' v B2 H2 a s2 _ d2 => ?_, fun _ _ _ _ _ a => a.elim⟩⟩
    · exact q .non B2 H2 c.stp (by rw [a]; exact .non)
    · exact q v B2 H2 s2 (by rw [← a]; exact d2)
theorem fn_okX {x qual : Str} {st : Stmt} {f : Addr} {fd : FuncData} {N ps : List Str} {k : Nat} {R : List PyData → Res → Prop} (F : Fun K x qual st f fd) (S : FnScope N ps (defScope st)) (len : ∀ ds r, R ds r → ds.length = ps.length)
    (hb : ∀ (cdv : Value) (A : Around) (outer : List Env) (s : Shared) (H : Hp) (E : XK), Room k (A.deeper (PyProof.Rows.envOfC qual (defScope st) s.heap.objs.size f cdv)) →
      ∃ t, PSs (cxOf (L2.CX P w) P w K mg base N qual (defScope st) f cdv A outer s H E) (defBody st) t ∧ ∀ ds r, R ds r → WpD (.pure K) (WOf E) t (entry N ds) { nx := fun _ => r = .ok .none, rt := fun d' => r = .ok d', er := fun c _ => r = .err c }) : FnOk P w K mg base (L2.CX P w) (k + 1) f fd ps (spR K R) := by
  refine F.okX S (fun vs H Q E h => ?_) (fun cdv A outer s H vs Q E hr h => ?_)
  · obtain ⟨B, ds, d, e, hd, hR, _⟩ := h
    rw [dpa_len hd]; exact len ds d hR
  · obtain ⟨B, ds, r, e, hd, hR, q1, q2⟩ := h
    obtain ⟨t, ht, hw⟩ := hb cdv A outer s H E hr
    refine ⟨t, ht, hw ds r hR B H B H _ _ (entry_env e hd) ⟨fun Γ2 B2 H2 σ2 a b c => ?_, fun _ _ _ _ a => a.elim, fun _ _ _ _ a => a.elim, fun d' v B2 H2 a s2 _ d2 => ?_, fun c Γ2 B2 H2 σ2 a b c' => ?_⟩⟩
    · exact q1 .none .non B2 H2 a c.stp .non
    · exact q1 d' v B2 H2 a s2 d2
    · exact q2 c B2 H2 a c'.stp
end
section
variable {G : Gd} {W : WX} {Γ : List Ent} {te : TE} {ta : TA} {d : PyData} {ds : List PyData} {P : Post} {E : XK}
/-- calls of such defs -/
theorem ev_call {R : List PyData → PyData → Prop} (h : EvA G ta Γ ds) (hR : R ds d) : EvD G (tCall (spV G.K R) [] E ta) Γ d := fun B0 H0 B H σ En Q k =>
  h B0 H0 B H σ En _ fun vs B1 H1 s1 d1 => ⟨B1, ds, d, s1.bh, by rw [List.append_nil]; exact d1, hR, fun v B2 H2 s2 d2 => k v B2 H2 (s1.trans s2) d2⟩
theorem ev_callOk {R : List PyData → Res → Prop} (h : EvA G ta Γ ds) (hR : R ds (.ok d)) : EvD G (tCall (spR G.K R) [] E ta) Γ d := fun B0 H0 B H σ En Q k =>
  h B0 H0 B H σ En _ fun vs B1 H1 s1 d1 => ⟨B1, ds, _, s1.bh, by rw [List.append_nil]; exact d1, hR, fun d' v B2 H2 e s2 d2 => by cases e; exact k v B2 H2 (s1.trans s2) d2, fun c B2 H2 e => by cases e⟩
/-- what may raise -/
def EvR (G : Gd) (W : WX) (te : TE) (Γ : List Ent) (r : Res) : Prop :=
  ∀ (B0 H0 B H : Hp) (σ : L2.St), EnvB G B0 H0 B H σ Γ → ∀ Q : VK, (∀ d v B2 H2, r = .ok d → Stp B H B2 H2 → Dp G.K B2 v d → Q v H2) → (∀ c B2 H2, r = .err c → Stp B H B2 H2 → W (.ref c) none σ H2) → te σ H Q
theorem er_call {R : List PyData → Res → Prop} {r : Res} (h : EvA G ta Γ ds) (hR : R ds r) : EvR G W (tCallS (spR G.K R) (WE W) ta) Γ r := fun B0 H0 B H σ En Q k1 k2 =>
  h B0 H0 B H σ En _ fun vs B1 H1 s1 d1 => ⟨B1, ds, r, s1.bh, d1, hR, fun d' v B2 H2 e s2 d2 => k1 d' v B2 H2 e (s1.trans s2) d2, fun c B2 H2 e s2 => k2 c B2 H2 e (s1.trans s2)⟩
theorem wp_asgR {i : Nat} {r : Res} (h : EvR G W te Γ r) (k1 : ∀ d, r = .ok d → P.nx (Γ.set i (.dat d))) (k2 : ∀ c, r = .err c → P.er c Γ) : WpD G W (tAsg te (gName i)) Γ P := fun B0 H0 B H σ D E M =>
  h B0 H0 B H σ E _ (fun d v B1 H1 e s1 d1 => M.nx _ _ _ _ (k1 d e) s1.bb ((E.step s1).set_dat i d1)) fun c B1 H1 e s1 => M.er _ _ _ _ _ (k2 c e) s1.bb (E.step s1)
theorem wp_dropR {r : Res} (h : EvR G W te Γ r) (k1 : ∀ d, r = .ok d → P.nx Γ) (k2 : ∀ c, r = .err c → P.er c Γ) : WpD G W (tDrop te) Γ P := fun B0 H0 B H σ D E M =>
  h B0 H0 B H σ E _ (fun d v B1 H1 e s1 d1 => M.nx _ _ _ _ (k1 d e) s1.bb (E.step s1)) fun c B1 H1 e s1 => M.er _ _ _ _ _ (k2 c e) s1.bb (E.step s1)
theorem wp_retR {r : Res} (h : EvR G W te Γ r) (k1 : ∀ d, r = .ok d → P.rt d) (k2 : ∀ c, r = .err c → P.er c Γ) : WpD G W (tRet te) Γ P := fun B0 H0 B H σ D E M =>
  h B0 H0 B H σ E _ (fun d v B1 H1 e s1 d1 => M.rt d v B1 H1 (k1 d e) (E.stp.trans s1) s1.bb d1) fun c B1 H1 e s1 => M.er _ _ _ _ _ (k2 c e) s1.bb (E.step s1)
/-- try: body, except C: suite (without a name) -/
theorem wp_try {K : PySem.W.Frag} {cv : Value} {tb : WX → TS} {tsu : Addr → Value → Option Addr → TS} (hb : ∀ W', WpD G W' (tb W') Γ { P with er := fun c Γ' => ∃ b, PySem.W.exmOne K (.ref c) cv = some b ∧ (b = true → ∀ a, WpD G W (tsu a (.ref c) none) Γ' P) ∧ (b = false → P.er c Γ') }) :
    WpD G W (fun D σ H => tb (wOnly K cv tsu W D) D σ H) Γ P := fun B0 H0 B H σ D E M =>
  hb _ B0 H0 B H σ D E ⟨M.nx, M.bk, M.ct, M.rt, fun c Γ2 B2 H2 σ2 ⟨b, e1, e2, e3⟩ x E2 => ⟨b, e1, fun hb a _ => e2 hb a B0 H0 B2 H2 σ2 D E2 (M.up x), fun hb => M.er _ _ _ _ _ (e3 hb) x E2⟩⟩
end
end Pd

namespace Pd
open PySem L2
/-! ### defs and constants of the text, bundled -/
/-- the def st stands at the name x -/
structure FnT (K : PySem.W.Frag) (mg : Str → Option Value) (x qual : Str) (st : Stmt) : Prop where
  ex : ∃ f fd, mg x = some (.ref f) ∧ Fun K x qual st f fd
/-- a def that keeps its promise -/
structure FnB (P : Program) (w : World) (K : PySem.W.Frag) (mg : Str → Option Value) (base : Heap) (CX : CXT) (k : Nat) (x : Str) (ps : List Str) (sp : Sp) : Prop where
  ex : ∃ f fd, mg x = some (.ref f) ∧ PySem.W.keepIn K (.ref f) = true ∧ Binds K fd ps [] ∧ FnOk P w K mg base CX k f fd ps sp
theorem FnT.ok {P : Program} {w : World} {K : PySem.W.Frag} {mg : Str → Option Value} {base : Heap} {CX : CXT} {k : Nat} {x qual : Str} {ps : List Str} {sp : Sp} {st : Stmt} (T : FnT K mg x qual st)
    (h : ∀ (kV doc pm : Value) (an : Option Addr) (cdv ct : Value) (us : List Value), us.length = ps.length → bindArgs (PySem.W.fnOf x qual (defArgs st) (defBody st) (defScope st) .none kV doc pm an cdv ct) ⟨us, []⟩ = pure (ps.zip us))
    (g : ∀ f fd, Fun K x qual st f fd → FnOk P w K mg base CX k f fd ps sp) : FnB P w K mg base CX k x ps sp := by
  obtain ⟨f, fd, e, F⟩ := T.ex
  exact ⟨f, fd, e, F.kp, F.binds h, g f fd F⟩
section
variable {X : Cx} {CX : CXT} {k j : Nat} {x : Str} {ps : List Str} {sp : Sp} {E : XK} {ES : L2.St → XK} {p pos : Pos} {e : Expr} {es : List Expr} {t : TA}
theorem pe_callF (B : FnB X.prog X.w X.K X.mg X.base CX k x ps sp) (hr : Room k X.A) (hg : Gl X x) (hx : Passes CX X E) (ha : PA X (e :: es) t) (hdb : (x == ("__debug__" : Str)) = false := by decide)
    (he : starEach (e :: es) X.env = (false, eval e X.env) :: starEach es X.env := by rfl) (hpl : (backTo pos (starEach es X.env)).any (·.1) = false := by rfl) :
    PE X (.Call (.Name x p) (e :: es) [] pos) (tCall sp [] E t) := by
  obtain ⟨f, fd, h1, h2, h3, h4⟩ := B.ex
  exact pe_call h4 hr hg h1 h2 h3 .nil hx ha hdb he hpl
theorem pe_callF0 (B : FnB X.prog X.w X.K X.mg X.base CX k x ps sp) (hr : Room k X.A) (hg : Gl X x) (hx : Passes CX X E) (hdb : (x == ("__debug__" : Str)) = false := by decide) :
    PE X (.Call (.Name x p) [] [] pos) (tCall sp [] E tNil) := by
  obtain ⟨f, fd, h1, h2, h3, h4⟩ := B.ex
  exact pe_call0 h4 hr hg h1 h2 h3 .nil hx hdb
theorem pe_callFS (B : FnB X.prog X.w X.K X.mg X.base CX k x ps sp) (hr : Room k X.A) (hg : Gl X x) (hx : ∀ σ, PassesAt CX X σ (ES σ)) (ha : PA X (e :: es) t) (hdb : (x == ("__debug__" : Str)) = false := by decide)
    (he : starEach (e :: es) X.env = (false, eval e X.env) :: starEach es X.env := by rfl) (hpl : (backTo pos (starEach es X.env)).any (·.1) = false := by rfl) :
    PE X (.Call (.Name x p) (e :: es) [] pos) (tCallS sp ES t) := by
  obtain ⟨f, fd, h1, h2, h3, h4⟩ := B.ex
  exact pe_callS h4 hr hg h1 h2 h3 hx ha hdb he hpl
end
/-- a whole number, a text of the module -/
structure GInt (mg : Str → Option Value) (x : Str) (n : Int) : Prop where
  ex : ∃ t, mg x = some (.int n t)
structure GStr (mg : Str → Option Value) (x : Str) (z : Str) : Prop where
  ex : ∃ t, mg x = some (.str z t)
/-- a list of the module -/
structure GDat (K : PySem.W.Frag) (mg : Str → Option Value) (x : Str) (a : Addr) (d : PyData) : Prop where
  g : mg x = some (.ref a)
  d : ∀ B, Dp K B (.ref a) d
section
variable {X : Cx} {K : PySem.W.Frag} {x : Str} {n : Int} {z : Str} {a : Addr} {d : PyData} {pos : Pos}
theorem pe_gint (h : GInt X.mg x n) (hg : Gl X x) (hd : (x == ("__debug__" : Str)) = false := by decide) : PE X (.Name x pos) (tC (.int n)) := by
  obtain ⟨t, e⟩ := h.ex
  exact pe_glob hg e ⟨t, rfl⟩ hd
theorem pe_gstr (h : GStr X.mg x z) (hg : Gl X x) (hd : (x == ("__debug__" : Str)) = false := by decide) : PE X (.Name x pos) (tC (.str z)) := by
  obtain ⟨t, e⟩ := h.ex
  exact pe_glob hg e ⟨t, rfl⟩ hd
theorem pe_gdat (h : GDat K X.mg x a d) (hg : Gl X x) (hd : (x == ("__debug__" : Str)) = false := by decide) : PE X (.Name x pos) (tC (.ref a)) := pe_glob hg h.g rfl hd
theorem pe_cls (h : X.mg x = some (.ref a)) (hg : Gl X x) (hd : (x == ("__debug__" : Str)) = false := by decide) : PE X (.Name x pos) (tC (.ref a)) := pe_glob hg h rfl hd
/-- a built-in class as a value -/
theorem pe_ty {T : String} (hm : X.mg x = none) (hv : bootBuiltins x = some (.type T)) (hg : Gl X x) (hn : x ≠ "__name__" := by decide) (hd : (x == ("__debug__" : Str)) = false := by decide) : PE X (.Name x pos) (tC (.ty T)) := pe_bltn hg hm hv rfl hn hd
end
theorem bb_len : bootBuiltins "len" = some (.builtin "len") := by decide +kernel
theorem bb_isinstance : bootBuiltins "isinstance" = some (.builtin "isinstance") := by decide +kernel
theorem bb_all : bootBuiltins "all" = some (.builtin "all") := by decide +kernel
theorem bb_any : bootBuiltins "any" = some (.builtin "any") := by decide +kernel
theorem bb_max : bootBuiltins "max" = some (.builtin "max") := by decide +kernel
theorem bb_min : bootBuiltins "min" = some (.builtin "min") := by decide +kernel
theorem bb_int : bootBuiltins "int" = some (.type "int") := by decide +kernel
theorem bb_bool : bootBuiltins "bool" = some (.type "bool") := by decide +kernel
theorem bb_str : bootBuiltins "str" = some (.type "str") := by decide +kernel
theorem bb_list : bootBuiltins "list" = some (.type "list") := by decide +kernel
theorem bb_tuple : bootBuiltins "tuple" = some (.type "tuple") := by decide +kernel
theorem bb_ValueError : bootBuiltins "ValueError" = some (.type "ValueError") := by decide +kernel
/-- a side condition -/
structure Side (p : Prop) : Prop where
  out : p
section
variable {G : Gd} {Γ : List Ent}
theorem ev_p4 : EvD G (tOp rPow (tC (.int 10)) (tC (.int 4))) Γ (.int 10000) := ev_pow ev_int ev_int ⟨by decide, by decide, by decide⟩ (by decide)
theorem ev_p6 : EvD G (tOp rPow (tC (.int 10)) (tC (.int 6))) Γ (.int 1000000) := ev_pow ev_int ev_int ⟨by decide, by decide, by decide⟩ (by decide)
theorem ev_p9 : EvD G (tOp rPow (tC (.int 10)) (tC (.int 9))) Γ (.int 1000000000) := ev_pow ev_int ev_int ⟨by decide, by decide, by decide⟩ (by decide)
theorem ev_p11 : EvD G (tOp rPow (tC (.int 10)) (tC (.int 11))) Γ (.int 100000000000) := ev_pow ev_int ev_int ⟨by decide, by decide, by decide⟩ (by decide)
theorem ev_p12 : EvD G (tOp rPow (tC (.int 10)) (tC (.int 12))) Γ (.int 1000000000000) := ev_pow ev_int ev_int ⟨by decide, by decide, by decide⟩ (by decide)
theorem ev_p20 : EvD G (tOp rPow (tC (.int 10)) (tC (.int 20))) Γ (.int 100000000000000000000) := ev_pow ev_int ev_int ⟨by decide, by decide, by decide⟩ (by decide)
theorem ev_p30 : EvD G (tOp rPow (tC (.int 10)) (tC (.int 30))) Γ (.int 1000000000000000000000000000000) := ev_pow ev_int ev_int ⟨by decide, by decide, by decide⟩ (by decide)
end

/-! ### the same, their side conditions marked -/
section
variable {G : Gd} {Γ : List Ent} {ta tb tc te : TE} {x y z d : PyData} {i j k : Int} {p q : Str} {ds es : List PyData} {t : TA}
theorem w_add_str (ha : EvD G ta Γ (.str p)) (hb : EvD G tb Γ (.str q)) (h : Side (p.length + q.length ≤ 100000)) : EvD G (tOp (rAddA G.K) ta tb) Γ (.str (p ++ q)) := ev_add_str ha hb h.out
theorem w_add_tup (ha : EvD G ta Γ (.tuple ds)) (hb : EvD G tb Γ (.tuple es)) (hx : Side (ds ≠ [])) (h : Side (ds.length + es.length ≤ 100000)) : EvD G (tOp (rAddA G.K) ta tb) Γ (.tuple (ds ++ es)) := ev_add_tup ha hb hx.out h.out
theorem w_add_list (ha : EvD G ta Γ (.list ds)) (hb : EvD G tb Γ (.list es)) (h : Side (ds.length + es.length ≤ 100000)) : EvF G (tOp (rAddA G.K) ta tb) Γ (ds ++ es) := of_add_list h.out ha hb
theorem w_mul (ha : EvD G ta Γ (.int i)) (hb : EvD G tb Γ (.int j)) (h : Side (CMul i j)) : EvD G (tOp rMul ta tb) Γ (.int (i * j)) := ev_mul ha hb h.out
theorem w_div (ha : EvD G ta Γ (.int i)) (hb : EvD G tb Γ (.int j)) (h : Side (CDiv i j)) : EvD G (tOp rDiv ta tb) Γ (.int (i / j)) := ev_div ha hb h.out
theorem w_mod (ha : EvD G ta Γ (.int i)) (hb : EvD G tb Γ (.int j)) (h : Side (0 < j)) : EvD G (tOp rMod ta tb) Γ (.int (i % j)) := ev_mod ha hb h.out
theorem w_eq_any (ha : EvD G ta Γ x) (hb : EvD G tb Γ y) (hx : Side (SeqAt.shaped x = true)) (hy : Side (SeqAt.shaped y = true)) : EvD G (tOp (rEqA G.K) ta tb) Γ (.bool (PyData.eqv x y)) := ev_eq_any ha hb hx.out hy.out
theorem w_ne_any (ha : EvD G ta Γ x) (hb : EvD G tb Γ y) (hx : Side (SeqAt.shaped x = true)) (hy : Side (SeqAt.shaped y = true)) : EvD G (tOp (rNeA G.K) ta tb) Γ (.bool (!PyData.eqv x y)) := ev_ne_any ha hb hx.out hy.out
theorem w_in_list (ha : EvD G ta Γ x) (hb : EvD G tb Γ (.list ds)) (hx : Side (flatD x = true)) (hf : Side (ds.all flatD = true)) : EvD G (tOp (rInA G.K) ta tb) Γ (.bool (inD x ds)) := ev_in_list ha hb hx.out hf.out
theorem w_in_tup (ha : EvD G ta Γ x) (hb : EvD G tb Γ (.tuple ds)) (hx : Side (flatD x = true)) (hf : Side (ds.all flatD = true)) : EvD G (tOp (rInA G.K) ta tb) Γ (.bool (inD x ds)) := ev_in_tup ha hb hx.out hf.out
theorem w_notIn_list (ha : EvD G ta Γ x) (hb : EvD G tb Γ (.list ds)) (hx : Side (flatD x = true)) (hf : Side (ds.all flatD = true)) : EvD G (tOp (rNotInA G.K) ta tb) Γ (.bool (!inD x ds)) := ev_notIn_list ha hb hx.out hf.out
theorem w_notIn_tup (ha : EvD G ta Γ x) (hb : EvD G tb Γ (.tuple ds)) (hx : Side (flatD x = true)) (hf : Side (ds.all flatD = true)) : EvD G (tOp (rNotInA G.K) ta tb) Γ (.bool (!inD x ds)) := ev_notIn_tup ha hb hx.out hf.out
theorem w_ix_tup (ha : EvD G ta Γ (.tuple ds)) (hb : EvD G tb Γ (.int i)) (h : Side (atI ds i = some d)) : EvD G (tOp (rIx G.K) ta tb) Γ d := ev_ix_tup ha hb h.out
theorem w_ix_list (ha : EvD G ta Γ (.list ds)) (hb : EvD G tb Γ (.int i)) (h : Side (atI ds i = some d)) : EvD G (tOp (rIx G.K) ta tb) Γ d := ev_ix_list ha hb h.out
theorem w_ix_str {c : Nat} (ha : EvD G ta Γ (.str p)) (hb : EvD G tb Γ (.int i)) (hl : Side (p.length ≤ 100000)) (h : Side (atI p.cps.toList i = some c)) : EvD G (tOp (rIx G.K) ta tb) Γ (.str ⟨#[c]⟩) := ev_ix_str ha hb hl.out h.out
theorem atI_ints {ns : List Int} {i : Int} (h0 : 0 ≤ i) (h1 : i < ns.length) : atI (ns.map PyData.int) i = some (.int (ns.getD i.toNat 0)) := by
  have e : i = ((i.toNat : Nat) : Int) := by omega
  have hl : i.toNat < ns.length := by omega
  rw [e]
  refine atI_nat ?_
  rw [List.getElem?_map, List.getElem?_eq_getElem hl, Int.toNat_natCast, List.getD_eq_getElem?_getD, List.getElem?_eq_getElem hl]
  rfl
theorem w_ix_ints {ns : List Int} (ha : EvD G ta Γ (.list (ns.map .int))) (hb : EvD G tb Γ (.int i)) (h : Side (0 ≤ i ∧ i < ns.length)) : EvD G (tOp (rIx G.K) ta tb) Γ (.int (ns.getD i.toNat 0)) := ev_ix_list ha hb (atI_ints h.out.1 h.out.2)
theorem w_ix_lit2 {x0 x1 : Int} (ha : EvD G ta Γ (.list [.int x0, .int x1])) (hb : EvD G tb Γ (.int i)) (h : Side (0 ≤ i ∧ i < 2)) : EvD G (tOp (rIx G.K) ta tb) Γ (.int ([x0, x1].getD i.toNat 0)) := ev_ix_list ha hb (atI_ints (ns := [x0, x1]) h.out.1 h.out.2)
theorem w_ix_lit3 {x0 x1 x2 : Int} (ha : EvD G ta Γ (.list [.int x0, .int x1, .int x2])) (hb : EvD G tb Γ (.int i)) (h : Side (0 ≤ i ∧ i < 3)) : EvD G (tOp (rIx G.K) ta tb) Γ (.int ([x0, x1, x2].getD i.toNat 0)) := ev_ix_list ha hb (atI_ints (ns := [x0, x1, x2]) h.out.1 h.out.2)
theorem w_ix_lit4 {x0 x1 x2 x3 : Int} (ha : EvD G ta Γ (.list [.int x0, .int x1, .int x2, .int x3])) (hb : EvD G tb Γ (.int i)) (h : Side (0 ≤ i ∧ i < 4)) : EvD G (tOp (rIx G.K) ta tb) Γ (.int ([x0, x1, x2, x3].getD i.toNat 0)) := ev_ix_list ha hb (atI_ints (ns := [x0, x1, x2, x3]) h.out.1 h.out.2)
theorem w_ix_lit6 {x0 x1 x2 x3 x4 x5 : Int} (ha : EvD G ta Γ (.list [.int x0, .int x1, .int x2, .int x3, .int x4, .int x5])) (hb : EvD G tb Γ (.int i)) (h : Side (0 ≤ i ∧ i < 6)) : EvD G (tOp (rIx G.K) ta tb) Γ (.int ([x0, x1, x2, x3, x4, x5].getD i.toNat 0)) := ev_ix_list ha hb (atI_ints (ns := [x0, x1, x2, x3, x4, x5]) h.out.1 h.out.2)
theorem w_ix_lit10 {x0 x1 x2 x3 x4 x5 x6 x7 x8 x9 : Int} (ha : EvD G ta Γ (.list [.int x0, .int x1, .int x2, .int x3, .int x4, .int x5, .int x6, .int x7, .int x8, .int x9])) (hb : EvD G tb Γ (.int i)) (h : Side (0 ≤ i ∧ i < 10)) : EvD G (tOp (rIx G.K) ta tb) Γ (.int ([x0, x1, x2, x3, x4, x5, x6, x7, x8, x9].getD i.toNat 0)) := ev_ix_list ha hb (atI_ints (ns := [x0, x1, x2, x3, x4, x5, x6, x7, x8, x9]) h.out.1 h.out.2)
theorem w_ix_lit12 {x0 x1 x2 x3 x4 x5 x6 x7 x8 x9 x10 x11 : Int} (ha : EvD G ta Γ (.list [.int x0, .int x1, .int x2, .int x3, .int x4, .int x5, .int x6, .int x7, .int x8, .int x9, .int x10, .int x11])) (hb : EvD G tb Γ (.int i)) (h : Side (0 ≤ i ∧ i < 12)) : EvD G (tOp (rIx G.K) ta tb) Γ (.int ([x0, x1, x2, x3, x4, x5, x6, x7, x8, x9, x10, x11].getD i.toNat 0)) := ev_ix_list ha hb (atI_ints (ns := [x0, x1, x2, x3, x4, x5, x6, x7, x8, x9, x10, x11]) h.out.1 h.out.2)
/-- at a written place -/
theorem w_ix_tupN {n : Nat} (ha : EvD G ta Γ (.tuple ds)) (h : Side (ds[n]? = some d)) : EvD G (tOp (rIx G.K) ta (tC (.int (n : Int)))) Γ d := ev_ix_tup ha ev_int (atI_nat h.out)
theorem w_chain_ll (ha : EvD G ta Γ (.int i)) (hb : EvD G tb Γ (.int j)) (hc : decide (i ≤ j) = true → EvD G tc Γ (.int k)) : EvD G (tChain rLe rLe ta tb tc) Γ (.bool (decide (i ≤ j) && decide (j ≤ k))) := ev_chain ha hb od_le hc fun _ => od_le
theorem w_chain_lt (ha : EvD G ta Γ (.int i)) (hb : EvD G tb Γ (.int j)) (hc : decide (i ≤ j) = true → EvD G tc Γ (.int k)) : EvD G (tChain rLe rLt ta tb tc) Γ (.bool (decide (i ≤ j) && decide (j < k))) := ev_chain ha hb od_le hc fun _ => od_lt
theorem w_tup (h : EvA G t Γ ds) (hl : Side (ds.length ≤ 100000)) : EvD G (tTup t) Γ (.tuple ds) := ev_tup h hl.out
theorem w_lst (h : EvA G t Γ ds) (hl : Side (ds.length ≤ 100000)) : EvF G (tLst t) Γ ds := ef_lst h hl.out
theorem w_len_list (h : EvA G t Γ [.list ds]) : EvD G (tCB (rLen G.K) t) Γ (.int (ds.length : Int)) := ev_cb h ca_len_list
theorem w_len_tup (h : EvA G t Γ [.tuple ds]) : EvD G (tCB (rLen G.K) t) Γ (.int (ds.length : Int)) := ev_cb h ca_len_tup
theorem w_len_str (h : EvA G t Γ [.str p]) (hl : Side (p.length ≤ 100000)) : EvD G (tCB (rLen G.K) t) Γ (.int (p.length : Int)) := ev_cb h (ca_len_str hl.out)
theorem w_int_int (h : EvA G t Γ [.int i]) : EvD G (tCB rIntA t) Γ (.int i) := ev_cb h ca_int_int
theorem w_int_bl {a : Bool} (h : EvA G t Γ [.bool a]) : EvD G (tCB rIntA t) Γ (.int (if a then 1 else 0)) := ev_cb h ca_int_bl
theorem w_int_str {n : Int} (h : EvA G t Γ [.str p]) (h1 : Side (PySem.intText? p = some n)) (hl : Side (p.length ≤ 640)) : EvD G (tCB rIntA t) Γ (.int n) := ev_cb h (ca_int_str h1.out hl.out)
theorem w_str_int (h : EvA G t Γ [.int i]) (hl : Side (i.natAbs.log2 < 1920)) : EvD G (tCB rStrI t) Γ (.str (toString i)) := ev_cb h (ca_str_int hl.out)
theorem w_max (h : EvA G t Γ [.int i, .int j]) : EvD G (tCB rMax2 t) Γ (.int (if j > i then j else i)) := ev_cb h ca_max
theorem w_min (h : EvA G t Γ [.int i, .int j]) : EvD G (tCB rMin2 t) Γ (.int (if j < i then j else i)) := ev_cb h ca_min
theorem w_tup_list (h : EvA G t Γ [.list ds]) : EvD G (tCB (rTupOf G.K) t) Γ (.tuple ds) := ev_cb h ca_tup_list
theorem w_tup_tup (h : EvA G t Γ [.tuple ds]) : EvD G (tCB (rTupOf G.K) t) Γ (.tuple ds) := ev_cb h ca_tup_tup
theorem w_all (h : EvA G t Γ [.list ds]) (f : Side (∀ d ∈ ds, ∃ b, d = .bool b)) : EvD G (tCB (rAll G.K) t) Γ (.bool (ds.all boD)) := ev_cb h (ca_all f.out)
theorem w_any (h : EvA G t Γ [.list ds]) (f : Side (∀ d ∈ ds, ∃ b, d = .bool b)) : EvD G (tCB (rAny G.K) t) Γ (.bool (ds.any boD)) := ev_cb h (ca_any f.out)
theorem w_list_list (h : EvA G t Γ [.list ds]) : EvF G (tCB (rListOf G.K) t) Γ ds := ef_cb h (cf_list (.inl rfl))
theorem w_lcm {α : Type} {wi : TI} {vs : List Nat} {j : Nat} {c : α → PyData} {zs : List α} {h : α → PyData} (hi : ItD G wi Γ (zs.map c)) (hz : Side (zs.length ≤ 50000)) (hv : Side (j ∈ vs))
    (he : ∀ y ∈ zs, EvD G te ((wipeE Γ vs).set j (.dat (c y))) (h y)) : EvF G (tLc wi (gName j) tYes te vs) Γ (zs.map h) := ef_lcm hi hz.out hv.out he
theorem w_lci {wi : TI} {vs : List Nat} {j : Nat} {zs : List PyData} {h : PyData → PyData} (hi : ItD G wi Γ zs) (hz : Side (zs.length ≤ 50000)) (hv : Side (j ∈ vs))
    (he : ∀ y ∈ zs, EvD G te ((wipeE Γ vs).set j (.dat y)) (h y)) : EvF G (tLc wi (gName j) tYes te vs) Γ (zs.map h) := ef_lcm (c := id) (by rw [List.map_id]; exact hi) hz.out hv.out he
theorem w_lcn {α : Type} {wi : TI} {tt : TT} {vs : List Nat} {j : Nat} {c : α → PyData} {zs : List α} {f : α → Bool} {h : α → PyData} (hi : ItD G wi Γ (zs.map c)) (hz : Side (zs.length ≤ 50000)) (hv : Side (j ∈ vs))
    (ht : ∀ y ∈ zs, EvT G tt ((wipeE Γ vs).set j (.dat (c y))) (f y)) (he : ∀ y ∈ zs, f y = true → EvD G te ((wipeE Γ vs).set j (.dat (c y))) (h y)) : EvF G (tLc wi (gName j) tt te vs) Γ ((zs.filter f).map h) := ef_lcn hi hz.out hv.out ht he
theorem w_rng1 {n : Int} (h : EvA G t Γ [.int n]) (h1 : Side (-(2 ^ 62) ≤ n)) (h2 : Side (n < 2 ^ 62)) : ItD G (iRng1 t) Γ ((List.range n.toNat).map fun (k : Nat) => .int (0 + (k : Int))) := it_rng1 h h1.out h2.out
theorem w_rng2 {lo n : Int} (h : EvA G t Γ [.int lo, .int n]) (h1 : Side (-(2 ^ 62) ≤ lo)) (h2 : Side (lo < 2 ^ 62)) (h3 : Side (-(2 ^ 62) ≤ n)) (h4 : Side (n < 2 ^ 62)) : ItD G (iRng2 t) Γ ((List.range (n - lo).toNat).map fun (k : Nat) => .int (lo + (k : Int))) := it_rng2 h h1.out h2.out h3.out h4.out
theorem w_list_tup (h : EvA G t Γ [.tuple ds]) : EvF G (tCB (rListOf G.K) t) Γ ds := ef_cb h (cf_list (.inr rfl))
end
/-! ### rules with the written part told -/
section
variable {X : Cx} {K : PySem.W.Frag}
theorem ok_addA (h : X.K = K) : OpR X (binaryOp .Add) (rAddA K) := h ▸ op_addA
theorem ok_eqA (h : X.K = K) (hu : X.A.units + 64 < cLine) : OpR X (compareOp .Eq) (rEqA K) := h ▸ op_eqA hu
theorem ok_neA (h : X.K = K) (hu : X.A.units + 64 < cLine) : OpR X (compareOp .NotEq) (rNeA K) := h ▸ op_neA hu
theorem ok_inA (h : X.K = K) : OpR X (compareOp .In) (rInA K) := h ▸ op_inA
theorem ok_notInA (h : X.K = K) : OpR X (compareOp .NotIn) (rNotInA K) := h ▸ op_notInA
theorem kx_seq (h : X.K = K) : IxR X (rIx K) := h ▸ ix_seq
theorem kl_any (h : X.K = K) : SlR X (rSlA K) := h ▸ sl_any
theorem kc_len (h : X.K = K) : CallR X (.builtin "len") (rLen K) := h ▸ call_lenA
theorem kc_list (h : X.K = K) : CallR X (.type "list") (rListOf K) := h ▸ call_listA
theorem kc_tup (h : X.K = K) : CallR X (.type "tuple") (rTupOf K) := h ▸ call_tupA
theorem kc_all (h : X.K = K) (hc : X.calm = true) : CallR X (.builtin "all") (rAll K) := h ▸ cr_all hc
theorem kc_any (h : X.K = K) (hc : X.calm = true) : CallR X (.builtin "any") (rAny K) := h ▸ cr_any hc
theorem kc_isi (h : X.K = K) : CallR X (.builtin "isinstance") (rIsi K) := h ▸ call_isi
theorem ki_any {tg e : Expr} {te : TE} (h : X.K = K) (he : PE X e te) : PI X tg e (iAny K te) := h ▸ pi_any he
theorem ki_rev {tg e : Expr} {te : TE} {p pos : Pos} (h : X.K = K) (hg : Gl X "reversed") (hm : X.mg "reversed" = none) (he : PE X e te) (hs : starEach [e] X.env = (false, eval e X.env) :: starEach [] X.env := by rfl) : PI X tg (.Call (.Name "reversed" p) [e] [] pos) (RT.iRevA K te) := h ▸ RT.pi_revA hg hm he hs
theorem kg_tup {es : List Expr} {k : Nat} {t : TGs} {n : Nat} {pos : Pos} (hK : X.K = K) (hc : X.calm = true) (h : PGs X es t)
    (hn : (assignEach es X.env).length = n := by rfl) (hst : (assignEach es X.env).findIdx? (·.1) = none := by rfl) : PG X (.Tuple es k pos) (gTup K n t) := hK ▸ pg_tup hc h hn hst
variable {o e : Expr} {to te : TE} {apos cpos : Pos}
theorem kpe_app (hK : X.K = K) (ho : PE X o to) (he : PE X e te) (hbase : attributeBase o "append" X.env (eval o X.env) = eval o X.env := by rfl)
    (hfew : ((backTo cpos (starEach [e] X.env)).all (fun x => !x.1) && (backToKw cpos (keywordEach [] X.env)).all (fun x => x.1.isSome)
      && decide ([e].length + ([] : List Keyword).length + (if ([] : List Keyword).isEmpty then 0 else 1) < 30)) = true := by rfl)
    (hline : (apos.endLine == cpos.line) = true := by rfl) (hs : starEach [e] X.env = (false, eval e X.env) :: starEach [] X.env := by rfl) (hplain : (backTo cpos (starEach [] X.env)).any (·.1) = false := by rfl) :
    PE X (.Call (.Attribute o "append" apos) [e] [] cpos) (tBM K "list" rAppend to (tCons te tNil)) := hK ▸ pe_bm PySem.F.plainAttrs_list PySem.F.slot_list_append PySem.F.type_list_append mt_append ho (pa_cons he pa_nil hs) hbase hfew hline hs hplain
theorem kpe_clear (hK : X.K = K) (ho : PE X o to) (hbase : attributeBase o "clear" X.env (eval o X.env) = eval o X.env := by rfl) (hline : (apos.endLine == cpos.line) = true := by rfl) :
    PE X (.Call (.Attribute o "clear" apos) [] [] cpos) (tBM0 K "list" rClear to) := hK ▸ pe_bm0 PySem.F.plainAttrs_list PySem.F.slot_list_clear PySem.F.type_list_clear mt_clear ho hbase hline
theorem kpe_pop (hK : X.K = K) (ho : PE X o to) (hbase : attributeBase o "pop" X.env (eval o X.env) = eval o X.env := by rfl) (hline : (apos.endLine == cpos.line) = true := by rfl) :
    PE X (.Call (.Attribute o "pop" apos) [] [] cpos) (tBM0 K "list" rPop to) := hK ▸ pe_bm0 PySem.F.plainAttrs_list PySem.F.slot_list_pop PySem.F.type_list_pop mt_pop ho hbase hline
/-- raise X('..') -/
structure XcT (K : PySem.W.Frag) (mg : Str → Option Value) (x : Str) (C : Addr) : Prop where
  g : mg x = some (.ref C)
  xc : PySem.W.excIn K C [.type "ValueError", .type "Exception", .type "BaseException", .type "object"] "ValueError.__new__" = true
  kp : PySem.W.keepIn K (.ref C) = true
  sb : PySem.W.subIn K (.ref C) (.type "BaseException") = some true
  ty : PySem.W.typeIn K (.ref C) = some (.type "type")
  ic : PySem.W.isClsIn K C = true
  hd : PySem.W.hasDictIn K C = true
  sv : PySem.W.subIn K (.ref C) (.type "ValueError") = some true
  ss : PySem.W.subIn K (.ref C) (.ref C) = some true
  e1 : PySem.W.findIn K (.ref C) "__getattribute__" = some (some (.builtin "BaseException.__getattribute__"))
  e2 : PySem.W.findIn K (.ref C) "__getattr__" = some none
  e3 : PySem.W.findIn K (.ref C) "__class__" = some (some (.builtin "object.__class__"))
  e4 : PySem.W.specialIn K (.builtin "object.__class__") "__get__" = some (some (.builtin "getset_descriptor.__get__"))
  e5 : PySem.W.takesIn K (.builtin "object.__class__") = some true
  e6 : PySem.W.mroIn K C (.type "object") = some true
theorem XcT.excC {mg : Str → Option Value} {x : Str} {C : Addr} (T : XcT K mg x C) : ExcC K C := ⟨T.e1, T.e2, T.sb, T.hd, T.e3, T.e4, T.e5, T.e6⟩
theorem XcT.exm {mg : Str → Option Value} {x : Str} {C : Addr} {cls : Value} {b : Bool} (T : XcT K mg x C) (h : PySem.W.subIn K cls (.ref C) = some b) : PySem.W.exmOne K cls (.ref C) = some b := PySem.W.exm_ref T.sb T.hd T.ty h
theorem XcT.kitCls {mg : Str → Option Value} {x : Str} {C : Addr} {cls : Value} {b : Bool} (T : XcT K mg x C) (h : PySem.W.subIn K cls (.ref C) = some b) : PySem.W.kitCls K cls (.ref C) = some b := by
  have := T.exm h
  unfold PySem.W.exmOne at this
  rw [T.sb] at this
  simpa using this
theorem XcT.kitT {mg : Str → Option Value} {x : Str} {C D : Addr} (T : XcT K mg x C) (h : PySem.W.subIn K (.ref D) (.ref C) = some true) : PySem.W.kitOne K (.ref D) (.ref C) = some true := by
  unfold PySem.W.kitOne
  split
  · rfl
  · exact T.kitCls h
theorem XcT.kitF {mg mg' : Str → Option Value} {x y : Str} {C D : Addr} (T : XcT K mg x C) (S : XcT K mg' y D) (h : PySem.W.subIn K (.ref D) (.ref C) = some false) : PySem.W.kitOne K (.ref D) (.ref C) = some false := by
  unfold PySem.W.kitOne
  split
  · rename_i e
    have e : D = C := Value.ref.inj (beq_iff_eq.mp e)
    subst e
    rw [S.ss] at h; cases h
  · exact T.kitCls h
theorem XcT.kitV {mg : Str → Option Value} {x : Str} {C : Addr} (T : XcT K mg x C) : PySem.W.kitOne K (.ref C) (.type "ValueError") = some true := by
  unfold PySem.W.kitOne PySem.W.kitCls
  split
  · rfl
  · show (if PySem.W.kitMeta "ValueError" = true then _ else _) = _
    rw [if_pos (by decide +kernel)]; exact T.sv
theorem kps_raise {C : Addr} {x m : Str} {j : Nat} {p p2 pos2 pos : Pos} {W : WX} (T : XcT X.K X.mg x C) (hc : X.calm = true) (tk : Takes X W) (hg : Gl X x) (hdb : (x == ("__debug__" : Str)) = false := by decide) :
    PS X (.Raise (some (.Call (.Name x p) [.Constant (.str m) j p2] [] pos2)) none pos) (fun _ σ H => W (.ref C) none σ H) :=
  ps_raise hc tk (pmk_own PySem.F.excBase_ValueError T.xc T.g T.kp (raises_own T.sb T.ty) hg hdb)
/-- isinstance(e, C), e the error that the suite holds -/
def rIsEG (K : PySem.W.Frag) (cls : Value) (d : Option Addr) (a : Addr) : List V → Hp → VK → Prop := fun xs H Q => ∃ D, cls = .ref D ∧ d = none ∧ ExcC K D ∧ rIsE K D a xs H Q
theorem kc_isE {a : Addr} {oe : Obj} {pn : List (Addr × Obj)} {cls : Value} {d : Option Addr} (hK : X.K = K) (hz : Zc cls d oe) (hf : ∃ vs, oe.data = .fields vs) : CallR (X.suite a ((a, oe) :: pn)) (.builtin "isinstance") (rIsEG K cls d a) := by
  intro pins s σ H xs us Q I r h
  obtain ⟨D, rfl, rfl, hC, h⟩ := h
  subst hK
  exact call_isE hC hz hf pins s σ H xs us Q I r h
def tTryAs (K : PySem.W.Frag) (c : Value) (i : Nat) (tb : WX → TS) (ts : Addr → Value → Option Addr → TS) (Wout : WX) : TS := fun D σ H => tb (wAs K c i ts Wout D) D σ H
def tTry (K : PySem.W.Frag) (c : Value) (tb : WX → TS) (ts : Addr → Value → Option Addr → TS) (Wout : WX) : TS := fun D σ H => tb (wOnly K c ts Wout D) D σ H
theorem kps_try_as {x n : Str} {c : Value} {i : Nat} {body suite : List Stmt} {b₀ : Stmt} {np pos pos' : Pos} {tb : WX → TS} {ts : Addr → Value → Option Addr → TS} {Wout : WX} (hK : X.K = K) (hs : X.stack = X.env :: X.outer) (hf : X.env.frame = some X.env.locals) (hN : X.N.Nodup) (hi : X.N[i]? = some n) (hln : X.env.kindOf n = some .local) (hc : Names X x c) (tk : Takes X Wout)
    (hb : ∀ (W : WX) (pn : List (Addr × Obj)) (xe : Value → Shared → Prop), Takes (X.tr pn xe) W → PassesOwn (model X.prog X.w) X.A X.env xe → PSs (X.tr pn xe) body (tb W))
    (hsu : ∀ (a : Addr) (oe : Obj) (cls : Value) (d : Option Addr) (pn : List (Addr × Obj)), Zc cls d oe → (∃ vs, oe.data = .fields vs) → PSs (X.suite a ((a, oe) :: pn)) (b₀ :: suite) (ts a cls d)) :
    PS X (.Try body [.ExceptHandler (some (.Name x np)) (some n) (b₀ :: suite) pos'] [] [] pos) (tTryAs K c i tb ts Wout) := hK ▸ ps_try_as hs hf hN hi hln hc tk hb hsu
theorem kps_try_only {x : Str} {c : Value} {body suite : List Stmt} {b₀ : Stmt} {np pos pos' : Pos} {tb : WX → TS} {ts : Addr → Value → Option Addr → TS} {Wout : WX} (hK : X.K = K) (hs : X.stack = X.env :: X.outer) (hf : X.env.frame = some X.env.locals) (hc : Names X x c) (tk : Takes X Wout)
    (hb : ∀ (W : WX) (pn : List (Addr × Obj)) (xe : Value → Shared → Prop), Takes (X.tr pn xe) W → PassesOwn (model X.prog X.w) X.A X.env xe → PSs (X.tr pn xe) body (tb W))
    (hsu : ∀ (a : Addr) (oe : Obj) (cls : Value) (d : Option Addr) (pn : List (Addr × Obj)), Zc cls d oe → (∃ vs, oe.data = .fields vs) → PSs (X.suite a ((a, oe) :: pn)) (b₀ :: suite) (ts a cls d)) :
    PS X (.Try body [.ExceptHandler (some (.Name x np)) none (b₀ :: suite) pos'] [] [] pos) (tTry K c tb ts Wout) := hK ▸ ps_try_only hs hf hc tk hb hsu
end
section
variable {G : Gd} {W : WX} {Γ : List Ent} {P : Post}
theorem ev_isE {i : Nat} {cls : Value} {d : Option Addr} {a D : Addr} {c : V} {cv : Value} {b : Bool} (hi : Γ[i]? = some (.val (.ref a))) (h1 : cls = .ref D) (h2 : d = none) (hC : ExcC G.K D) (hc : ∀ u, RelV c u → u = cv) (hk : PySem.W.kitOne G.K (.ref D) cv = some b) :
    EvD G (tCB (rIsEG G.K cls d a) (tCons (tVar i) (tCons (tC c) tNil))) Γ (.bool b) := fun B0 H0 B H σ E Q k =>
  ⟨.ref a, E.val hi, D, h1, h2, hC, c, cv, b, rfl, hc, hk, k _ B H (Stp.refl E.stp.bh) (.bl _)⟩
theorem wp_try_as {K : PySem.W.Frag} {cv : Value} {i : Nat} {tb : WX → TS} {tsu : Addr → Value → Option Addr → TS} (hb : ∀ W', WpD G W' (tb W') Γ { P with er := fun c Γ' => ∃ b, PySem.W.exmOne K (.ref c) cv = some b ∧
      (b = true → ∀ a, WpD G W (tsu a (.ref c) none) (Γ'.set i (.val (.ref a))) { P with nx := fun Γ2 => P.nx (Γ2.set i .no), bk := fun Γ2 => P.bk (Γ2.set i .no), ct := fun Γ2 => P.ct (Γ2.set i .no) }) ∧ (b = false → P.er c Γ') }) :
    WpD G W (tTryAs K cv i tb tsu W) Γ P := fun B0 H0 B H σ D E M =>
  hb _ B0 H0 B H σ D E ⟨M.nx, M.bk, M.ct, M.rt, fun c Γ2 B2 H2 σ2 ⟨b, e1, e2, e3⟩ x E2 => ⟨b, e1, fun hb a _ => e2 hb a B0 H0 B2 H2 _ _ (E2.set_val i (.ref a))
    ⟨fun Γ3 B3 H3 σ3 a1 a2 a3 => M.nx _ _ _ _ a1 (x.trans a2) (a3.set_no i none), fun Γ3 B3 H3 σ3 a1 a2 a3 => M.bk _ _ _ _ a1 (x.trans a2) (a3.set_no i none), fun Γ3 B3 H3 σ3 a1 a2 a3 => M.ct _ _ _ _ a1 (x.trans a2) (a3.set_no i none),
      fun d v B3 H3 a1 a2 a3 => M.rt _ _ _ _ a1 a2 (x.trans a3), fun c Γ3 B3 H3 σ3 a1 a2 a3 => M.er _ _ _ _ _ a1 (x.trans a2) a3⟩, fun hb => M.er _ _ _ _ _ (e3 hb) x E2⟩⟩
end
section
variable {G : Gd} {W : WX} {Γ : List Ent} {P : Post}
theorem wp_tryO {K : PySem.W.Frag} {cv : Value} {tb : WX → TS} {tsu : Addr → Value → Option Addr → TS} (hb : ∀ W', WpD G W' (tb W') Γ { P with er := fun c Γ' => ∃ b, PySem.W.exmOne K (.ref c) cv = some b ∧ (b = true → ∀ a, WpD G W (tsu a (.ref c) none) Γ' P) ∧ (b = false → P.er c Γ') }) :
    WpD G W (tTry K cv tb tsu W) Γ P := wp_try hb
/-- a test whose answer is known -/
theorem wp_ifT {tt : TT} {b : Bool} {tu tw : TS} (h : EvT G tt Γ b) (e : b = true) (h1 : WpD G W tu Γ P) : WpD G W (tIfS tt tu tw) Γ P := wp_if h (fun _ => h1) fun z => by rw [e] at z; cases z
theorem wp_ifF {tt : TT} {b : Bool} {tu tw : TS} (h : EvT G tt Γ b) (e : b = false) (h1 : WpD G W tw Γ P) : WpD G W (tIfS tt tu tw) Γ P := wp_if h (fun z => by rw [e] at z; cases z) fun _ => h1
end
/-- parts that are never asked -/
theorem et_dead {G : Gd} {Γ : List Ent} {t : TT} (h : false = true) : EvT G t Γ false := (Bool.false_ne_true h).elim
theorem ev_dead {G : Gd} {Γ : List Ent} {t : TE} (h : false = true) : EvD G t Γ (.bool false) := (Bool.false_ne_true h).elim
/-! ### what the top has written -/
section
variable {K : PySem.W.Frag} {h : Heap} {mg : Str → Option Value} {x : Str} {f a : Addr}
theorem fnT_mk (X : K.In h) (G : h.Ns mainGlobals mg) {st : Stmt} {oc : Value} {od an : Option Addr} {osl : Array (Option Value)} {kV doc pm cdv ct : Value} (e : PySem.W.nsIn K mainGlobals x = some (some (.ref f))) (l : K.lookup f = some ⟨oc, od, .func (PySem.W.fnOf x x (defArgs st) (defBody st) (defScope st) .none kV doc pm an cdv ct), osl⟩)
    (c : PySem.W.codeIn K cdv x = true) (k : PySem.W.keepIn K (.ref f) = true) : FnT K mg x x st := ⟨f, _, PySem.W.mg_of X G e, fun_mk l c k⟩
theorem xcT_mk (X : K.In h) (G : h.Ns mainGlobals mg) (e : PySem.W.nsIn K mainGlobals x = some (some (.ref f)))
    (xc : PySem.W.excIn K f [.type "ValueError", .type "Exception", .type "BaseException", .type "object"] "ValueError.__new__" = true) (kp : PySem.W.keepIn K (.ref f) = true) (sb : PySem.W.subIn K (.ref f) (.type "BaseException") = some true) (ty : PySem.W.typeIn K (.ref f) = some (.type "type")) (ic : PySem.W.isClsIn K f = true) (hd : PySem.W.hasDictIn K f = true) (sv : PySem.W.subIn K (.ref f) (.type "ValueError") = some true) (ss : PySem.W.subIn K (.ref f) (.ref f) = some true)
    (e1 : PySem.W.findIn K (.ref f) "__getattribute__" = some (some (.builtin "BaseException.__getattribute__"))) (e2 : PySem.W.findIn K (.ref f) "__getattr__" = some none) (e3 : PySem.W.findIn K (.ref f) "__class__" = some (some (.builtin "object.__class__"))) (e4 : PySem.W.specialIn K (.builtin "object.__class__") "__get__" = some (some (.builtin "getset_descriptor.__get__"))) (e5 : PySem.W.takesIn K (.builtin "object.__class__") = some true) (e6 : PySem.W.mroIn K f (.type "object") = some true) : XcT K mg x f :=
  ⟨PySem.W.mg_of X G e, xc, kp, sb, ty, ic, hd, sv, ss, e1, e2, e3, e4, e5, e6⟩
theorem gint_mk (X : K.In h) (G : h.Ns mainGlobals mg) {n : Int} {t : Tok} (e : PySem.W.nsIn K mainGlobals x = some (some (.int n t))) : GInt mg x n := ⟨t, PySem.W.mg_of X G e⟩
theorem gstr_mk (X : K.In h) (G : h.Ns mainGlobals mg) {z : Str} {t : Tok} (e : PySem.W.nsIn K mainGlobals x = some (some (.str z t))) : GStr mg x z := ⟨t, PySem.W.mg_of X G e⟩
theorem relV_of_abs {u : Value} {v : V} (e : absV u = some v) : RelV v u := by
  cases u <;> first
    | (cases e; first | rfl | exact ⟨_, rfl⟩)
    | (exact absurd e (by intro z; cases z))
theorem vals_of_abs : ∀ {us : List Value} {vs : List V}, us.map absV = vs.map some → Vals vs us
  | [], [], _ => .nil
  | [], _ :: _, e => by cases e
  | _ :: _, [], e => by cases e
  | _ :: us, _ :: vs, e => .cons (relV_of_abs (List.cons.inj e).1) (vals_of_abs (List.cons.inj e).2)
/-- a list of plain whole numbers, texts that the top has written -/
theorem gdat_mk (X : K.In h) (G : h.Ns mainGlobals mg) {its : Array Value} {n : Nat} {sl : Array (Option Value)} (vs : List V) {ds : List PyData} (e : PySem.W.nsIn K mainGlobals x = some (some (.ref a))) (l : K.lookup a = some ⟨.type "list", none, .seq its n, sl⟩) (hv : its.toList.map absV = vs.map some) (hl : vs.length ≤ 1000) (hd : ∀ B, DpAll K B vs ds) : GDat K mg x a (.list ds) := by
  refine ⟨PySem.W.mg_of X G e, fun B => .lst (.inr ⟨_, its, n, l, rfl, rfl, rfl, ?_, vals_of_abs hv⟩) (hd B)⟩
  have h1 : its.size = vs.length := by
    have := congrArg List.length hv
    rw [List.length_map, List.length_map, Array.length_toList] at this; exact this
  rw [h1]; exact Nat.le_trans hl (by decide)
end
/-! ### the law's end -/
def rLaw : List PyData → PyData → Prop := fun ds d => ∃ ns : List Int, ns.length ≤ 63 ∧ ds = [.list (ns.map .int)] ∧ d = .bool true
theorem law_walk {k : Nat} (hk : k ≤ 40) {l : PySem.W.OpenLaw} {q : Program} {loose : List Str} {XP : (Str → Option Value) → Heap → Prop} {YP : World → Heap → Prop} {d : DefRec} {K : Params → PySem.W.Frag} {x : Str} (hn : l.most = some 63) (hdf : d.params.defaults = [])
    (hY : ∀ (w : World) (h : Heap), YP w h → (K w.params).In h)
    (F : ∀ (w : World) (mg : Str → Option Value) (fa : Addr) (h : Heap), (K w.params).In h → h.Ns mainGlobals mg → mg d.name = some (.ref fa) →
      ∃ fd : FuncData, (∀ (s : Shared) (u : Value), BindsTo s fd ⟨[u], []⟩ [(x, u)]) ∧ ∀ base : Heap, (K w.params).In base → base.Ns mainGlobals mg → FnOk l.prog w (K w.params) mg base CX0 k fa fd [x] (spV (K w.params) rLaw)) :
    PySem.W.WalkO q loose XP YP l.row.toRowW d [] (fun f vs => PySem.call f vs) :=
  L2.walk_of (n := 63) (k := k) (x := x) (CX := fun _ => CX0) (sp := fun w => spV (K w.params) rLaw) hn (by decide) hdf (Room.mono (k := 40) ⟨rfl, by decide, by decide⟩ hk) hY F
    (fun w H a ns hl _ hS => ⟨H, [.list (ns.map .int)], .bool true, Ex.rfl', .cons (.lst hS (dpa_ints ns)) .nil, ⟨ns, hl, rfl, rfl⟩, fun v B2 H2 _ h => by cases h; rfl⟩) fun _ _ _ _ _ z => z
end Pd

namespace Pd
open PySem L2
/-! ### side conditions that are closed by one sure way, else the rule does not count -/
structure SideD (p : Prop) : Prop where
  out : p
structure SideA (p : Prop) : Prop where
  out : p
structure SideR (p : Prop) : Prop where
  out : p
section
variable {G : Gd} {W : WX} {Γ : List Ent} {P : Post} {ta tb tc te : TE} {x y z d : PyData} {i j k : Int} {p q : Str} {ds es : List PyData} {t : TA}
theorem c_eq_strT (ha : EvD G ta Γ (.str p)) (hb : EvD G tb Γ (.str q)) (h : SideD (p = q)) : EvD G (tOp (rEqA G.K) ta tb) Γ (.bool true) := ev_to (ev_eq_str ha hb) (by rw [decide_eq_true h.out])
theorem c_eq_strF (ha : EvD G ta Γ (.str p)) (hb : EvD G tb Γ (.str q)) (h : SideD (¬ p = q)) : EvD G (tOp (rEqA G.K) ta tb) Γ (.bool false) := ev_to (ev_eq_str ha hb) (by rw [decide_eq_false h.out])
theorem c_ne_strT (ha : EvD G ta Γ (.str p)) (hb : EvD G tb Γ (.str q)) (h : SideD (¬ p = q)) : EvD G (tOp (rNeA G.K) ta tb) Γ (.bool true) := ev_to (ev_ne_str ha hb) (by rw [decide_eq_false h.out]; rfl)
theorem c_ne_strF (ha : EvD G ta Γ (.str p)) (hb : EvD G tb Γ (.str q)) (h : SideD (p = q)) : EvD G (tOp (rNeA G.K) ta tb) Γ (.bool false) := ev_to (ev_ne_str ha hb) (by rw [decide_eq_true h.out]; rfl)
theorem c_in_listT (ha : EvD G ta Γ (.str p)) (hb : EvD G tb Γ (.list ds)) (hf : SideD (ds.all flatD = true)) (h : SideD (inD (.str p) ds = true)) : EvD G (tOp (rInA G.K) ta tb) Γ (.bool true) := ev_to (ev_in_list ha hb rfl hf.out) (by rw [h.out])
theorem c_in_listF (ha : EvD G ta Γ (.str p)) (hb : EvD G tb Γ (.list ds)) (hf : SideD (ds.all flatD = true)) (h : SideD (inD (.str p) ds = false)) : EvD G (tOp (rInA G.K) ta tb) Γ (.bool false) := ev_to (ev_in_list ha hb rfl hf.out) (by rw [h.out])
theorem c_notIn_listT (ha : EvD G ta Γ (.str p)) (hb : EvD G tb Γ (.list ds)) (hf : SideD (ds.all flatD = true)) (h : SideD (inD (.str p) ds = false)) : EvD G (tOp (rNotInA G.K) ta tb) Γ (.bool true) := ev_to (ev_notIn_list ha hb rfl hf.out) (by rw [h.out]; rfl)
theorem c_notIn_listF (ha : EvD G ta Γ (.str p)) (hb : EvD G tb Γ (.list ds)) (hf : SideD (ds.all flatD = true)) (h : SideD (inD (.str p) ds = true)) : EvD G (tOp (rNotInA G.K) ta tb) Γ (.bool false) := ev_to (ev_notIn_list ha hb rfl hf.out) (by rw [h.out]; rfl)
theorem c_ixL (ha : EvD G ta Γ (.list ds)) (h : SideR (atI ds i = some d)) : EvD G (tOp (rIx G.K) ta (tC (.int i))) Γ d := ev_ix_list ha ev_int h.out
theorem c_ixT (ha : EvD G ta Γ (.tuple ds)) (hb : EvD G tb Γ (.int i)) (h : SideR (atI ds i = some d)) : EvD G (tOp (rIx G.K) ta tb) Γ d := ev_ix_tup ha hb h.out
theorem c_ixLs (ha : EvD G ta Γ (.list ds)) (hb : EvD G tb Γ (.int i)) (h : SideR (atI ds i = some d)) : EvD G (tOp (rIx G.K) ta tb) Γ d := ev_ix_list ha hb h.out
theorem in_ints {i : Int} : ∀ ns : List Int, inD (.int i) (ns.map .int) = decide (i ∈ ns)
  | [] => rfl
  | n :: ns => by
    have ih := in_ints (i := i) ns
    unfold inD at ih ⊢
    rw [List.map_cons, List.any_cons, ih]
    show (decide (n = i) || decide (i ∈ ns)) = _
    rw [← Bool.decide_or]
    exact decide_eq_decide.mpr ⟨fun h => h.elim (fun e => e ▸ List.mem_cons_self) fun e => List.mem_cons_of_mem _ e, fun h => (List.mem_cons.mp h).imp (fun e => e.symm) id⟩
theorem flat_ints (ns : List Int) : (ns.map PyData.int).all flatD = true := List.all_eq_true.mpr fun d hd => (List.mem_map.mp hd).elim fun _ h => h.2 ▸ rfl
theorem c_in_intsT {ns : List Int} (ha : EvD G ta Γ (.int i)) (hb : EvD G tb Γ (.tuple (ns.map .int))) : EvD G (tOp (rInA G.K) ta tb) Γ (.bool (decide (i ∈ ns))) := ev_to (ev_in_tup ha hb rfl (flat_ints ns)) (by rw [in_ints])
theorem c_in_intsL {ns : List Int} (ha : EvD G ta Γ (.int i)) (hb : EvD G tb Γ (.list (ns.map .int))) : EvD G (tOp (rInA G.K) ta tb) Γ (.bool (decide (i ∈ ns))) := ev_to (ev_in_list ha hb rfl (flat_ints ns)) (by rw [in_ints])
theorem c_notIn_intsT {ns : List Int} (ha : EvD G ta Γ (.int i)) (hb : EvD G tb Γ (.tuple (ns.map .int))) : EvD G (tOp (rNotInA G.K) ta tb) Γ (.bool (!decide (i ∈ ns))) := ev_to (ev_notIn_tup ha hb rfl (flat_ints ns)) (by rw [in_ints])
theorem c_in_int2 {a b : Int} (ha : EvD G ta Γ (.int i)) (hb : EvD G tb Γ (.list [.int a, .int b])) : EvD G (tOp (rInA G.K) ta tb) Γ (.bool (decide (i = a) || decide (i = b))) := ev_to (c_in_intsL (ns := [a, b]) ha hb) (by rw [← Bool.decide_or]; congr 1; exact decide_eq_decide.mpr (by simp))
theorem it_to {wi : TI} {xs ys : List PyData} (h : ItD G wi Γ xs) (e : xs = ys) : ItD G wi Γ ys := e ▸ h
theorem cut_last {α : Type} (f : α → PyData) (xs : List α) : cutD (xs.map f) none (some (-1)) = xs.dropLast.map f := by
  unfold cutD
  rw [HT.sIx_none, List.drop_zero, Nat.sub_zero, List.length_map]
  have e : HT.sIx xs.length xs.length (some (-1)) = xs.length - 1 := by
    simp only [HT.sIx]
    rw [if_pos (by decide)]; omega
  rw [e, ← List.map_take, List.dropLast_eq_take]
theorem ev_cut_last {α : Type} {f : α → PyData} {xs : List α} (ha : EvD G ta Γ (.list (xs.map f))) : EvD G (tSl (rSlA G.K) ta tNoPart (tPart (tUn (rU fun i => V.int (-i)) (tC (V.int 1))))) Γ (.list (xs.dropLast.map f)) :=
  ev_to (ef_sl_list ha eo_none (eo_some (ev_neg ev_int))).ev (by rw [← cut_last])
theorem lay_ints : ∀ ns : List Int, PyData.canLayAll0 (ns.map .int) = true
  | [] => by simp [PyData.canLayAll0]
  | n :: ns => by simp [PyData.canLayAll0, PyData.canLay0, lay_ints ns]
theorem depth_ints : ∀ ns : List Int, PyData.depthAll (ns.map .int) ≤ 1
  | [] => by simp [PyData.depthAll]
  | n :: ns => by have := depth_ints ns; simp [PyData.depthAll, PyData.depth]; omega
theorem shaped_ints (ns : List Int) : SeqAt.shaped (.list (ns.map .int)) = true := by
  have := depth_ints ns
  simp [SeqAt.shaped, PyData.canLay0, PyData.depth, lay_ints]; omega
theorem eqv_nil (ns : List Int) : PyData.eqv (.list (ns.map .int)) (.list []) = decide (ns = []) := by cases ns <;> simp [PyData.eqv, PyData.eqvAll]
theorem eqv_ints : ∀ ns ms : List Int, PyData.eqvAll (ns.map .int) (ms.map .int) = decide (ns = ms)
  | [], [] => by simp [PyData.eqvAll]
  | [], m :: ms => by simp [PyData.eqvAll]
  | n :: ns, [] => by simp [PyData.eqvAll]
  | n :: ns, m :: ms => by rw [Bool.eq_iff_iff]; simp [PyData.eqvAll, PyData.eqv, eqv_ints ns ms]
theorem c_eq_ints {ns ms : List Int} (ha : EvD G ta Γ (.list (ns.map .int))) (hb : EvD G tb Γ (.list (ms.map .int))) : EvD G (tOp (rEqA G.K) ta tb) Γ (.bool (decide (ns = ms))) := ev_to (ev_eq_any ha hb (shaped_ints ns) (shaped_ints ms)) (by rw [← eqv_ints]; rfl)
theorem c_ne_ints {ns ms : List Int} (ha : EvD G ta Γ (.list (ns.map .int))) (hb : EvD G tb Γ (.list (ms.map .int))) : EvD G (tOp (rNeA G.K) ta tb) Γ (.bool (!decide (ns = ms))) := ev_to (ev_ne_any ha hb (shaped_ints ns) (shaped_ints ms)) (by rw [← eqv_ints]; rfl)
theorem atI_lastI {ns : List Int} (h : ns ≠ []) : atI (ns.map PyData.int) (-1) = some (.int (ns.getLastD 0)) := by
  obtain ⟨ys, y, rfl⟩ : ∃ ys y, ns = ys ++ [y] := ⟨_, _, (List.dropLast_concat_getLast h).symm⟩
  unfold atI
  rw [List.length_map, List.length_append, List.length_singleton]
  have e : ixN (ys.length + 1) (-1) = some ys.length := by unfold ixN; simp; omega
  rw [e]; simp
theorem c_ix_last {ns : List Int} (ha : EvD G ta Γ (.list (ns.map .int))) (h : Side (ns ≠ [])) : EvD G (tOp (rIx G.K) ta (tUn (rU fun i => V.int (-i)) (tC (V.int 1)))) Γ (.int (ns.getLastD 0)) := ev_ix_list ha (ev_neg ev_int) (atI_lastI h.out)
theorem c_ix_lastT {ns : List Int} (ha : EvD G ta Γ (.tuple (ns.map .int))) (h : Side (ns ≠ [])) : EvD G (tOp (rIx G.K) ta (tUn (rU fun i => V.int (-i)) (tC (V.int 1)))) Γ (.int (ns.getLastD 0)) := ev_ix_tup ha (ev_neg ev_int) (atI_lastI h.out)
theorem c_ne_nil {ns : List Int} (ha : EvD G ta Γ (.list (ns.map .int))) : EvD G (tOp (rNeA G.K) ta (tLst tNil)) Γ (.bool (!decide (ns = []))) := ev_to (ev_ne_any ha (ef_lst ea_nil (by decide)).ev (shaped_ints ns) rfl) (by rw [eqv_nil])
theorem et_no {tt : TT} (h : False) : EvT G tt Γ false := h.elim
theorem ev_no (h : False) : EvD G te Γ (.bool false) := h.elim
/-- one turn of a while -/
def WhS (G : Gd) (W : WX) (P : Post) (tt : TT) (tb : TS) (I : Nat → List Ent → Prop) (m : Nat) (Γ : List Ent) : Prop :=
  ∃ b, EvT G tt Γ b ∧ (b = true → WpD G W tb Γ { P with nx := fun Γ2 => ∃ m', m' < m ∧ I m' Γ2, ct := fun Γ2 => ∃ m', m' < m ∧ I m' Γ2, bk := P.nx }) ∧ (b = false → P.nx Γ)
theorem wh_mk {tt : TT} {tb : TS} {I : Nat → List Ent → Prop} {m : Nat} {b : Bool} (h : EvT G tt Γ b) (h1 : b = true → WpD G W tb Γ { P with nx := fun Γ2 => ∃ m', m' < m ∧ I m' Γ2, ct := fun Γ2 => ∃ m', m' < m ∧ I m' Γ2, bk := P.nx }) (h2 : b = false → P.nx Γ) : WhS G W P tt tb I m Γ := ⟨b, h, h1, h2⟩
theorem wp_wh {tt : TT} {tb : TS} (I : Nat → List Ent → Prop) (m : Nat) (h0 : I m Γ) (hs : ∀ m Γ', I m Γ' → WhS G W P tt tb I m Γ') : WpD G W (tWhile tt tb) Γ P := wp_while I m h0 hs
/-- a for as a fold: the context C of a state and of the target's slot; J: what is kept, by count -/
theorem wp_fold {α σ : Type} {wi : TI} {j : Nat} {tb : TS} {c : α → PyData} {zs : List α} (step : σ → α → σ) (s0 : σ) (e0 : Ent) (C : σ → Ent → List Ent) (J : Nat → σ → Prop) (hi : ItD G wi Γ (zs.map c)) (h0 : Γ = C s0 e0) (hJ : J 0 s0)
    (hs : ∀ i s x e, x ∈ zs → J i s → i < zs.length → WpD G W tb ((C s e).set j (.dat (c x))) { P with nx := fun Γ' => J (i + 1) (step s x) ∧ ∃ e, Γ' = C (step s x) e, ct := fun Γ' => J (i + 1) (step s x) ∧ ∃ e, Γ' = C (step s x) e, bk := P.nx })
    (hd : ∀ e, J zs.length (zs.foldl step s0) → P.nx (C (zs.foldl step s0) e)) : WpD G W (tFor wi (gName j) tb) Γ P := by
  refine wp_forn (xs := zs.map c) (fun i Γ' => J i ((zs.take i).foldl step s0) ∧ ∃ e, Γ' = C ((zs.take i).foldl step s0) e) hi ⟨hJ, e0, h0⟩ ?_ ?_
  · rintro i x Γ' hx ⟨hj, e, rfl⟩
    rw [List.getElem?_map] at hx
    obtain ⟨z, hz, rfl⟩ := Option.map_eq_some_iff.mp hx
    have hm : z ∈ zs := List.mem_of_getElem? hz
    have hl : i < zs.length := (List.getElem?_eq_some_iff.mp hz).1
    have e1 : (zs.take (i + 1)).foldl step s0 = step ((zs.take i).foldl step s0) z := by
      rw [List.take_add_one, hz, List.foldl_append]; rfl
    rw [e1]
    exact hs i _ z e hm hj hl
  · rintro Γ' ⟨hj, e, rfl⟩
    rw [List.length_map, List.take_length] at *
    exact hd e hj
theorem w_app {i : Nat} (hi : SideR (Γ[i]? = some (.own ds))) (h : EvD G te Γ d) (hz : Side (ds.length < 100000)) (k : P.nx (Γ.set i (.own (ds ++ [d])))) : WpD G W (tDrop (tBM G.K "list" rAppend (tVar i) (tCons te tNil))) Γ P := wp_app hi.out h hz.out k
theorem c_ixTints {ns : List Int} (ha : EvD G ta Γ (.tuple (ns.map .int))) (hb : EvD G tb Γ (.int i)) (h : Side (0 ≤ i ∧ i < ns.length)) : EvD G (tOp (rIx G.K) ta tb) Γ (.int (ns.getD i.toNat 0)) := ev_ix_tup ha hb (atI_ints h.out.1 h.out.2)
end
/-! ### the place of a text in a list of texts -/
theorem kpe_index {X : Cx} {K : PySem.W.Frag} {o e : Expr} {to te : TE} {apos cpos : Pos} (hK : X.K = K) (ho : PE X o to) (he : PE X e te) (hbase : attributeBase o "index" X.env (eval o X.env) = eval o X.env := by rfl)
    (hfew : ((backTo cpos (starEach [e] X.env)).all (fun x => !x.1) && (backToKw cpos (keywordEach [] X.env)).all (fun x => x.1.isSome)
      && decide ([e].length + ([] : List Keyword).length + (if ([] : List Keyword).isEmpty then 0 else 1) < 30)) = true := by rfl)
    (hline : (apos.endLine == cpos.line) = true := by rfl) (hs : starEach [e] X.env = (false, eval e X.env) :: starEach [] X.env := by rfl) (hplain : (backTo cpos (starEach [] X.env)).any (·.1) = false := by rfl) :
    PE X (.Call (.Attribute o "index" apos) [e] [] cpos) (tBM K "list" (rIndex K) to (tCons te tNil)) := hK ▸ pe_bm PySem.F.plainAttrs_list PySem.F.slot_list_index PySem.F.type_list_index mt_index ho (pa_cons he pa_nil hs) hbase hfew hline hs hplain
section
variable {G : Gd} {Γ : List Ent} {to te : TE}
theorem ev_index {ws : List Str} {z : Str} {j : Nat} (ha : EvD G to Γ (.list (ws.map .str))) (hb : EvD G te Γ (.str z)) (hj : ws[j]? = some z) (hn : ∀ i, i < j → ws[i]? ≠ some z) : EvD G (tBM G.K "list" (rIndex G.K) to (tCons te tNil)) Γ (.int (j : Int)) := fun B0 H0 B H σ E Q k =>
  ha B0 H0 B H σ E _ fun v B1 H1 s1 d1 => by
    cases d1 with
    | lst g1 a1 =>
      refine ⟨.inl ⟨rfl, _, s1.bh.sl g1⟩, hb B0 H0 B1 H1 σ (E.step s1) _ fun w B2 H2 s2 d2 => ?_⟩
      cases d2
      have e := dpa_strs_inv a1
      subst e
      refine ⟨_, _, _, j, .str z, rfl, rfl, (s2.hh.sl (s1.bh.sl g1)), rfl, ?_, ?_, ?_, ?_, k _ B2 H2 (s1.trans s2) (.int _)⟩
      · exact List.all_eq_true.mpr fun x hx => (List.mem_map.mp hx).elim fun _ h => h.2 ▸ rfl
      · rw [List.getElem?_map, hj]; rfl
      · exact beq_self_eq_true z
      · intro m z' hm hz
        rw [List.getElem?_map] at hz
        obtain ⟨y, hy, rfl⟩ := Option.map_eq_some_iff.mp hz
        exact beq_eq_false_iff_ne.mpr fun e => hn m hm (by rw [hy, e])
end
/-! ### a dict that the top has written: texts to whole numbers -/
structure GDic (K : PySem.W.Frag) (w : World) (mg : Str → Option Value) (x : Str) (a : Addr) (kvs : List (Str × Int)) : Prop where
  g : mg x = some (.ref a)
  d : ∀ z n, kvs.lookup z = some n → KDct K w a z (.int n)
section
variable {G : Gd} {w : World} {Γ : List Ent} {tb : TE} {X : Cx} {K : PySem.W.Frag}
theorem kx_dict (hK : X.K = K) (hw : X.w = w) : IxR X (rIxD K w) := by subst hK hw; exact ix_kdict
theorem ev_ixD {a : Addr} {z : Str} {n : Int} {kvs : List (Str × Int)} {mg : Str → Option Value} {x : Str} (D : GDic G.K w mg x a kvs) (hb : EvD G tb Γ (.str z)) (h : kvs.lookup z = some n) : EvD G (tOp (rIxD G.K w) (tC (.ref a)) tb) Γ (.int n) := fun B0 H0 B H σ E Q k =>
  hb B0 H0 B H σ E _ fun v B1 H1 s1 d1 => by cases d1; exact ⟨a, z, _, rfl, rfl, D.d z n h, k _ B1 H1 s1 (.int n)⟩
theorem c_ixD {a : Addr} {z : Str} {n : Int} {kvs : List (Str × Int)} {mg : Str → Option Value} {x : Str} (D : SideA (GDic G.K w mg x a kvs)) (hb : EvD G tb Γ (.str z)) (h : SideR (kvs.lookup z = some n)) : EvD G (tOp (rIxD G.K w) (tC (.ref a)) tb) Γ (.int n) := ev_ixD D.out hb h.out
theorem lookup_mem' {z : Str} {n : Int} : ∀ {kvs : List (Str × Int)}, kvs.lookup z = some n → (z, n) ∈ kvs
  | [], h => by cases h
  | (k, v) :: r, h => by
    rw [List.lookup_cons] at h
    split at h
    · rename_i e
      have e : z = k := beq_iff_eq.mp e
      subst e; cases h; exact List.mem_cons_self
    · exact List.mem_cons_of_mem _ (lookup_mem' h)
theorem gdic_mk {h : Heap} {mg : Str → Option Value} {x : Str} {a : Addr} (X : K.In h) (G : h.Ns mainGlobals mg) {es : Array DictEntry} {n : Nat} {kvs : List (Str × Int)} (e : PySem.W.nsIn K mainGlobals x = some (some (.ref a))) (l : K.lookup a = some ⟨.type "dict", none, .dict es n, #[]⟩) (hk : PySem.W.KeysLit w.params es.toList)
    (hv : ∀ p ∈ kvs, ∃ t, PySem.W.nsIn K a p.1 = some (some (.int p.2 t))) : GDic K w mg x a kvs :=
  ⟨PySem.W.mg_of X G e, fun z n h => (hv _ (lookup_mem' h)).elim fun t q => ⟨es, _, _, l, hk, q, ⟨t, rfl⟩⟩⟩
end
/-! ### a list of a slot's own, read -/
section
variable {G : Gd} {W : WX} {Γ : List Ent} {P : Post} {te : TE} {d : PyData} {ds es : List PyData}
theorem et_borrow {i : Nat} {tt : TT} {b : Bool} (hi : Γ[i]? = some (.own ds)) (h : EvT G tt (Γ.set i (.dat (.list ds))) b) : EvT G tt Γ b := fun B0 H0 B H σ E Q k => by
  obtain ⟨B1, E1, st⟩ := E.borrow hi
  exact h B0 H0 B1 H σ E1 Q fun B2 H2 s => (st B2 H2 s).elim fun B3 s3 => k B3 H2 s3
theorem dp_flat_any {K : PySem.W.Frag} {B B' : Hp} {v : V} {d : PyData} (f : flatD d = true) (h : Dp K B v d) : Dp K B' v d := by
  cases h with
  | non => exact .non
  | bl b => exact .bl b
  | int i => exact .int i
  | str x => exact .str x
  | lst _ _ => cases f
  | tup _ _ => cases f
theorem ev_borrow {i : Nat} (hi : Γ[i]? = some (.own ds)) (f : flatD d = true) (h : EvD G te (Γ.set i (.dat (.list ds))) d) : EvD G te Γ d := fun B0 H0 B H σ E Q k => by
  obtain ⟨B1, E1, st⟩ := E.borrow hi
  exact h B0 H0 B1 H σ E1 Q fun v B2 H2 s d2 => (st B2 H2 s).elim fun B3 s3 => k v B3 H2 s3 (dp_flat_any f d2)
theorem wp_clear {i : Nat} (hi : SideR (Γ[i]? = some (.own ds))) (k : P.nx (Γ.set i (.own []))) : WpD G W (tDrop (tBM0 G.K "list" rClear (tVar i))) Γ P := fun B0 H0 B H σ D E M => by
  obtain ⟨p, vs, e1, e2, e3, e4, e5⟩ := E.own hi.out
  exact ⟨.ref p, e1, .inl ⟨rfl, vs, SqL.of e4⟩, p, vs, rfl, rfl, e4, M.nx _ _ _ _ k Ex.rfl' (E.mut_own hi.out e1 .nil)⟩
end
/-! ### promises of a new list -/
def spF (K : PySem.W.Frag) (R : List PyData → List PyData → Prop) : Sp := fun vs H Q _ => ∃ B ds es, Ex B H ∧ DpAll K B vs ds ∧ R ds es ∧ ∀ p us B2 H2, Stp B H B2 H2 → H2 p = none → DpAll K B2 us es → Q (.ref p) (upd H2 p (.lst us))
section
variable {P : Program} {w : World} {K : PySem.W.Frag} {mg : Str → Option Value} {base : Heap}
theorem fn_okF {x qual : Str} {st : Stmt} {f : Addr} {fd : FuncData} {N ps : List Str} {k : Nat} {R : List PyData → List PyData → Prop} (F : Fun K x qual st f fd) (S : FnScope N ps (defScope st)) (len : ∀ ds d, R ds d → ds.length = ps.length)
    (hb : ∀ (cdv : Value) (A : Around) (outer : List Env) (s : Shared) (H : Hp) (E : XK), Room k (A.deeper (PyProof.Rows.envOfC qual (defScope st) s.heap.objs.size f cdv)) →
      ∃ te, PSs (cxOf CX0 P w K mg base N qual (defScope st) f cdv A outer s H E).nox (defBody st) (tRet te) ∧ ∀ ds es, R ds es → EvF (.pure K) te (entry N ds) es) : FnOk P w K mg base CX0 (k + 1) f fd ps (spF K R) := by
  refine F.ok S (fun vs H Q E h => ?_) (fun cdv A outer s H vs Q E hr h => ?_)
  · obtain ⟨B, ds, d, e, hd, hR, _⟩ := h
    rw [dpa_len hd]; exact len ds d hR
  · obtain ⟨B, ds, es, e, hd, hR, q⟩ := h
    obtain ⟨te, ht, hw⟩ := hb cdv A outer s H E hr
    exact ⟨_, ht, hw ds es hR B H B H _ (entry_env e hd) _ fun p us B2 H2 s2 h0 d2 => q p us B2 H2 s2 h0 d2⟩
end
section
variable {G : Gd} {Γ : List Ent} {ta : TA} {ds es : List PyData} {E : XK}
theorem ef_call {R : List PyData → List PyData → Prop} (h : EvA G ta Γ ds) (hR : R ds es) : EvF G (tCall (spF G.K R) [] E ta) Γ es := fun B0 H0 B H σ En Q k =>
  h B0 H0 B H σ En _ fun vs B1 H1 s1 d1 => ⟨B1, ds, es, s1.bh, by rw [List.append_nil]; exact d1, hR, fun p us B2 H2 s2 h0 d2 => k p us B2 H2 (s1.trans s2) h0 d2⟩
end
/-! ### promises of which only a property of the answer is told -/
def spE (K : PySem.W.Frag) (R : List PyData → (PyData → Prop) → Prop) : Sp := fun vs H Q _ => ∃ B ds N, Ex B H ∧ DpAll K B vs ds ∧ R ds N ∧ ∀ d v B2 H2, N d → Stp B H B2 H2 → Dp K B2 v d → Q v H2
section
variable {P : Program} {w : World} {K : PySem.W.Frag} {mg : Str → Option Value} {base : Heap}
theorem fn_okE {x qual : Str} {st : Stmt} {f : Addr} {fd : FuncData} {N ps : List Str} {k : Nat} {R : List PyData → (PyData → Prop) → Prop} (F : Fun K x qual st f fd) (S : FnScope N ps (defScope st)) (len : ∀ ds d, R ds d → ds.length = ps.length)
    (hb : ∀ (cdv : Value) (A : Around) (outer : List Env) (s : Shared) (H : Hp) (E : XK), Room k (A.deeper (PyProof.Rows.envOfC qual (defScope st) s.heap.objs.size f cdv)) →
      ∃ t, PSs (cxOf CX0 P w K mg base N qual (defScope st) f cdv A outer s H E).nox (defBody st) t ∧ ∀ ds d, R ds d → WpD (.pure K) WNo t (entry N ds) { nx := fun _ => d .none, rt := d }) : FnOk P w K mg base CX0 (k + 1) f fd ps (spE K R) := by
  refine F.ok S (fun vs H Q E h => ?_) (fun cdv A outer s H vs Q E hr h => ?_)
  · obtain ⟨B, ds, d, e, hd, hR, _⟩ := h
    rw [dpa_len hd]; exact len ds d hR
  · obtain ⟨B, ds, N', e, hd, hR, q⟩ := h
    obtain ⟨t, ht, hw⟩ := hb cdv A outer s H E hr
    refine ⟨t, ht, hw ds N' hR B H B H _ _ (entry_env e hd) ⟨fun Γ2 B2 H2 σ2 a b c => ?_, fun _ _ _ _ a => a.elim, fun _ _ _ _ a => a.elim, fun d' v B2 H2 a s2 _ d2 => ?_, fun _ _ _ _ _ a => a.elim⟩⟩
    · exact q .none .non B2 H2 a c.stp .non
    · exact q d' v B2 H2 a s2 d2
end
section
variable {G : Gd} {W : WX} {Γ : List Ent} {P : Post} {ta : TA} {ds : List PyData} {E : XK}
theorem wp_asgE {i : Nat} {R : List PyData → (PyData → Prop) → Prop} {N : PyData → Prop} (h : EvA G ta Γ ds) (hR : R ds N) (k : ∀ d, N d → P.nx (Γ.set i (.dat d))) : WpD G W (tAsg (tCall (spE G.K R) [] E ta) (gName i)) Γ P := fun B0 H0 B H σ D En M =>
  h B0 H0 B H σ En _ fun vs B1 H1 s1 d1 => ⟨B1, ds, N, s1.bh, by rw [List.append_nil]; exact d1, hR, fun d v B2 H2 hd s2 d2 => M.nx _ _ _ _ (k d hd) (s1.trans s2).bb ((En.step (s1.trans s2)).set_dat i d2)⟩
theorem wp_retE {R : List PyData → (PyData → Prop) → Prop} {N : PyData → Prop} (h : EvA G ta Γ ds) (hR : R ds N) (k : ∀ d, N d → P.rt d) : WpD G W (tRet (tCall (spE G.K R) [] E ta)) Γ P := fun B0 H0 B H σ D En M =>
  h B0 H0 B H σ En _ fun vs B1 H1 s1 d1 => ⟨B1, ds, N, s1.bh, by rw [List.append_nil]; exact d1, hR, fun d v B2 H2 hd s2 d2 => M.rt d v B2 H2 (k d hd) (En.stp.trans (s1.trans s2)) (s1.trans s2).bb d2⟩
end
end Pd

namespace Pd
open PySem L2
/-! ### from the leaves up: what an operator makes of two known values -/
section
variable {G : Gd} {Γ : List Ent} {ta tb te : TE} {tt : TT} {tA : TA} {x y z d : PyData} {i j k : Int} {p q : Str} {ds es : List PyData} {a b : Bool} {ns ms : List Int} {r r2 : R2}
theorem id_c {v : V} (h : EvD G (tC v) Γ d) : EvD G (tC v) Γ d := h
theorem id_var {i : Nat} (h : EvD G (tVar i) Γ d) : EvD G (tVar i) Γ d := h
theorem id_op (h : EvD G (tOp r ta tb) Γ d) : EvD G (tOp r ta tb) Γ d := h
theorem id_cb {rr : List V → Hp → VK → Prop} (h : EvD G (tCB rr tA) Γ d) : EvD G (tCB rr tA) Γ d := h
theorem id_call {sp : Sp} {l : List V} {E : XK} (h : EvD G (tCall sp l E tA) Γ d) : EvD G (tCall sp l E tA) Γ d := h
theorem id_D (h : EvD G te Γ d) : EvD G te Γ d := h
theorem id_F (h : EvF G te Γ ds) : EvF G te Γ ds := h
theorem id_T (h : EvT G tt Γ a) : EvT G tt Γ a := h
theorem id_A (h : EvA G tA Γ ds) : EvA G tA Γ ds := h
theorem id_O {to : TO} {o : Option Int} (h : EvO G to Γ o) : EvO G to Γ o := h
theorem id_I {wi : TI} (h : ItD G wi Γ ds) : ItD G wi Γ ds := h
theorem id_od (h : OpD G r x y z) : OpD G r x y z := h
theorem id_ca {rr : List V → Hp → VK → Prop} (h : CaD G rr ds z) : CaD G rr ds z := h
theorem id_wp {W : WX} {t : TS} {P : Post} (h : WpD G W t Γ P) : WpD G W t Γ P := h
theorem id_R {W : WX} {rs : Res} (h : EvR G W te Γ rs) : EvR G W te Γ rs := h
theorem od_to (h : OpD G r x y z) (e : z = d) : OpD G r x y d := e ▸ h
theorem oq_add_str (h : Side (p.length + q.length ≤ 100000)) : OpD G (rAddA G.K) (.str p) (.str q) (.str (p ++ q)) := od_add_str h.out
theorem oq_add_tup (hx : Side (ds ≠ [])) (h : Side (ds.length + es.length ≤ 100000)) : OpD G (rAddA G.K) (.tuple ds) (.tuple es) (.tuple (ds ++ es)) := od_add_tup hx.out h.out
theorem oq_add_list (h : Side (ds.length + es.length ≤ 100000)) : OpD G (rAddA G.K) (.list ds) (.list es) (.list (ds ++ es)) := fun B H v w e d1 d2 Q k => by
  cases d1 with
  | lst h1 a1 =>
    cases d2 with
    | lst h2 a2 =>
      refine .inr (.inr (.inl ⟨_, _, _, _, rfl, rfl, e.sl h1, e.sl h2, Evl.sz_of (by rw [dpa_len a1, dpa_len a2]; exact h.out), fun p hp => ?_⟩))
      exact k (.ref p) _ _ ((Stp.refl e).new hp) (.lst (SqL.of upd_same) ((Ex.new (e.back hp)).dpa (dpa_app a1 a2)))
theorem oq_sub : OpD G Pd.rSub (.int i) (.int j) (.int (i - j)) := od_I0 fun _ => .int _
theorem oq_mul (h : Side (CMul i j)) : OpD G rMul (.int i) (.int j) (.int (i * j)) := od_I h.out fun _ => .int _
theorem oq_div (h : Side (CDiv i j)) : OpD G rDiv (.int i) (.int j) (.int (i / j)) := od_I h.out fun _ => .int _
theorem oq_mod (h : Side (0 < j)) : OpD G rMod (.int i) (.int j) (.int (i % j)) := od_I h.out fun _ => .int _
theorem oq_eq_strT (h : SideD (p = q)) : OpD G (rEqA G.K) (.str p) (.str q) (.bool true) := od_to od_eq_str (by rw [decide_eq_true h.out])
theorem oq_eq_strF (h : SideD (¬ p = q)) : OpD G (rEqA G.K) (.str p) (.str q) (.bool false) := od_to od_eq_str (by rw [decide_eq_false h.out])
theorem oq_ne_strT (h : SideD (¬ p = q)) : OpD G (rNeA G.K) (.str p) (.str q) (.bool true) := od_to od_ne_str (by rw [decide_eq_false h.out]; rfl)
theorem oq_ne_strF (h : SideD (p = q)) : OpD G (rNeA G.K) (.str p) (.str q) (.bool false) := od_to od_ne_str (by rw [decide_eq_true h.out]; rfl)
theorem oq_eq_ints : OpD G (rEqA G.K) (.list (ns.map .int)) (.list (ms.map .int)) (.bool (decide (ns = ms))) := od_to (od_eq_any (shaped_ints ns) (shaped_ints ms)) (by rw [← eqv_ints]; rfl)
theorem oq_ne_ints : OpD G (rNeA G.K) (.list (ns.map .int)) (.list (ms.map .int)) (.bool (!decide (ns = ms))) := od_to (od_ne_any (shaped_ints ns) (shaped_ints ms)) (by rw [← eqv_ints]; rfl)
theorem oq_ne_nil : OpD G (rNeA G.K) (.list (ns.map .int)) (.list []) (.bool (!decide (ns = []))) := od_to (od_ne_any (shaped_ints ns) rfl) (by rw [eqv_nil])
theorem oq_eq_nil : OpD G (rEqA G.K) (.list (ns.map .int)) (.list []) (.bool (decide (ns = []))) := od_to (od_eq_any (shaped_ints ns) rfl) (by rw [eqv_nil])
theorem oq_eq_any (hx : Side (SeqAt.shaped x = true)) (hy : Side (SeqAt.shaped y = true)) : OpD G (rEqA G.K) x y (.bool (PyData.eqv x y)) := od_eq_any hx.out hy.out
theorem oq_ne_any (hx : Side (SeqAt.shaped x = true)) (hy : Side (SeqAt.shaped y = true)) : OpD G (rNeA G.K) x y (.bool (!PyData.eqv x y)) := od_ne_any hx.out hy.out
theorem oq_in_intsT : OpD G (rInA G.K) (.int i) (.tuple (ns.map .int)) (.bool (decide (i ∈ ns))) := od_to (od_in rfl (flat_ints ns) (.inr rfl)) (by rw [in_ints])
theorem oq_in_intsL : OpD G (rInA G.K) (.int i) (.list (ns.map .int)) (.bool (decide (i ∈ ns))) := od_to (od_in rfl (flat_ints ns) (.inl rfl)) (by rw [in_ints])
theorem oq_notIn_intsT : OpD G (rNotInA G.K) (.int i) (.tuple (ns.map .int)) (.bool (!decide (i ∈ ns))) := od_to (od_notIn rfl (flat_ints ns) (.inr rfl)) (by rw [in_ints])
theorem oq_in_int2 {a b : Int} : OpD G (rInA G.K) (.int i) (.list [.int a, .int b]) (.bool (decide (i = a) || decide (i = b))) := od_to (oq_in_intsL (ns := [a, b])) (by rw [← Bool.decide_or]; congr 1; exact decide_eq_decide.mpr (by simp))
theorem oq_in_listT (hf : SideD (ds.all flatD = true)) (h : SideD (inD (.str p) ds = true)) : OpD G (rInA G.K) (.str p) (.list ds) (.bool true) := od_to (od_in rfl hf.out (.inl rfl)) (by rw [h.out])
theorem oq_in_listF (hf : SideD (ds.all flatD = true)) (h : SideD (inD (.str p) ds = false)) : OpD G (rInA G.K) (.str p) (.list ds) (.bool false) := od_to (od_in rfl hf.out (.inl rfl)) (by rw [h.out])
theorem oq_notIn_listT (hf : SideD (ds.all flatD = true)) (h : SideD (inD (.str p) ds = false)) : OpD G (rNotInA G.K) (.str p) (.list ds) (.bool true) := od_to (od_notIn rfl hf.out (.inl rfl)) (by rw [h.out]; rfl)
theorem oq_notIn_listF (hf : SideD (ds.all flatD = true)) (h : SideD (inD (.str p) ds = true)) : OpD G (rNotInA G.K) (.str p) (.list ds) (.bool false) := od_to (od_notIn rfl hf.out (.inl rfl)) (by rw [h.out]; rfl)
theorem oq_in_list (hx : Side (flatD x = true)) (hf : Side (ds.all flatD = true)) : OpD G (rInA G.K) x (.list ds) (.bool (inD x ds)) := od_in hx.out hf.out (.inl rfl)
theorem oq_in_tup (hx : Side (flatD x = true)) (hf : Side (ds.all flatD = true)) : OpD G (rInA G.K) x (.tuple ds) (.bool (inD x ds)) := od_in hx.out hf.out (.inr rfl)
theorem oq_notIn_list (hx : Side (flatD x = true)) (hf : Side (ds.all flatD = true)) : OpD G (rNotInA G.K) x (.list ds) (.bool (!inD x ds)) := od_notIn hx.out hf.out (.inl rfl)
theorem oq_notIn_tup (hx : Side (flatD x = true)) (hf : Side (ds.all flatD = true)) : OpD G (rNotInA G.K) x (.tuple ds) (.bool (!inD x ds)) := od_notIn hx.out hf.out (.inr rfl)
theorem oq_in_sign {c : Nat} : OpD G (rInA G.K) (.str ⟨#[c]⟩) (.str q) (.bool (decide (c ∈ q.cps.toList))) := fun B H v w e d1 d2 Q k => by
  cases d1; cases d2
  exact .inr ⟨c, q, rfl, rfl, k _ B H (Stp.refl e) (.bl _)⟩
theorem oq_notIn_sign {c : Nat} : OpD G (rNotInA G.K) (.str ⟨#[c]⟩) (.str q) (.bool (!decide (c ∈ q.cps.toList))) := fun B H v w e d1 d2 Q k => by
  cases d1; cases d2
  exact .inr ⟨c, q, rfl, rfl, k _ B H (Stp.refl e) (.bl _)⟩
theorem oq_ix_list0 (h : atI ds i = some d) : OpD G (rIx G.K) (.list ds) (.int i) d := fun B H v w e d1 d2 Q k => by
  cases d2
  cases d1 with
  | lst h1 a1 =>
    obtain ⟨u, hu, hd⟩ := dpa_at a1 h
    exact .inl ⟨_, _, i, u, rfl, rfl, e.sl h1, hu, k u B H (Stp.refl e) hd⟩
theorem oq_ix_tup0 (h : atI ds i = some d) : OpD G (rIx G.K) (.tuple ds) (.int i) d := fun B H v w e d1 d2 Q k => by
  cases d2
  cases d1 with
  | tup h1 a1 =>
    obtain ⟨u, hu, hd⟩ := dpa_at a1 h
    exact .inr (.inl ⟨_, _, i, u, rfl, rfl, e.st h1, hu, k u B H (Stp.refl e) hd⟩)
theorem oq_ix_tup (h : SideR (atI ds i = some d)) : OpD G (rIx G.K) (.tuple ds) (.int i) d := oq_ix_tup0 h.out
theorem oq_ix_list (h : SideR (atI ds i = some d)) : OpD G (rIx G.K) (.list ds) (.int i) d := oq_ix_list0 h.out
theorem oq_ix0 {x0 : PyData} : OpD G (rIx G.K) (.tuple (x0 :: ds)) (.int 0) x0 := oq_ix_tup0 (show atI _ ((0 : Nat) : Int) = _ from atI_nat rfl)
theorem oq_ix1 {x0 x1 : PyData} : OpD G (rIx G.K) (.tuple (x0 :: x1 :: ds)) (.int 1) x1 := oq_ix_tup0 (show atI _ ((1 : Nat) : Int) = _ from atI_nat rfl)
theorem oq_ix2 {x0 x1 x2 : PyData} : OpD G (rIx G.K) (.tuple (x0 :: x1 :: x2 :: ds)) (.int 2) x2 := oq_ix_tup0 (show atI _ ((2 : Nat) : Int) = _ from atI_nat rfl)
theorem oq_ix3 {x0 x1 x2 x3 : PyData} : OpD G (rIx G.K) (.tuple (x0 :: x1 :: x2 :: x3 :: ds)) (.int 3) x3 := oq_ix_tup0 (show atI _ ((3 : Nat) : Int) = _ from atI_nat rfl)
theorem oq_ix_lastL (h : Side (ns ≠ [])) : OpD G (rIx G.K) (.list (ns.map .int)) (.int (-1)) (.int (ns.getLastD 0)) := oq_ix_list0 (atI_lastI h.out)
theorem oq_ix_lastT (h : Side (ns ≠ [])) : OpD G (rIx G.K) (.tuple (ns.map .int)) (.int (-1)) (.int (ns.getLastD 0)) := oq_ix_tup0 (atI_lastI h.out)
theorem oq_ix_intsT (h : Side (0 ≤ i ∧ i < ns.length)) : OpD G (rIx G.K) (.tuple (ns.map .int)) (.int i) (.int (ns.getD i.toNat 0)) := oq_ix_tup0 (atI_ints h.out.1 h.out.2)
theorem oq_ix_ints (h : Side (0 ≤ i ∧ i < ns.length)) : OpD G (rIx G.K) (.list (ns.map .int)) (.int i) (.int (ns.getD i.toNat 0)) := oq_ix_list0 (atI_ints h.out.1 h.out.2)
theorem oq_ix_str {c : Nat} (hl : Side (p.length ≤ 100000)) (h : SideR (atI p.cps.toList i = some c)) : OpD G (rIx G.K) (.str p) (.int i) (.str ⟨#[c]⟩) := fun B H v w e d1 d2 Q k => by
  cases d1; cases d2
  exact .inr (.inr ⟨p, i, c, rfl, rfl, Evl.sz_of hl.out, h.out, k _ B H (Stp.refl e) (.str _)⟩)
/-- a written list of whole numbers at a place -/
def intsOf : List PyData → Option (List Int)
  | [] => some []
  | .int n :: r => (intsOf r).map (n :: ·)
  | _ :: _ => none
theorem intsOf_ok : ∀ {ds : List PyData} {ns : List Int}, intsOf ds = some ns → ds = ns.map .int
  | [], _, h => by cases h; rfl
  | .int n :: r, _, h => by
    unfold intsOf at h
    obtain ⟨ms, h1, rfl⟩ := Option.map_eq_some_iff.mp h
    rw [intsOf_ok h1]; rfl
  | .none :: _, _, h | .bool _ :: _, _, h | .str _ :: _, _, h | .list _ :: _, _, h | .tuple _ :: _, _, h => by cases h
theorem oq_ix_lit (hs : SideR (intsOf ds = some ns)) (h : Side (0 ≤ i ∧ i < ns.length)) : OpD G (rIx G.K) (.list ds) (.int i) (.int (ns.getD i.toNat 0)) := by
  rw [intsOf_ok hs.out]; exact oq_ix_ints h
theorem cq_len_str (hl : Side (p.length ≤ 100000)) : CaD G (rLen G.K) [.str p] (.int (p.length : Int)) := ca_len_str hl.out
theorem cq_int_str {n : Int} (h1 : Side (PySem.intText? p = some n)) (hl : Side (p.length ≤ 640)) : CaD G rIntA [.str p] (.int n) := ca_int_str h1.out hl.out
theorem cq_str_int (hl : Side (i.natAbs.log2 < 1920)) : CaD G rStrI [.int i] (.str (toString i)) := ca_str_int hl.out
theorem cq_all (f : Side (∀ d ∈ ds, ∃ b, d = .bool b)) : CaD G (rAll G.K) [.list ds] (.bool (ds.all boD)) := ca_all f.out
theorem cq_any (f : Side (∀ d ∈ ds, ∃ b, d = .bool b)) : CaD G (rAny G.K) [.list ds] (.bool (ds.any boD)) := ca_any f.out
end
end Pd

namespace Pd
open PySem L2
/-! ### repr of data, where no repr is under way -/
def rReprD (K : PySem.W.Frag) : List V → Hp → VK → Prop := fun xs H Q => ∃ v d, xs = [v] ∧ Dp K H v d ∧ PyData.showable d = true ∧ PyData.hasDict d = false ∧ PyData.depth d ≤ 64 ∧ (PyData.shown d).length ≤ sizeLine ∧ Q (.str (PyData.shown d)) H
theorem call_reprD {X : Cx} (hg : X.A.guards = some []) (hu : X.A.units + 66 < cLine) : CallR X (.builtin "repr") (rReprD X.K) := by
  intro pins s σ H xs us Q I r h
  obtain ⟨v, d, rfl, hd, hs, hn, hdep, hsz, q⟩ := h
  obtain ⟨u, rfl, ru⟩ := vals1 r
  have fin : ∀ (h' : Heap) (t : Tok) (tk : Nat), (∀ b o, s.heap.get? b = some o → h'.get? b = some o) → EP X pins σ Q (.str (PyData.shown d) t) { s with heap := h', toks := tk } :=
    fun h' t tk k => ⟨.str (PyData.shown d), H, I.kept k, ⟨t, rfl⟩, q⟩
  cases hd with
  | non => cases ru; exact PySem.P.repr_of_none (fin s.heap _ _ fun b o e => e)
  | bl b => cases ru; exact PySem.P.repr_of_bool (fin s.heap _ _ fun b o e => e)
  | int i =>
    obtain ⟨t, rfl⟩ := ru
    exact PySem.P.repr_of_int (of_decide_eq_true hs) (fin s.heap _ _ fun b o e => e)
  | str x =>
    obtain ⟨t, rfl⟩ := ru
    exact PySem.P.repr_of_str (fin s.heap _ _ fun b o e => e) hsz
  | lst a b =>
    cases ru
    obtain ⟨as, R⟩ := Dp.reads I _ _ _ (.lst a b) rfl
    exact PySem.repr_of_reads' R hs (fun z => by rw [hn] at z; cases z) hg (by omega) (fun b o e => e) (fun h' u tk k => fin h' u tk k) hsz
  | tup a b =>
    cases ru
    obtain ⟨as, R⟩ := Dp.reads I _ _ _ (.tup a b) rfl
    exact PySem.repr_of_reads' R hs (fun z => by rw [hn] at z; cases z) hg (by omega) (fun b o e => e) (fun h' u tk k => fin h' u tk k) hsz
end Pd

namespace Pd
open PySem PySem.Spec PyProof.Rows L2
/-! ### the law's own body, run once, where the guards are known (no repr is under way) -/
section
variable {P : Program} {w : World} {K : PySem.W.Frag} {mg : Str → Option Value} {base : Heap} {CX : CXT}
/-- one call of a def of the text, at one place -/
theorem run_at {x qual : Str} {st : Stmt} {f : Addr} {fd : FuncData} {N ps : List Str} {k : Nat} {A : Around} {outer : List Env} {s : Shared} {H : Hp} {args : Args} {us : List Value} {vs : List V} {Q : VK} {E : XK}
    (F : Fun K x qual st f fd) (S : FnScope N ps (defScope st)) (room : Room (k + 1) A) (en : Env0 P w K mg base A outer s H) (bind : BindsTo s fd args (ps.zip us)) (rv : Vals vs us) (same : vs.length = ps.length)
    (walk : ∀ cdv : Value, Room k (A.deeper (envOfC qual (defScope st) s.heap.objs.size f cdv)) → ∃ t, PSs (cxOf CX P w K mg base N qual (defScope st) f cdv A outer s H E) (defBody st) t ∧ t { nx := fun _ H2 => Q .non H2, rt := Q } (L2.start N vs) H) :
    codeAny (model P w) A (.call (.ref f) args) (CR CX outer P w H s Q E) s := by
  obtain ⟨oc, od, kV, doc, pm, an, cdv, ct, osl, rfl, found, code⟩ := F.ex
  have keepAll : ∀ {b : Addr} {o : Obj}, base.get? b = some o → s.heap.get? b = some o := fun h => (en.bs _ _ h).1
  have inNow : K.In s.heap := en.mod.kin.keeps fun _ _ h => keepAll h
  have noLim : s.heap.NoLimit := en.mod.nolimit.keeps fun _ _ h => keepAll h
  have kinds : ∀ z ∈ ps.zip us, (defScope st).names.lookup z.1 = some .local ∨
      ((defScope st).names.lookup z.1 = some .cell ∧ ((cellsFrom (s.heap.objs.size + 1) (defScope st).names []).lookup z.1).isSome = true) := by
    rintro ⟨n, v⟩ hz
    refine (S.par n (List.of_mem_zip hz).1).imp id fun c => ⟨c, ?_⟩
    exact PySem.W.cellsFrom_some _ _ _ (.inl c)
  refine codeAny_call_function room.depth (inNow _ _ found) rfl S.co S.gen rfl (PySem.W.codeRec_of inNow code) ?_
  refine bind _ _ _ _ ?_
  refine wpAny_newFunctionEnv_cells S.kind kinds ?_
  intro env eq s2 made
  subst eq
  refine ⟨noLim.keeps made.toInCall.keep, codeAny_func ?_⟩
  obtain ⟨t, ht, hq⟩ := walk cdv (room.deeper _)
  have begun := inv_start (CX := CX) (qual := qual) (cd := cdv) (f := f) (E := E) S room.hd en same rv made
  refine wpAny_mono (ht.run [] s2 _ H _ begun hq) ?_ (fun _ _ h => h)
  intro fl s3 h
  have out : ∀ {σ : L2.St} {H2 : Hp} {v : V} {u : Value}, Inv (cxOf CX P w K mg base N qual (defScope st) f cdv A outer s H E) [] σ H2 s3 → RelV v u → Q v H2 → CE outer P w H s Q u s3 := by
    intro σ H2 v u J r q
    exact ⟨v, H2, J.os, J.bare, J.base, J.hok, r, q⟩
  cases fl with
  | ret u => obtain ⟨v, _, H2, J, r, q⟩ := h; exact out J r q
  | next => obtain ⟨_, H2, J, q⟩ := h; exact out (v := .non) (u := .none) J rfl q
  | brk => obtain ⟨_, _, _, q⟩ := h; exact q.elim
  | cont => obtain ⟨_, _, _, q⟩ := h; exact q.elim
end
/-- the law's def, run by the caller of all -/
def LawRun (P : Program) (w : World) (K : PySem.W.Frag) (mg : Str → Option Value) (base : Heap) (fa : Addr) (fd : FuncData) (x : Str) (sp : Sp) : Prop :=
  ∀ (s : Shared) (H : Hp) (us : List Value) (vs : List V) (Q : VK) (E : XK), Env0 P w K mg base callerA [] s H → BindsTo s fd ⟨us, []⟩ ([x].zip us) → Vals vs us → sp vs H Q E →
    codeAny (model P w) callerA (.call (.ref fa) ⟨us, []⟩) (CR CX0 [] P w H s Q E) s
section
variable {P : Program} {w : World} {K : PySem.W.Frag} {mg mb : Str → Option Value} {fa a : Addr} {fd : FuncData} {x : Str} {sp : Sp} {s : Shared} {vs : List Value} {ns : List Int}
/-- the heap of which the law knows: the script, if the top has not written it -/
def scriptH (K : PySem.W.Frag) (a : Addr) (vs : List Value) (ns : List Int) : Hp := fun b =>
  match K.lookup a with
  | some _ => none
  | none => if b = a then some (.frz { cls := .type "list", data := .seq vs.toArray } (.lst (ns.map V.int))) else none
theorem scriptH_at {b : Addr} (h : scriptH K a vs ns b ≠ none) : b = a ∧ K.lookup a = none := by
  unfold scriptH at h
  split at h
  · exact absurd rfl h
  · rename_i e
    split at h
    · rename_i e2; exact ⟨e2, e⟩
    · exact absurd rfl h
theorem scriptH_is {b : Addr} {o : HO} (h : scriptH K a vs ns b = some o) : b = a ∧ o = .frz { cls := .type "list", data := .seq vs.toArray } (.lst (ns.map V.int)) := by
  have h1 := scriptH_at (K := K) (a := a) (vs := vs) (ns := ns) (b := b) (by rw [h]; exact fun z => by cases z)
  unfold scriptH at h
  rw [h1.2] at h
  simp only [h1.1, if_pos] at h
  exact ⟨h1.1, (Option.some.inj h).symm⟩
theorem law_once (inK : K.In s.heap) (gl : s.heap.Ns mainGlobals mg) (bu : s.heap.Ns builtinsNs mb) (bb : ∀ y : Str, y ≠ "__name__" → mb y = bootBuiltins y) (noLim : s.heap.NoLimit) (gens : s.gens = #[])
    (at_a : s.heap.get? a = some { cls := .type "list", data := .seq vs.toArray }) (whole1 : IntsAre vs ns) (few : ns.length ≤ sizeLine)
    (run : ∀ base : Heap, K.In base → base.Ns mainGlobals mg → LawRun P w K mg base fa fd x sp) (bind : ∀ (s' : Shared) (u : Value), BindsTo s' fd ⟨[u], []⟩ [(x, u)])
    (told : ∀ H : Hp, Only H → SqL K H a (ns.map V.int) → sp [.ref a] H (fun v _ => v = .bl true) fun _ _ _ => False) :
    codeAny (model P w) callerA (.call (.ref fa) ⟨[.ref a], []⟩) (fun r s' => r = .ok (.ret (.bool true)) ∧ OldK s.heap s'.heap ∧ s'.os = s.os ∧ AllBare s'.gens) s := by
  have rv := vals_ints whole1
  let H : Hp := scriptH K a vs ns
  have only : Only H := by
    intro b
    cases h : H b with
    | none => exact Or.inl rfl
    | some o => exact Or.inr ⟨_, _, congrArg some (scriptH_is h).2⟩
  have list : SqL K H a (ns.map V.int) := by
    cases hk : K.lookup a with
    | some o =>
      have := inK a o hk
      rw [at_a] at this
      cases this
      refine Or.inr ⟨_, vs.toArray, _, hk, rfl, rfl, rfl, ?_, ?_⟩
      · rw [List.size_toArray, whole1.length]; exact few
      · simpa using rv
    | none =>
      refine Or.inl (Or.inr ⟨{ cls := .type "list", data := .seq vs.toArray }, ?_⟩)
      show scriptH K a vs ns a = _
      unfold scriptH
      rw [hk]
      exact if_pos rfl
  have heapOk : HOk P w H s.heap := by
    intro b o h
    obtain ⟨rfl, rfl⟩ := scriptH_is h
    exact ⟨at_a, by rw [List.length_map]; exact few, vs, _, rv, at_a⟩
  have shown : ∀ {b : Addr} {o : Obj}, s.heap.get? b = some o → H b = none → (hidT s.heap H).get? b = some o := hidT_get
  have dictFree : ∀ {b : Addr} {o : Obj} {es : Array DictEntry} {ep : Nat}, s.heap.get? b = some o → o.data = .dict es ep → H b = none := by
    intro b o es ep h d
    cases q : H b with
    | none => rfl
    | some u =>
      obtain ⟨rfl, -⟩ := scriptH_is q
      rw [at_a] at h
      cases h
      have d2 : Data.seq vs.toArray _ = Data.dict es ep := d
      cases d2
  have nsH : ∀ {b : Addr} {m : Str → Option Value}, s.heap.Ns b m → (hidT s.heap H).Ns b m := by
    rintro b m ⟨o, es, ep, h, d, r⟩
    exact ⟨o, es, ep, shown h (dictFree h d), d, r⟩
  have inH : K.In (hidT s.heap H) := by
    intro b o h
    refine shown (inK b o h) ?_
    cases q : H b with
    | none => rfl
    | some u =>
      obtain ⟨rfl, n⟩ := scriptH_at (K := K) (a := a) (vs := vs) (ns := ns) (b := b) (by show H b ≠ none; rw [q]; exact fun z => by cases z)
      rw [n] at h; cases h
  obtain ⟨mc, c1, c2⟩ := noLim
  have md : Mod K mg (hidT s.heap H) := ⟨inH, nsH gl, ⟨mb, nsH bu, bb⟩, ⟨mc, nsH c1, c2⟩⟩
  have start : Env0 P w K mg (hidT s.heap H) callerA [] s H :=
    { frames := rfl, mod := md, bs := fun _ _ h => of_hidT h, bsz := Nat.le_of_eq (hidT_size _ _), funs := trivial, frf := fun b hb => absurd (show b ∈ ([] : List Addr) from hb) List.not_mem_nil, hok := heapOk, bare := .of_eq gens }
  refine codeAny_mono (run _ inH (nsH gl) s H [.ref a] [.ref a] _ _ start (bind s (.ref a)) (.cons rfl .nil) (told H only list)) ?_
  intro r s' h
  match r, h with
  | .error e, h => exact h.elim
  | .ok .next, h => exact h.elim
  | .ok .brk, h => exact h.elim
  | .ok .cont, h => exact h.elim
  | .ok (.ret u), ⟨v, H', os, bare, un, ok', ru, q⟩ =>
    have q : v = .bl true := q
    subst q
    have ru : u = Value.bool true := ru
    subst ru
    refine ⟨rfl, ?_, os, bare⟩
    refine OldK.of_keep fun b o hbo => ?_
    cases z : H b with
    | none => exact un.keep b o hbo z (fun m => absurd (show b ∈ ([] : List Addr) from m) List.not_mem_nil) (by simp)
    | some u =>
      obtain ⟨rfl, rfl⟩ := scriptH_is z
      have z2 := un.frzs _ _ _ z
      have e2 := (ok' _ _ z2).1
      rw [at_a] at hbo
      cases hbo
      exact e2
end
/-- the row's end, from the law's own body -/
theorem law_walkG {l : PySem.W.OpenLaw} {q : Program} {loose : List Str} {XP : (Str → Option Value) → Heap → Prop} {YP : World → Heap → Prop} {d : DefRec} {K : Params → PySem.W.Frag} {x : Str} (most : l.most = some 63) (noDef : d.params.defaults = [])
    (hY : ∀ (w : World) (h : Heap), YP w h → (K w.params).In h)
    (F : ∀ (w : World) (mg : Str → Option Value) (fa : Addr) (h : Heap), (K w.params).In h → h.Ns mainGlobals mg → mg d.name = some (.ref fa) →
      ∃ fd : FuncData, (∀ (s : Shared) (u : Value), BindsTo s fd ⟨[u], []⟩ [(x, u)]) ∧ ∀ base : Heap, (K w.params).In base → base.Ns mainGlobals mg → LawRun l.prog w (K w.params) mg base fa fd x (spV (K w.params) rLaw)) :
    PySem.W.WalkO q loose XP YP l.row.toRowW d [] (fun f vs => PySem.call f vs) := by
  refine Att.attach_call most noDef ?_
  intro w s0 s1 mg mb fa o pm cd doc a vs ns G Y ho hd hcd hmg hobj hints hlen hg
  obtain ⟨fd, bind, run⟩ := F w mg fa _ (hY w _ Y) G.T.g hmg
  refine law_once (hY w _ Y) G.T.g G.T.b G.T.builtins G.T.nolimit hg hobj hints (Nat.le_trans hlen (by decide)) run bind ?_
  intro H only seq
  exact ⟨H, [.list (ns.map .int)], .bool true, Ex.rfl', .cons (.lst seq (dpa_ints ns)) .nil, ⟨ns, hlen, rfl, rfl⟩, fun v B2 H2 _ h => by cases h; rfl⟩
theorem room66 {k : Nat} {A : Around} (r : Room k A) : A.units + 66 < cLine := by have := r.un; omega
theorem law_ok {P : Program} {w : World} {K : PySem.W.Frag} {mg : Str → Option Value} {base : Heap} {x qual p : Str} {st : Stmt} {f : Addr} {fd : FuncData} {N : List Str} {k : Nat} {R : List PyData → PyData → Prop} (F : Fun K x qual st f fd) (S : FnScope N [p] (defScope st)) (room : Room (k + 1) callerA)
    (len : ∀ ds d, R ds d → ds.length = 1)
    (hb : ∀ (cdv : Value) (s : Shared) (H : Hp) (E : XK), Room k (callerA.deeper (envOfC qual (defScope st) s.heap.objs.size f cdv)) →
      ∃ t, PSs (cxOf CX0 P w K mg base N qual (defScope st) f cdv callerA [] s H E).nox (defBody st) t ∧ ∀ ds d, R ds d → WpD (.pure K) WNo t (entry N ds) { nx := fun _ => d = .none, rt := fun d' => d' = d }) : LawRun P w K mg base f fd p (spV K R) := by
  intro s H us vs Q E en bind rv told
  obtain ⟨B, ds, d, e, hd, hR, q⟩ := told
  refine run_at F S room en bind rv (by rw [dpa_len hd]; exact len ds d hR) fun cdv hr => ?_
  obtain ⟨t, ht, hw⟩ := hb cdv s H E hr
  refine ⟨t, ht.nox, hw ds d hR B H B H _ _ (entry_env e hd) ⟨fun Γ2 B2 H2 σ2 a b c => ?_, fun _ _ _ _ a => a.elim, fun _ _ _ _ a => a.elim, fun d' v B2 H2 a s2 _ d2 => ?_, fun _ _ _ _ _ a => a.elim⟩⟩
  · exact q .non B2 H2 c.stp (by rw [a]; exact .non)
  · exact q v B2 H2 s2 (by rw [← a]; exact d2)
theorem kc_repr {X : Cx} {K : PySem.W.Frag} (hK : X.K = K) (hg : X.A.guards = some []) (hu : X.A.units + 66 < cLine) : CallR X (.builtin "repr") (rReprD K) := hK ▸ call_reprD hg hu
theorem bb_repr : bootBuiltins "repr" = some (.builtin "repr") := by decide +kernel
theorem cq_repr {G : Gd} {d : PyData} (h1 : Side (PyData.showable d = true)) (h2 : Side (PyData.hasDict d = false)) (h3 : Side (PyData.depth d ≤ 64)) (h4 : Side ((PyData.shown d).length ≤ sizeLine)) : CaD G (rReprD G.K) [d] (.str (PyData.shown d)) := fun B H vs e dv Q k => by
  cases dv with
  | cons a b =>
    cases b
    exact ⟨_, d, rfl, e.dp a, h1.out, h2.out, h3.out, h4.out, k _ B H (Stp.refl e) (.str _)⟩
end Pd

namespace Pd
open PySem L2
/-! ### texts: split, join, parts -/
def rSplitG : V → List V → Hp → VK → Prop := fun x xs H Q => ∃ a b, x = .str a ∧ xs = [.str b] ∧ (b.length == 0) = false ∧ a.length + 2 ≤ sizeLine ∧ rNewStrs (Txt.split a b) H Q
def rJoinG (K : PySem.W.Frag) : V → List V → Hp → VK → Prop := fun x xs H Q => ∃ a p, ∃ ys : List Str, x = .str a ∧ xs = [.ref p] ∧ (SqL K H p (ys.map V.str) ∨ SqT K H p (ys.map V.str)) ∧
      (ys.map (·.length)).sum + ys.length * a.length ≤ 16777216 ∧ Q (.str (Txt.join a ys)) H
section
variable {X : Cx} {K : PySem.W.Frag} {o e : Expr} {to te : TE} {apos pos : Pos}
theorem kpe_split (ho : PE X o to) (he : PE X e te) (hs : starEach [e] X.env = [(false, eval e X.env)] := by rfl) (hbase : attributeBase o "split" X.env (eval o X.env) = eval o X.env := by rfl) (hline : (apos.endLine == pos.line) = true := by rfl) :
    PE X (.Call (.Attribute o "split" apos) [e] [] pos) (tM1 rSplitG to te) := pe_split ho he hs hbase hline
theorem kpe_join (hK : X.K = K) (ho : PE X o to) (he : PE X e te) (hs : starEach [e] X.env = [(false, eval e X.env)] := by rfl) (hbase : attributeBase o "join" X.env (eval o X.env) = eval o X.env := by rfl) (hline : (apos.endLine == pos.line) = true := by rfl) :
    PE X (.Call (.Attribute o "join" apos) [e] [] pos) (tM1 (rJoinG K) to te) := hK ▸ pe_join ho he hs hbase hline
end
section
variable {G : Gd} {Γ : List Ent} {to te : TE} {a b : Str} {ys : List Str}
theorem ef_split (ha : EvD G to Γ (.str a)) (hb : EvD G te Γ (.str b)) (h1 : Side ((b.length == 0) = false)) (h2 : Side (a.length ≤ 100000)) : EvF G (tM1 rSplitG to te) Γ ((Txt.split a b).map .str) := fun B0 H0 B H σ E Q k =>
  ha B0 H0 B H σ E _ fun v B1 H1 s1 d1 => by
    cases d1
    refine ⟨⟨a, rfl⟩, hb B0 H0 B1 H1 σ (E.step s1) _ fun w B2 H2 s2 d2 => ?_⟩
    cases d2
    exact ⟨a, b, rfl, rfl, h1.out, Nat.le_trans (Nat.add_le_add_right h2.out 2) (by decide), fun p hp => k p _ B2 H2 (s1.trans s2) hp (dpa_strs _)⟩
theorem ev_join (ha : EvD G to Γ (.str a)) (hb : EvD G te Γ (.list (ys.map .str))) (h : Side ((ys.map (·.length)).sum + ys.length * a.length ≤ 16777216)) : EvD G (tM1 (rJoinG G.K) to te) Γ (.str (Txt.join a ys)) := fun B0 H0 B H σ E Q k =>
  ha B0 H0 B H σ E _ fun v B1 H1 s1 d1 => by
    cases d1
    refine ⟨⟨a, rfl⟩, hb B0 H0 B1 H1 σ (E.step s1) _ fun w B2 H2 s2 d2 => ?_⟩
    cases d2 with
    | lst g1 a1 =>
      have e := dpa_strs_inv a1
      subst e
      exact ⟨a, _, ys, rfl, rfl, .inl (s2.bh.sl g1), h.out, k _ B2 H2 (s1.trans s2) (.str _)⟩
theorem w_sl_str {tl th : TO} {lo hi : Option Int} {ta : TE} (ha : EvD G ta Γ (.str a)) (h1 : EvO G tl Γ lo) (h2 : EvO G th Γ hi) (hl : Side (a.length ≤ 100000)) : EvD G (tSl (rSlA G.K) ta tl th) Γ (.str (cutS a lo hi)) := ev_sl_str ha h1 h2 hl.out
theorem cut_head (c : Nat) (r : List Nat) : cutS ⟨(c :: r).toArray⟩ none (some 1) = ⟨#[c]⟩ := by
  have e : HT.sIx (r.length + 1) (r.length + 1) (some 1) = 1 := by
    have := HT.sIx_nat (r.length + 1) (r.length + 1) 1
    rw [show ((1 : Nat) : Int) = 1 from rfl] at this
    rw [this]; omega
  simp [cutS, Str.length, HT.sIx_none, e]
theorem cut_tail (c : Nat) (r : List Nat) : cutS ⟨(c :: r).toArray⟩ (some 1) none = ⟨r.toArray⟩ := by
  have e : HT.sIx (r.length + 1) 0 (some 1) = 1 := by
    have := HT.sIx_nat (r.length + 1) 0 1
    rw [show ((1 : Nat) : Int) = 1 from rfl] at this
    rw [this]; omega
  simp [cutS, Str.length, HT.sIx_none, e]
theorem cut_nil (lo hi : Option Int) : cutS ⟨#[]⟩ lo hi = ⟨#[]⟩ := by simp [cutS]
theorem c_sl_head {ta : TE} {c : Nat} {r : List Nat} (ha : EvD G ta Γ (.str ⟨(c :: r).toArray⟩)) (hl : Side (r.length < 100000)) : EvD G (tSl (rSlA G.K) ta tNoPart (tPart (tC (.int 1)))) Γ (.str ⟨#[c]⟩) :=
  ev_to (ev_sl_str ha eo_none (eo_some ev_int) (by show (c :: r).toArray.size ≤ 100000; simp; have := hl.out; omega)) (by rw [cut_head])
theorem c_sl_tail {ta : TE} {c : Nat} {r : List Nat} (ha : EvD G ta Γ (.str ⟨(c :: r).toArray⟩)) (hl : Side (r.length < 100000)) : EvD G (tSl (rSlA G.K) ta (tPart (tC (.int 1))) tNoPart) Γ (.str ⟨r.toArray⟩) :=
  ev_to (ev_sl_str ha (eo_some ev_int) eo_none (by show (c :: r).toArray.size ≤ 100000; simp; have := hl.out; omega)) (by rw [cut_tail])
theorem c_sl_nil {tl th : TO} {lo hi : Option Int} {ta : TE} (ha : EvD G ta Γ (.str ⟨#[]⟩)) (h1 : EvO G tl Γ lo) (h2 : EvO G th Γ hi) : EvD G (tSl (rSlA G.K) ta tl th) Γ (.str ⟨#[]⟩) := ev_to (ev_sl_str ha h1 h2 (by decide)) (by rw [cut_nil])
theorem oq_ix_s0 {c : Nat} {r : List Nat} (hl : Side (r.length < 100000)) : OpD G (rIx G.K) (.str ⟨(c :: r).toArray⟩) (.int 0) (.str ⟨#[c]⟩) :=
  oq_ix_str ⟨by show (c :: r).toArray.size ≤ 100000; simp; have := hl.out; omega⟩ ⟨show atI (c :: r) ((0 : Nat) : Int) = some c from atI_nat rfl⟩
theorem sign_eq {c d : Nat} : ((⟨#[c]⟩ : Str) = ⟨#[d]⟩) ↔ c = d := ⟨fun h => by cases h; rfl, fun h => by rw [h]⟩
variable {x0 x1 : PyData} {ds : List PyData} {ta : TE}
theorem oq_ixl0 : OpD G (rIx G.K) (.list (x0 :: ds)) (.int 0) x0 := oq_ix_list0 (show atI _ ((0 : Nat) : Int) = _ from atI_nat rfl)
theorem oq_ixl1 : OpD G (rIx G.K) (.list (x0 :: x1 :: ds)) (.int 1) x1 := oq_ix_list0 (show atI _ ((1 : Nat) : Int) = _ from atI_nat rfl)
theorem cut_two : cutD (x0 :: x1 :: ds) (some 2) none = ds := by
  have e : HT.sIx (ds.length + 2) 0 (some 2) = 2 := by
    have := HT.sIx_nat (ds.length + 2) 0 2
    rw [show ((2 : Nat) : Int) = 2 from rfl] at this
    rw [this]; omega
  simp [cutD, HT.sIx_none, e]
theorem c_sl_two (ha : EvD G ta Γ (.list (x0 :: x1 :: ds))) : EvF G (tSl (rSlA G.K) ta (tPart (tC (.int 2))) tNoPart) Γ ds := by
  have := ef_sl_list ha (eo_some (G := G) (Γ := Γ) ev_int) eo_none (lo := some 2)
  rwa [cut_two] at this
/-- a part of a tuple that is not the whole -/
theorem ev_sl_tup {tl th : TO} {lo hi : Option Int} (ha : EvD G ta Γ (.tuple ds)) (h1 : EvO G tl Γ lo) (h2 : EvO G th Γ hi) (hn : ¬ (HT.sIx ds.length 0 lo = 0 ∧ HT.sIx ds.length ds.length hi = ds.length)) : EvD G (tSl (rSlA G.K) ta tl th) Γ (.tuple (cutD ds lo hi)) := fun B0 H0 B H σ E Q k =>
  ha B0 H0 B H σ E _ fun v B1 H1 s1 d1 => h1 B0 H0 B1 H1 σ (E.step s1) _ fun B2 H2 s2 => h2 B0 H0 B2 H2 σ (E.step (s1.trans s2)) _ fun B3 H3 s3 => by
    have d3 := (s2.trans s3).bb.dp d1
    cases d3 with
    | tup g1 a1 =>
      refine .inr (.inl ⟨_, _, rfl, s3.bh.st g1, ?_, fun p hp => ?_⟩)
      · rw [dpa_len a1]; exact hn
      · exact k (.ref p) _ _ (((s1.trans s2).trans s3).new hp) (.tup (SqT.of upd_same) ((Ex.new (s3.bh.back hp)).dpa (dpa_cut a1 lo hi)))
theorem cut_one : cutD (x0 :: ds) (some 1) none = ds := by
  have e : HT.sIx (ds.length + 1) 0 (some 1) = 1 := by
    have := HT.sIx_nat (ds.length + 1) 0 1
    rw [show ((1 : Nat) : Int) = 1 from rfl] at this
    rw [this]; omega
  simp [cutD, HT.sIx_none, e]
theorem c_sl_restT (ha : EvD G ta Γ (.tuple (x0 :: ds))) : EvD G (tSl (rSlA G.K) ta (tPart (tC (.int 1))) tNoPart) Γ (.tuple ds) :=
  ev_to (ev_sl_tup ha (eo_some ev_int) eo_none (by
    intro z
    have := HT.sIx_nat (x0 :: ds).length 0 1
    rw [show ((1 : Nat) : Int) = 1 from rfl, z.1] at this
    simp at this)) (by rw [cut_one])
end
end Pd

namespace Pd
open PySem L2
/-! ### str of a text, and of a number -/
def rStrS : List V → Hp → VK → Prop := fun xs H Q => ∃ a, xs = [.str a] ∧ Q (.str a) H
theorem call_strS {X : Cx} : CallR X (.type "str") rStrS := by
  intro pins s σ H xs us Q I r h
  obtain ⟨a, rfl, q⟩ := h
  obtain ⟨u, rfl, t, rfl⟩ := vals1 r
  exact PySem.P.str_of_str ⟨.str a, H, I, ⟨t, rfl⟩, q⟩
def rStrA : List V → Hp → VK → Prop := fun xs H Q => rStrI xs H Q ∨ rStrS xs H Q
theorem call_strA {X : Cx} : CallR X (.type "str") rStrA := CallR.or call_strI call_strS
section
variable {G : Gd} {i : Int} {p : Str}
theorem cq_strA_int (hl : Side (i.natAbs.log2 < 1920)) : CaD G rStrA [.int i] (.str (toString i)) := fun B H vs e dv Q k => .inl (ca_str_int hl.out B H vs e dv Q k)
theorem cq_strA_str : CaD G rStrA [.str p] (.str p) := fun B H vs e dv Q k => by
  cases dv with
  | cons h1 h2 => cases h2; cases h1; exact .inr ⟨p, rfl, k _ B H (Stp.refl e) (.str _)⟩
end
/-! ### how long a shown tuple is -/
theorem tup_len (ts : List Str) : (tupleText ts).length ≤ piled ts + 3 := by
  unfold tupleText
  rw [Str.length_append, Str.length_append]
  have e1 : ((("(" : String) : Str)).length = 1 := rfl
  have e3 : (((if ts.length == 1 then ",)" else ")" : String) : Str)).length ≤ 2 := by split <;> decide
  rw [e1]
  by_cases h : ts = []
  · subst h
    have : (Str.join ", " ([] : List Str)).length = 0 := rfl
    omega
  · have := join_length_add ts h
    omega
end Pd

namespace Pd
open PySem PySem.Spec PyProof.Rows L2
/-! ### an exception that leaves a list comprehension -/
section
variable {X : Cx} {σ : L2.St} {H : Hp}
/-- what a call in the element lets out -/
def XB (X : Cx) (E : XK) (e : Value) (s' : Shared) : Prop := ∃ pins σ H s, Inv X pins σ H s ∧ L2.CX X.prog X.w X.stack H s E e s'
theorem passB {E : XK} : Passes (L2.CX X.prog X.w) (X.wish (XB X E)) E := fun pins σ H s e s' I c => ⟨pins, σ, H, s, I.unwish, c⟩
theorem passBS {E : XK} (σ : L2.St) : PassesAt (L2.CX X.prog X.w) (X.wish (XB X E)) σ E := fun pins H s e s' I c => ⟨pins, σ, H, s, I.unwish, c⟩
theorem hok_hide {P : Program} {w : World} {H : Hp} {h : Heap} {C : Addr} (x : HOk P w H h) (n : H C = none) : HOk P w H (PySem.W.hideAll h [C]) := fun b o q =>
  (x b o q).stay (fun c u hc r => PySem.W.hideAll_get [C] r fun hm => by
    have e : c = C := by simpa using hm
    subst e
    rcases hc with hc | hc
    · rw [hc, q] at n; cases n
    · rw [hc] at n; cases n) (fun _ r => r) fun _ _ r => r
theorem hide_get {h : Heap} {C b : Addr} {o : Obj} (e : h.get? b = some o) (n : b ≠ C) : (PySem.W.hideAll h [C]).get? b = some o := PySem.W.hideAll_get [C] e (by simpa using n)
theorem of_hide {h : Heap} {C b : Addr} {o : Obj} (e : (PySem.W.hideAll h [C]).get? b = some o) : h.get? b = some o ∧ b ≠ C := ⟨PySem.W.of_hideAll _ e, fun z => by
  subst z
  rw [PySem.W.hideAll_none [b] (by simp)] at e; cases e⟩
theorem none_hide {h : Heap} {C b : Addr} (e : h.get? b = none) : (PySem.W.hideAll h [C]).get? b = none := by
  cases q : (PySem.W.hideAll h [C]).get? b with
  | none => rfl
  | some o => rw [(of_hide q).1] at e; cases e
theorem out_of_comp {W : WX} (tk : Takes X W) (hs : X.stack = X.env :: X.outer) (hf : X.env.frame = some X.env.locals) {pins : List (Addr × Obj)} {H3 H6 : Hp} {s3 s6 s7 : Shared} {fp : List Addr} {ce : Env} {e : Value}
    (I3 : Inv X pins σ H3 s3) (cL : ce.locals = s3.heap.objs.size) (cF : ce.frame = X.env.frame) (f3 : ∀ b ∈ fp, FpOk X pins H3 b)
    (os6 : s6.os = s3.os) (u6 : Un (frs X.stack) fp H3 H6 s3.heap s6.heap) (hok6 : HOk X.prog X.w H6 s6.heap) (g6 : AllBare s6.gens) (nC : H6 ce.locals = none) (nsC : ∃ m, s6.heap.Ns ce.locals m)
    (c : L2.CX X.prog X.w X.stack H6 s6 (fun cls d H' => W cls d σ H') e s7) :
    notedBy (model X.prog X.w) X.A ce (CompFails (model X.prog X.w) X.A X.xe ce) e s7 := by
  obtain ⟨a, B, H', cls, d, rfl, fl, hok, ub, na, os, ag, hE⟩ := c
  have hnb : ∀ b o, s3.heap.get? b = some o → b ≠ ce.locals := fun b o q z => by
    have := Heap.lt_size q
    rw [z, cL] at this
    exact absurd this (Nat.lt_irrefl _)
  have frC : ∀ b ∈ frs X.stack, b ≠ ce.locals := fun b hb => by
    obtain ⟨_, o, q, _⟩ := I3.stack.mem hb
    exact hnb b o q
  obtain ⟨m, hm⟩ := nsC
  have hm0 := hm
  obtain ⟨oC, esC, epC, hoC, hdC, _⟩ := hm0
  have nC' : H' ce.locals = none := ub.free _ _ hoC nC
  have BC : B.get? ce.locals = some oC := ub.keep _ _ hoC nC fun hb => frC _ hb rfl
  -- the state without the block of names
  have I6 : Inv X pins σ H6 { s6 with heap := PySem.W.hideAll s6.heap [ce.locals] } := I3.call' (ch := fp) os6
    ⟨fun b o q1 q2 q3 q4 => hide_get (u6.keep b o q1 q2 q3 q4) (hnb b o q1), fun b o q1 q2 q3 q4 => (u6.slot b o q1 q2 q3 q4).elim fun sl q => ⟨sl, hide_get q (hnb b o q1)⟩, u6.free, fun b o q1 q2 => (u6.there b o q1 q2).elim fun o' q => ⟨o', hide_get q (hnb b o q1)⟩, u6.tups, u6.frzs, u6.tbls⟩
    (hok_hide hok6 nC) g6 fun b hb => ⟨(f3 b hb).2.2.2.1, (f3 b hb).2.1, (f3 b hb).2.2.2.2.1, (f3 b hb).2.2.2.2.2⟩
  generalize hB : PySem.W.hideAll B [ce.locals] = B' at *
  have B0 : B'.get? ce.locals = none := by rw [← hB]; exact PySem.W.hideAll_none [ce.locals] (by simp)
  have ofB : ∀ b o, B'.get? b = some o → B.get? b = some o := fun b o q => by rw [← hB] at q; exact (of_hide q).1
  have toB : ∀ b o, B.get? b = some o → b ≠ ce.locals → B'.get? b = some o := fun b o q n => by rw [← hB]; exact hide_get q n
  have noB : ∀ b, B.get? b = none → B'.get? b = none := fun b q => by rw [← hB]; exact none_hide q
  have hokB : HOk X.prog X.w H' B' := by rw [← hB]; exact hok_hide hok nC'
  obtain ⟨st0, na0, ff0, tr0⟩ := fl
  have fl' : HandSPX.FlyingZ B' X.stack a (Zc cls d) s7.heap := by
    refine ⟨fun b o q => st0 b o (ofB b o q), noB _ na0, funFrames_none ff0 fun L hL => noB _ (ff0.mem hL).1, ?_⟩
    obtain ⟨oe, vs, T, oT, ts, h1, h2, h3, h4, h5, h6⟩ := tr0
    exact ⟨oe, vs, T, oT, ts, h1, h2, h3, h4, noB _ h5, h6⟩
  have hfr : X.A.frames = some (X.env :: X.outer) := by rw [I3.ok.frames, hs]
  rw [hs] at fl'
  show wpAny _ _ (noteFrame (.ref a) ce) _ _ _
  rw [noteFrame_env _ cF]
  refine HandSPX.looks_onZ Zc.steady hfr hf fl' fun h8 hh8 up8 => ?_
  have nsC8 : h8.Ns ce.locals m := (hm.at' fun o q => by
    rw [hoC] at q; cases q
    exact st0 _ _ BC).upToSlots up8
  refine ⟨m, nsC8, fun h9 m9 ns9 sb9 => ?_⟩
  obtain ⟨k1, k2, k3, oe, vs, T, oT, ts, t1, t2, t3, t4, t5, t6, t7, t8, t9⟩ := hh8
  obtain ⟨o8, es8, ep8, ho8, hd8, _⟩ := nsC8
  have neC : ∀ b o, h8.get? b = some o → (∃ vs, o.data = .fields vs) → b ≠ ce.locals := fun b o q ⟨vs, q2⟩ z => by
    subst z
    rw [ho8] at q; cases q
    rw [hd8] at q2; cases q2
  have hh9 : HandSPX.HeldZ B' (X.env :: X.outer) a (Zc cls d) X.env.locals h9 := by
    refine ⟨fun b o q => (sb9.2 b fun z => by rw [z, B0] at q; cases q).trans (k1 b o q), k2, Heap.FunFrames.sameBut sb9 ns9 k3, oe, vs, T, oT, ts, (sb9.2 a (neC _ _ t1 ⟨_, t3⟩)).trans t1, t2, t3, t4, t5, t6, (sb9.2 T (neC _ _ t7 ⟨_, t8⟩)).trans t7, t8, t9⟩
  unfold PySem.passOn
  refine wpAny_bind (wpAny_field ((sb9.2 a (neC _ _ t1 ⟨_, t3⟩)).trans t1) t3 t4 ?_)
  rw [if_neg (show ¬ ((Value.ref T == Value.none) = true) from by simp)]
  rw [cF, hf]
  refine wpAny_bind (HandSPX.setFlight_onZ hh9 fun h10 hh10 up10 => ?_)
  refine wpAny_throw ?_
  show X.xe _ _
  refine tk _ _ ?_
  -- the ground
  have stF : B'.StaysIn h10 := hh10.1
  obtain ⟨Gr, g1, g2⟩ := restrict s7.heap fun b => (B'.get? b).isSome || decide (b ∈ frs X.stack)
  have gB : ∀ b o, B'.get? b = some o → Gr.get? b = some o := fun b o q => by
    rw [g1 b (by simp [q])]
    exact st0 b o (ofB b o q)
  have gF : ∀ b, b ∈ frs X.stack → Gr.get? b = s7.heap.get? b := fun b hb => g1 b (by simp [hb])
  have og : ∀ b o, Gr.get? b = some o → s7.heap.get? b = some o ∧ ((B'.get? b).isSome = true ∨ b ∈ frs X.stack) := fun b o q => by
    cases z : ((B'.get? b).isSome || decide (b ∈ frs X.stack)) with
    | false => rw [g2 b z] at q; cases q
    | true =>
      rw [g1 b z] at q
      exact ⟨q, by simpa [Bool.or_eq_true] using z⟩
  refine ⟨a, B', { s6 with heap := Gr, gens := s7.gens, drawn := s7.drawn, toks := s7.toks }, pins, σ, H', cls, d, rfl, ?_, fun b o q hb => ?_, fun b o q hnf => ?_, .inr (.inr (by rw [hs]; exact hh10)), na, os, ag, hE⟩
  · generalize hSh : ({ s6 with heap := PySem.W.hideAll s6.heap [ce.locals] } : Shared) = sh at I6
    have hSo : sh.heap = PySem.W.hideAll s6.heap [ce.locals] := by rw [← hSh]
    have eS : ({ s6 with heap := Gr, gens := s7.gens, drawn := s7.drawn, toks := s7.toks } : Shared) = { sh with heap := Gr, gens := s7.gens, drawn := s7.drawn, toks := s7.toks } := by rw [← hSh]
    rw [eS]
    refine I6.call (ch := []) ⟨fun b o q n hb _ => ?_, fun b o q n hb _ => ?_, fun b o q n _ => ub.free b o (of_hide (hSo ▸ q)).1 n, fun b o q _ => ?_, ub.tups, ub.frzs, ub.tbls⟩ (hokB.kept gB) ag (fun _ z => nomatch z)
    · exact gB b o (toB b o (ub.keep b o (of_hide (hSo ▸ q)).1 n hb) (of_hide (hSo ▸ q)).2)
    · obtain ⟨sl, z⟩ := ub.slot b o (of_hide (hSo ▸ q)).1 hb
      exact ⟨sl, by rw [gF b hb]; exact z⟩
    · by_cases hb : b ∈ frs X.stack
      · obtain ⟨sl, z⟩ := ub.slot b o (of_hide (hSo ▸ q)).1 hb
        exact ⟨_, by rw [gF b hb]; exact z⟩
      · obtain ⟨o', z⟩ := ub.there b o (of_hide (hSo ▸ q)).1 hb
        exact ⟨o', gB b o' (toB b o' z (of_hide (hSo ▸ q)).2)⟩
  · obtain ⟨e', h⟩ := og b o q
    rcases h with h | h
    · obtain ⟨o', z⟩ := Option.isSome_iff_exists.mp h
      have z2 := st0 b o' (ofB b o' z)
      rw [e'] at z2; cases z2
      exact z
    · exact absurd h hb
  · obtain ⟨e', h⟩ := og b o q
    show ∃ sl, h10.get? b = _
    rcases h with h | h
    · obtain ⟨o', z⟩ := Option.isSome_iff_exists.mp h
      have z2 := st0 b o' (ofB b o' z)
      rw [e'] at z2; cases z2
      exact ⟨o.slots, stF b o z⟩
    · obtain ⟨sl, z1⟩ := up8 b o e' hnf
      obtain ⟨sl2, z2⟩ := up10 b _ ((sb9.2 b (frC b h)).trans z1) hnf
      exact ⟨sl2, z2⟩
end
end Pd

namespace Pd
open PySem PySem.Spec PyProof.Rows L2
section
variable {X : Cx}
/-- a list comprehension whose element may raise -/
def tLcS (W : WX) (wi : TI) (g : TG) (tt : TT) (te : XK → TE) (vs : List Nat) : TE := fun σ H Q => tLc wi g tt (te fun cls d H' => W cls d σ H') vs σ H Q
theorem pe_lcS {W : WX} {elt tg iter : Expr} {ifs : List Expr} {scope : Scope} {own : List (Str × Nat)} {pos : Pos} {wi : TI} {g : TG} {tt : TT} {te : XK → TE} (tk : Takes X W) (hst : X.stack = X.env :: X.outer) (hf : X.env.frame = some X.env.locals) (hc : X.calm = true) (hN : X.N.Nodup) (hi : PI X tg iter wi) (ok : BlkOk X.N X.env.scope scope own)
    (hg : ∀ (s : Shared) (H : Hp) (C : Addr) (cl : List (Str × Addr)) (fp : List Addr), PG (X.blk s H scope (compEnvC scope cl C X.env) fp) tg g) (ht : ∀ (s : Shared) (H : Hp) (C : Addr) (cl : List (Str × Addr)) (fp : List Addr), PTs (X.blk s H scope (compEnvC scope cl C X.env) fp) ifs tt)
    (he : ∀ (s : Shared) (H : Hp) (C : Addr) (cl : List (Str × Addr)) (fp : List Addr) (E : XK), PE ((X.blk s H scope (compEnvC scope cl C X.env) fp).wish (XB (X.blk s H scope (compEnvC scope cl C X.env) fp) E)) elt (te E)) (hs : ∀ x, foldedSetIterable iter X.env x = pure x := by intro _; rfl) :
    PE X (.ListComp elt [⟨tg, iter, ifs, 0⟩] scope pos) (tLcS W wi g tt te (own.map (·.2))) := by
  refine ⟨fun pins s σ H Q I h => ?_⟩
  rw [eval_ListComp]
  have hfree : ∀ y ∈ scope.names, y.2 = .free → ∃ c, X.env.cells.lookup y.1 = some c := fun y hy e => by
    rcases ok.free y hy e with k | k
    · exact I.ok.has _ (.inl k)
    · exact I.ok.has _ (.inr k)
  refine comprehension_at (use := none) rfl hs (closure_ok hfree) ok.kind (fun y hy e => by rw [ok.uniq y hy, e])
    (thn (hi.run pins s σ H _ I h) fun xv s1 hx => thn hx fun itv s2 h2 => ?_)
  obtain ⟨it, fp, tn, J, H2, e, I2, T, st2, f2, q⟩ := h2
  subst e
  refine wpAny_newObj_type (newEnv_comp ?_) (by show 0 ≤ sizeLine; decide)
  generalize hD : s2.heap.objs.size = D
  have hDn : H2 D = none := I2.hok.fresh (Nat.le_of_eq hD)
  obtain ⟨Wv, ⟨m0, w0⟩, turn⟩ := q D hDn
  generalize hs3 : ({ s2 with heap := s2.heap.push { cls := .type "list", data := .seq ([] : List Value).toArray } } : Shared) = s3
  have I3 : Inv X pins σ (upd H2 D (.lst [])) s3 := by
    rw [← hs3]
    refine I2.laid (t' := s2.toks) (fun b o e => Heap.get?_push_of_some _ e) (Nat.le_of_eq hD) ⟨Nat.zero_le _, [], 0, .nil, ?_⟩
    rw [← hD]
    exact Heap.get?_push_size _ rfl
  have h3 : s3.heap = s2.heap.push { cls := .type "list", data := .seq ([] : List Value).toArray } := by rw [← hs3]
  have sz : ∀ b ∈ fp, b < s2.heap.objs.size := fun b hb => by
    obtain ⟨o, e, _⟩ := T.obj _ _ st2 b hb
    exact Heap.lt_size e
  have f3 : ∀ b ∈ fp, FpOk X pins (upd H2 D (.lst [])) b ∧ b < s3.heap.objs.size := fun b hb => by
    have hlt := sz b hb
    refine ⟨⟨?_, (f2 b hb).2⟩, by rw [h3, Heap.size_push]; exact Nat.lt_succ_of_lt hlt⟩
    rw [upd_ne (by rw [← hD]; exact Nat.ne_of_lt hlt)]
    exact (f2 b hb).1
  have st3 : tn 0 s3.heap := T.keep _ _ _ st2 fun b _ o e => by rw [h3]; exact Heap.get?_push_of_some _ e
  have I4 := block_start I3 ok hN f3
  have pg := hg s3 (upd H2 D (.lst [])) s3.heap.objs.size (cellsFrom (s3.heap.objs.size + 1) scope.names (cloFrom X.env.cells scope.names [])) fp
  have pt := ht s3 (upd H2 D (.lst [])) s3.heap.objs.size (cellsFrom (s3.heap.objs.size + 1) scope.names (cloFrom X.env.cells scope.names [])) fp
  have pe := he s3 (upd H2 D (.lst [])) s3.heap.objs.size (cellsFrom (s3.heap.objs.size + 1) scope.names (cloFrom X.env.cells scope.names [])) fp (fun cls d H' => W cls d σ H')
  show codeAny _ _ (.compStart (.ListComp elt [⟨tg, iter, ifs, 0⟩] scope pos) 0 (.ref it) (.ref D) (compEnvC scope (cellsFrom (s3.heap.objs.size + 1) scope.names (cloFrom X.env.cells scope.names [])) s3.heap.objs.size X.env)) (compEnds (model X.prog X.w) X.A X.xe none (EP X pins σ Q) (.ref D) (compEnvC scope (cellsFrom (s3.heap.objs.size + 1) scope.names (cloFrom X.env.cells scope.names [])) s3.heap.objs.size X.env)) { s3 with heap := pushCells (s3.heap.push { cls := .type "dict", data := .dict #[] }) scope.names }
  have nfp : ∀ b ∈ fp, (upd H2 D (.lst [])) b = none := fun b hb => (f3 b hb).1.1
  generalize hce : compEnvC scope (cellsFrom (s3.heap.objs.size + 1) scope.names (cloFrom X.env.cells scope.names [])) s3.heap.objs.size X.env = ce at I4 pg pt pe ⊢
  have cL : ce.locals = s3.heap.objs.size := by subst hce; rfl
  have cF : ce.frame = X.env.frame := by subst hce; rfl
  generalize hH3 : upd H2 D (.lst []) = H3 at I3 I4 pg pt pe w0 nfp f3
  generalize hs4 : ({ s3 with heap := pushCells (s3.heap.push { cls := .type "dict", data := .dict #[] }) scope.names } : Shared) = s4 at I4 ⊢
  have st4 : tn 0 s4.heap := T.keep _ _ _ st3 fun b _ o e => by rw [← hs4]; exact pushCells_keeps _ _ _ _ (Heap.get?_push_of_some _ e)
  have stat : ∀ {σ' : L2.St} {H' : Hp} {s' : Shared}, Inv (X.blk s3 H3 scope ce fp) [] σ' H' s' → (∀ b ∈ fp, H' b = none) → ∀ b ∈ fp, FpOk (X.blk s3 H3 scope ce fp) [] H' b := fun {σ' H' s'} I' hn b hb =>
    ⟨hn b hb, (I'.ok.exf b hb).1, I'.ok.exfs b hb, .inl hb, fun x c e => (I'.ok.exf b hb).2 x c e, fun p hp => absurd (show p ∈ ([] : List (Addr × Obj)) ++ [] from hp) (by simp)⟩
  have loop : codeAny (model X.prog X.w) X.A (.compLoop (.ListComp elt [⟨tg, iter, ifs, 0⟩] scope pos) 0 (.ref it) (.ref D) ce) (compEnds (model X.prog X.w) X.A X.xe none (EP X pins σ Q) (.ref D) ce) s4 := by
    refine compLoop_any (fun n s' => ∃ i H', Inv (X.blk s3 H3 scope ce fp) [] (wipe σ (own.map (·.2))) H' s' ∧ tn i s'.heap ∧ (∀ b ∈ fp, H' b = none) ∧ Wv i n H') ?_ m0 ⟨0, H3, I4, st4, nfp, w0⟩
    rintro n s5 ⟨i, H5, I5, st5, n5, w5⟩
    rcases turn i n H5 w5 with ⟨stop, qq⟩ | ⟨go, Nx, hNx, step⟩
    · have td := T.done (X.blk s3 H3 scope ce fp) rfl rfl rfl hc i [] s5 _ H5 (fun _ _ => False) I5 (stat I5 n5) st5 stop
      refine thnF td fun r s6 ⟨hr, I6⟩ => ?_
      subst hr
      have I7 : Inv X pins σ H5 s6 := I3.call' (ch := fp) I6.os I6.base I6.hok I6.bare fun b hb => ⟨(f3 b hb).1.2.2.2.1, (f3 b hb).1.2.1, (f3 b hb).1.2.2.2.2.1, (f3 b hb).1.2.2.2.2.2⟩
      have nC : H5 s3.heap.objs.size = none := by
        have z : H5 ce.locals = none := I6.free
        rw [cL] at z
        exact z
      obtain ⟨m, hn, _⟩ := I6.loc
      have hn : s6.heap.Ns ce.locals m := hn
      refine ⟨m, hn, fun h'' sb => ?_⟩
      obtain ⟨f0, f1, f2, f3, f4, f5⟩ := I3.fpOk (Nat.le_refl _) nC
      rw [cL] at sb
      exact ⟨.ref D, H5, I7.turned (t' := s6.toks) (fun b o hb e => (sb.2 b hb).trans e) f0 f1 f3 f4 f5, rfl, qq⟩
    · have ti := T.item (X.blk s3 H3 scope ce fp) rfl rfl rfl hc i [] s5 _ H5 (fun _ _ => False) I5 (stat I5 n5) st5 go
      refine thnF ti fun r s6 ⟨u, hr, h6⟩ => ?_
      subst hr
      refine thnF h6 fun _ s7 ⟨x, H7, I7, r7, y7, st7, n7⟩ => ?_
      have I7' := I7.pinned (stat I7 n7) (T.obj _ _ st7)
      refine thnF (pg.run _ s7 _ H7 x u _ I7' r7 (step x H7 y7)) fun _ s8 ⟨σ8, H8, I8, hw8, q8⟩ => ?_
      refine thnF (pt.run _ s8 σ8 H8 _ I8 q8) fun b s9 ⟨H9, I9, q9⟩ => ?_
      have fin : ∀ {s' : Shared} {H' : Hp}, Inv (X.blk s3 H3 scope ce fp) ([] ++ pinsAt fp s7.heap) σ8 H' s' → Nx H' → ∃ m, m < n ∧ ∃ i H', Inv (X.blk s3 H3 scope ce fp) [] (wipe σ (own.map (·.2))) H' s' ∧ tn i s'.heap ∧ (∀ b ∈ fp, H' b = none) ∧ Wv i m H' := fun {s' H'} I' nx => by
        obtain ⟨m', hm, w'⟩ := hNx H' nx
        have pin' : ∀ b ∈ fp, ∀ o, s7.heap.get? b = some o → s'.heap.get? b = some o ∧ H' b = none := fun b hb o e =>
          let z := I'.pin (b, o) (List.mem_append_right _ (List.mem_append_right _ (mem_pinsAt hb e)))
          ⟨z.1, z.2.1⟩
        have hl : (wipe σ (own.map (·.2))).length = σ8.length := by rw [← hw8, wipe_length]
        refine ⟨m', hm, i + 1, H', (I'.unpinned (pins := [])).weak hl (fun j v e => ?_), T.keep _ _ _ st7 fun b hb o e => (pin' b hb o e).1, fun b hb => ?_, w'⟩
        · rw [← hw8] at e
          exact (wipe_some e).1
        · obtain ⟨o, e, _⟩ := T.obj _ _ st7 b hb
          exact (pin' b hb o e).2
      cases b with
      | false =>
        simp only [Bool.false_eq_true, if_false] at q9 ⊢
        exact fin I9 q9
      | true =>
        simp only [if_true] at q9 ⊢
        refine wpAny_mono (pe.run _ s9 σ8 H9 _ (I9.wish _) q9) (fun z s10 ⟨yv, H10, I10, r10, acc, hD10, hz10, nx⟩ => ?_) fun e s10 hx => ?_
        · exact app_ok (X := X.blk s3 H3 scope ce fp) I10.unwish hD10 hz10 r10 fun s11 I11 => fin I11 nx
        · obtain ⟨pins', σ', H', s', I', c⟩ := hx
          exact out_of_comp tk hst hf (fp := fp) I3 cL cF (fun b hb => (f3 b hb).1) I'.os I'.base I'.hok I'.bare I'.free (I'.loc.elim fun m z => ⟨m, z.1⟩) c
  exact codeAny_compStart_list loop (T.self X.A 0 _ _ _ st4 loop)
end

/-! ### what raises -/
def ErD (G : Gd) (W : WX) (te : TE) (Γ : List Ent) (c : Addr) : Prop :=
  ∀ (B0 H0 B H : Hp) (σ : L2.St), EnvB G B0 H0 B H σ Γ → ∀ Q : VK, (∀ B2 H2, Stp B H B2 H2 → W (.ref c) none σ H2) → te σ H Q
def ErA (G : Gd) (W : WX) (ta : TA) (Γ : List Ent) (c : Addr) : Prop :=
  ∀ (B0 H0 B H : Hp) (σ : L2.St), EnvB G B0 H0 B H σ Γ → ∀ Q : List V → Hp → Prop, (∀ B2 H2, Stp B H B2 H2 → W (.ref c) none σ H2) → ta σ H Q
/-- in a comprehension's element -/
def ErK (G : Gd) (te : XK → TE) (Γ : List Ent) (c : Addr) : Prop :=
  ∀ (E : XK) (B0 H0 B H : Hp) (σ : L2.St), EnvB G B0 H0 B H σ Γ → ∀ Q : VK, (∀ B2 H2, Stp B H B2 H2 → E (.ref c) none H2) → te E σ H Q
section
variable {G : Gd} {W : WX} {Γ : List Ent} {te : TE} {ta : TA} {d : PyData} {ds : List PyData} {P : Post} {E : XK} {c : Addr}
theorem ev_callS {R : List PyData → Res → Prop} (h : EvA G ta Γ ds) (hR : R ds (.ok d)) : EvD G (tCallS (spR G.K R) (WE W) ta) Γ d := fun B0 H0 B H σ En Q k =>
  h B0 H0 B H σ En _ fun vs B1 H1 s1 d1 => ⟨B1, ds, _, s1.bh, d1, hR, fun d' v B2 H2 e s2 d2 => by cases e; exact k v B2 H2 (s1.trans s2) d2, fun c B2 H2 e => by cases e⟩
theorem er_callS {R : List PyData → Res → Prop} (h : EvA G ta Γ ds) (hR : R ds (.err c)) : ErD G W (tCallS (spR G.K R) (WE W) ta) Γ c := fun B0 H0 B H σ En Q k =>
  h B0 H0 B H σ En _ fun vs B1 H1 s1 d1 => ⟨B1, ds, _, s1.bh, d1, hR, fun d' v B2 H2 e => (by cases e), fun c B2 H2 e s2 => by cases e; exact k B2 H2 (s1.trans s2)⟩
theorem ek_call {R : List PyData → Res → Prop} (h : EvA G ta Γ ds) (hR : R ds (.err c)) : ErK G (fun E => tCall (spR G.K R) [] E ta) Γ c := fun E B0 H0 B H σ En Q k =>
  h B0 H0 B H σ En _ fun vs B1 H1 s1 d1 => ⟨B1, ds, _, s1.bh, by rw [List.append_nil]; exact d1, hR, fun d' v B2 H2 e => (by cases e), fun c B2 H2 e s2 => by cases e; exact k B2 H2 (s1.trans s2)⟩
theorem er_tup (h : ErA G W ta Γ c) : ErD G W (tTup ta) Γ c := fun B0 H0 B H σ En Q k => h B0 H0 B H σ En _ k
theorem er_cb {r : List V → Hp → VK → Prop} (h : ErA G W ta Γ c) : ErD G W (tCB r ta) Γ c := fun B0 H0 B H σ En Q k => h B0 H0 B H σ En _ k
theorem era_head (h : ErD G W te Γ c) : ErA G W (tCons te ta) Γ c := fun B0 H0 B H σ En Q k => h B0 H0 B H σ En _ k
theorem era_tail (h1 : EvD G te Γ d) (h : ErA G W ta Γ c) : ErA G W (tCons te ta) Γ c := fun B0 H0 B H σ En Q k =>
  h1 B0 H0 B H σ En _ fun v B1 H1 s1 d1 => h B0 H0 B1 H1 σ (En.step s1) _ fun B2 H2 s2 => k B2 H2 (s1.trans s2)
theorem wp_retEr (h : ErD G W te Γ c) (k : P.er c Γ) : WpD G W (tRet te) Γ P := fun B0 H0 B H σ D En M => h B0 H0 B H σ En _ fun B2 H2 s => M.er _ _ _ _ _ k s.bb (En.step s)
theorem wp_asgEr {g : TG} (h : ErD G W te Γ c) (k : P.er c Γ) : WpD G W (tAsg te g) Γ P := fun B0 H0 B H σ D En M => h B0 H0 B H σ En _ fun B2 H2 s => M.er _ _ _ _ _ k s.bb (En.step s)
theorem wp_dropEr (h : ErD G W te Γ c) (k : P.er c Γ) : WpD G W (tDrop te) Γ P := fun B0 H0 B H σ D En M => h B0 H0 B H σ En _ fun B2 H2 s => M.er _ _ _ _ _ k s.bb (En.step s)
theorem wp_appEr {i : Nat} (hi : Γ[i]? = some (.own ds)) (h : ErD G W te Γ c) (k : P.er c Γ) : WpD G W (tDrop (tBM G.K "list" rAppend (tVar i) (tCons te tNil))) Γ P := fun B0 H0 B H σ D En M => by
  obtain ⟨p, vs, e1, e2, e3, e4, e5⟩ := En.own hi
  exact ⟨.ref p, e1, .inl ⟨rfl, vs, SqL.of e4⟩, h B0 H0 B H σ En _ fun B2 H2 s => M.er _ _ _ _ _ k s.bb (En.step s)⟩
/-- a list comprehension, all its elements come out -/
theorem ef_lcS {α : Type} {wi : TI} {vs : List Nat} {j : Nat} {f : α → PyData} {zs : List α} {tk : XK → TE} {h : α → PyData} (hi : ItD G wi Γ (zs.map f)) (hz : zs.length ≤ 50000) (hv : j ∈ vs)
    (he : ∀ y ∈ zs, ∀ E, EvD G (tk E) ((wipeE Γ vs).set j (.dat (f y))) (h y)) : EvF G (tLcS W wi (gName j) tYes tk vs) Γ (zs.map h) := fun B0 H0 B H σ En Q k =>
  ef_lcm hi hz hv (fun y hy => he y hy _) B0 H0 B H σ En Q k
/-- one of its elements raises -/
theorem er_lcS {α : Type} {wi : TI} {vs : List Nat} {j : Nat} {f : α → PyData} {ys : List α} {tk : XK → TE} {h : α → PyData} (n : Nat) (y0 : α) (hi : ItD G wi Γ (ys.map f)) (hz : ys.length ≤ 50000) (hv : j ∈ vs) (hn : ys[n]? = some y0)
    (he : ∀ y ∈ ys.take n, ∀ E, EvD G (tk E) ((wipeE Γ vs).set j (.dat (f y))) (h y)) (hx : ErK G tk ((wipeE Γ vs).set j (.dat (f y0))) c) : ErD G W (tLcS W wi (gName j) tYes tk vs) Γ c := fun B0 H0 B H σ E Q k =>
  hi B0 H0 B H σ E _ fun J B1 H1 s1 w => fun Dl hD => by
    have E1 := E.step s1
    have hnl : n < ys.length := (List.getElem?_eq_some_iff.mp hn).1
    unfold WalksD at w
    rw [List.length_map] at w
    refine ⟨fun i m H' => m = n - i ∧ i ≤ n ∧ ∃ B' ws, Stp B1 H1 B' H' ∧ B' Dl = none ∧ H' Dl = some (.lst ws) ∧ DpAll G.K B' ws ((ys.take i).map h),
      ⟨n, by simp, Nat.zero_le _, B1, [], (Stp.refl s1.bh).own hD, s1.bh.back hD, upd_same, by simp; exact .nil⟩, ?_⟩
    rintro i m H' ⟨rfl, hle, B', ws, s2, nB, hH, hd⟩
    obtain ⟨w1, w2⟩ := w i B' H' s2.bb s2.bh (E1.step s2).wd
    have hlt : i < ys.length := by omega
    obtain ⟨go, yl⟩ := w1 hlt
    refine .inr ⟨go, fun H3 => i < n ∧ ∃ B3 ws3, Stp B1 H1 B3 H3 ∧ B3 Dl = none ∧ H3 Dl = some (.lst ws3) ∧ DpAll G.K B3 ws3 ((ys.take (i + 1)).map h), fun H3 ⟨a0, B3, ws3, a1, a2, a3, a4⟩ => ⟨n - (i + 1), by omega, rfl, a0, B3, ws3, a1, a2, a3, a4⟩, fun x H'' hy => ?_⟩
    obtain ⟨B'', d, s3, hx2, hdx⟩ := yl x H'' hy
    have hy' : ys[i]? = some ys[i] := List.getElem?_eq_getElem hlt
    have hmt : i < n → ys[i] ∈ ys.take n := fun z => List.mem_of_getElem? (i := i) (by rw [List.getElem?_take, if_pos z]; exact hy')
    generalize ys[i] = y at hy' hmt
    have hdy : d = f y := by rw [List.getElem?_map, hy'] at hx2; exact (Option.some.inj hx2).symm
    subst hdy
    have hD'' : H'' Dl = some (.lst ws) := s3.hh Dl _ hH
    have nB'' : B'' Dl = none := s3.hid Dl _ hH nB
    have s23 := s2.trans s3
    have E3 := (E1.step s23).wipe vs
    refine tg_name B0 H0 B'' H'' _ E3 x hdx _ fun σ2 E4 hw => ⟨by rw [hw vs (by simpa using hv), wipe_wipe], ?_⟩
    show tk _ σ2 H'' _
    by_cases hin : i < n
    · refine he y (hmt hin) _ B0 H0 B'' H'' σ2 E4 _ fun z B5 H5 s5 d5 => ?_
      have hD5 : H5 Dl = some (.lst ws) := s5.hh Dl _ hD''
      have nB5 : B5 Dl = none := s5.hid Dl _ hD'' nB''
      have hl : ws.length ≤ i := by
        rw [dpa_len hd, List.length_map, List.length_take]; omega
      refine ⟨ws, hD5, Evl.sz_lt (by omega), hin, B5, ws ++ [z], ?_, nB5, upd_same, ?_⟩
      · have st := s23.trans s5
        refine ⟨st.bb, st.bh.mut nB5, fun a o ha => ?_, st.hid⟩
        rw [upd_ne (ne_of_none ha hD)]; exact st.hh a o ha
      · have htake : (ys.take (i + 1)) = ys.take i ++ [y] := by rw [List.take_add_one, hy']; rfl
        rw [htake, List.map_append]
        exact dpa_app ((s3.trans s5).bb.dpa hd) (.cons d5 .nil)
    · have : i = n := by omega
      subst this
      rw [hn] at hy'; cases hy'
      exact hx _ B0 H0 B'' H'' σ2 E4 _ fun B5 H5 s5 => k B5 H5 (s1.trans (s23.trans s5))
end
end Pd

namespace Pd
open PySem L2
/-! ### zip of two tuples, targets of two names, and small things -/
theorem ki_zip {X : Cx} {K : PySem.W.Frag} {e e2 : Expr} {ta : TA} {p pos tpos : Pos} {elts : List Expr} {kk : Nat} (hK : X.K = K) (hg : Gl X "zip") (hm : X.mg "zip" = none) (ha : PA X [e, e2] ta)
    (hs : starEach [e, e2] X.env = (false, eval e X.env) :: starEach [e2] X.env := by rfl) (hpl : (backTo pos (starEach [e2] X.env)).any (·.1) = false := by rfl) :
    PI X (.Tuple elts kk tpos) (.Call (.Name "zip" p) [e, e2] [] pos) (RZ.iZipA K ta) := hK ▸ RZ.pi_zipA hg hm ha hs hpl
section
variable {G : Gd} {W : WX} {Γ : List Ent} {te : TE} {ta tb : TE} {tA : TA} {tt : TT} {d x y : PyData} {ds xs ys : List PyData} {P : Post} {i : Int}
theorem zip_get {α β γ : Type} {f : α → β → γ} {xs : List α} {ys : List β} {k : Nat} (h : k < (List.zipWith f xs ys).length) : ∃ a b, xs[k]? = some a ∧ ys[k]? = some b ∧ (List.zipWith f xs ys)[k]? = some (f a b) := by
  rw [List.length_zipWith] at h
  have h1 : k < xs.length := by omega
  have h2 : k < ys.length := by omega
  refine ⟨_, _, List.getElem?_eq_getElem h1, List.getElem?_eq_getElem h2, ?_⟩
  rw [List.getElem?_zipWith, List.getElem?_eq_getElem h1, List.getElem?_eq_getElem h2]
theorem it_zip_tup (h : EvA G tA Γ [.tuple xs, .tuple ys]) : ItD G (RZ.iZipA G.K tA) Γ (List.zipWith (fun a b => .tuple [a, b]) xs ys) := fun B0 H0 B H σ E R k =>
  h B0 H0 B H σ E _ fun vs B1 H1 s1 d1 => by
    cases d1 with
    | cons a1 a2 =>
      cases a2 with
      | cons a2 a3 =>
        cases a3
        cases a1 with
        | @tup a ws _ g1 v1 =>
          cases a2 with
          | @tup b us _ g2 v2 =>
            refine ⟨a, b, ws, us, rfl, .inr ⟨s1.bh.st g1, s1.bh.st g2, k _ B1 H1 s1 fun i B' H' e1 e2 _ => ⟨fun hi => ?_, fun hi => ?_⟩⟩⟩
            · obtain ⟨p, q, hp, hq, hz⟩ := zip_get hi
              obtain ⟨u, f1, f2⟩ := dpa_get v1 hp
              obtain ⟨u', f3, f4⟩ := dpa_get v2 hq
              refine ⟨⟨ws, us, u, u', e2.st (e1.st g1), e2.st (e1.st g2), f1, f3⟩, fun x H'' hy => ?_⟩
              obtain ⟨T, x', y', rfl, hT, rfl, k1, k2⟩ := hy
              have := k1 ws (e2.st (e1.st g1))
              rw [f1] at this; cases this
              have := k2 us (e2.st (e1.st g2))
              rw [f3] at this; cases this
              refine ⟨upd B' T (.tup [u, u']), _, (Stp.refl e2).new hT, hz, .tup (SqT.of upd_same) ?_⟩
              exact (Ex.new (e2.back hT)).dpa (.cons (e1.dp f2) (.cons (e1.dp f4) .nil))
            · rw [List.length_zipWith] at hi
              exact ⟨ws, us, e2.st (e1.st g1), e2.st (e1.st g2), by rw [dpa_len v1, dpa_len v2]; omega⟩
/-- [e for a, b in ..] -/
theorem w_lc2 {α : Type} {wi : TI} {vs : List Nat} {j k : Nat} {c1 c2 : α → PyData} {zs : List α} {h : α → PyData} (hi : ItD G wi Γ (zs.map fun z => .tuple [c1 z, c2 z])) (hz : Side (zs.length ≤ 50000)) (hv : Side (j ∈ vs)) (hw : Side (k ∈ vs))
    (he : ∀ y ∈ zs, EvD G te (((wipeE Γ vs).set j (.dat (c1 y))).set k (.dat (c2 y))) (h y)) : EvF G (tLc wi (gTup G.K 2 (gCons (gName j) (gCons (gName k) gNil))) tYes te vs) Γ (zs.map h) := by
  have := ef_lc (G := G) (tt := tYes) (te := te) [j, k] (fun y => ((wipeE Γ vs).set j (.dat (c1 y))).set k (.dat (c2 y))) (fun _ => true) h hi hz.out (by simp; exact ⟨hv.out, hw.out⟩) (fun y _ => tg_tup2) (fun y hy => et_yes) (fun y hy _ => he y hy)
  rw [List.filter_eq_self.mpr (fun _ _ => rfl)] at this
  exact this
theorem ev_ifT (h : EvT G tt Γ true) (h1 : EvD G ta Γ d) : EvD G (tIf tt ta tb) Γ d := ev_if h (fun _ => h1) (fun z => by cases z)
theorem ev_ifF (h : EvT G tt Γ false) (h1 : EvD G tb Γ d) : EvD G (tIf tt ta tb) Γ d := ev_if h (fun z => by cases z) (fun _ => h1)
theorem w_ifxT {b : Bool} (h : EvT G tt Γ b) (e : SideR (b = true)) (h1 : EvD G ta Γ d) : EvD G (tIf tt ta tb) Γ d := ev_if h (fun _ => h1) (fun z => by rw [e.out] at z; cases z)
theorem w_ifxF {b : Bool} (h : EvT G tt Γ b) (e : SideR (b = false)) (h1 : EvD G tb Γ d) : EvD G (tIf tt ta tb) Γ d := ev_if h (fun z => by rw [e.out] at z; cases z) (fun _ => h1)
theorem id_callS {sp : Sp} {ES : L2.St → XK} (h : EvD G (tCallS sp ES tA) Γ d) : EvD G (tCallS sp ES tA) Γ d := h
theorem atI_map {α : Type} {f : α → PyData} {xs : List α} (z : α) (h0 : 0 ≤ i) (h1 : i < xs.length) : atI (xs.map f) i = some (f (xs.getD i.toNat z)) := by
  have e : i = ((i.toNat : Nat) : Int) := by omega
  have hl : i.toNat < xs.length := by omega
  rw [e]
  refine atI_nat ?_
  rw [List.getElem?_map, List.getElem?_eq_getElem hl, Int.toNat_natCast, List.getD_eq_getElem?_getD, List.getElem?_eq_getElem hl]; rfl
theorem atI_getD {α : Type} {xs : List α} (z : α) (h0 : 0 ≤ i) (h1 : i < xs.length) : atI xs i = some (xs.getD i.toNat z) := by
  have e : i = ((i.toNat : Nat) : Int) := by omega
  have hl : i.toNat < xs.length := by omega
  rw [e]
  refine atI_nat ?_
  rw [List.getElem?_eq_getElem hl, Int.toNat_natCast, List.getD_eq_getElem?_getD, List.getElem?_eq_getElem hl]; rfl
theorem getD_mem {α : Type} {xs : List α} {z : α} (h0 : 0 ≤ i) (h1 : i < xs.length) : xs.getD i.toNat z ∈ xs := by
  have hl : i.toNat < xs.length := by omega
  rw [List.getD_eq_getElem?_getD, List.getElem?_eq_getElem hl]
  exact List.getElem_mem hl
theorem c_sl_restL {x0 : PyData} (ha : EvD G ta Γ (.list (x0 :: ds))) : EvF G (tSl (rSlA G.K) ta (tPart (tC (.int 1))) tNoPart) Γ ds := by
  have := ef_sl_list ha (eo_some (G := G) (Γ := Γ) ev_int) eo_none (lo := some 1)
  rwa [cut_one] at this
theorem cutS_len (p : Str) (lo hi : Option Int) : (cutS p lo hi).length ≤ p.length := by
  unfold cutS Str.length
  simp
  omega
end
end Pd

namespace Pd
open PySem L2
/-! ### surroundings that change: S their states -/
structure Wl (K : PySem.W.Frag) (S : Type) where
  cells : S → List (Addr × HO)
  rel : S → Hp → Prop
  rup : ∀ s B B', Ex B B' → rel s B → rel s B'
abbrev Wl.g {K : PySem.W.Frag} {S : Type} (w : Wl K S) (s : S) : Gd := ⟨K, w.cells s, w.rel s, w.rup s⟩
theorem EnvB.less {G : Gd} {B0 H0 H0' B H : Hp} {σ : L2.St} {Γ : List Ent} (E : EnvB G B0 H0' B H σ Γ) (x : Ex H0 H0') : EnvB G B0 H0 B H σ Γ :=
  ⟨⟨E.stp.bb, E.stp.bh, x.trans E.stp.hh, fun a o h z => E.stp.hid a o (x a o h) z⟩, E.wd, E.len, fun i y e h1 h2 => by
    have z := E.get i y e h1 h2
    cases e with
    | own ds =>
      obtain ⟨p, vs, e1, e2, e3, e4, e5⟩ := z
      exact ⟨p, vs, e1, e2, x.back e3, e4, e5⟩
    | _ => exact z, E.dis, E.off⟩
/-- without what is told of cells -/
theorem EnvB.forget {G : Gd} {B0 H0 B H : Hp} {σ : L2.St} {Γ : List Ent} (E : EnvB G B0 H0 B H σ Γ) : EnvB (.pure G.K) B0 H0 B H σ Γ :=
  ⟨E.stp, ⟨fun c hc => (nomatch hc), trivial⟩, E.len, fun i x e h1 h2 => by
    have z := E.get i x e h1 h2
    cases e <;> exact z, E.dis, fun i p ds h1 h2 z => (nomatch z)⟩
/-- the cells counted to what stood at the entry -/
def withC (G : Gd) (H H0 : Hp) : Hp := fun a => if a ∈ G.foot then H a else H0 a
theorem EnvB.more {G : Gd} {B0 H0 B H : Hp} {σ : L2.St} {Γ : List Ent} (E : EnvB G B0 H0 B H σ Γ) : EnvB G B0 (withC G H H0) B H σ Γ := by
  refine ⟨⟨E.stp.bb, E.stp.bh, fun a o h => ?_, fun a o h z => ?_⟩, E.wd, E.len, fun i y e h1 h2 => ?_, E.dis, E.off⟩
  · unfold withC at h
    split at h
    · exact h
    · exact E.stp.hh a o h
  · unfold withC at h
    split at h
    · rename_i hm; exact (E.wd.there hm).2
    · exact E.stp.hid a o h z
  · have z := E.get i y e h1 h2
    cases e with
    | own ds =>
      obtain ⟨p, vs, e1, e2, e3, e4, e5⟩ := z
      subst e1
      refine ⟨p, vs, rfl, e2, ?_, e4, e5⟩
      unfold withC
      rw [if_neg (E.off i p ds h2 h1)]; exact e3
    | _ => exact z
theorem withC_ex {G : Gd} {H H0 : Hp} (hf : ∀ a ∈ G.foot, H0 a = none) : Ex H0 (withC G H H0) := fun a o h => by
  unfold withC
  rw [if_neg (fun m => by rw [hf a m] at h; cases h)]; exact h
def EnvW (G : Gd) (B0 H0 B H : Hp) (σ : L2.St) (Γ : List Ent) : Prop := EnvB G B0 H0 B H σ Γ ∧ ∀ a ∈ G.foot, H0 a = none
/-- a value as an entry tells it: data, or the value itself -/
def EntV (K : PySem.W.Frag) (B : Hp) (v : V) : Ent → Prop
  | .dat d => Dp K B v d
  | .val u => v = u
  | _ => False
inductive EntVs (K : PySem.W.Frag) (B : Hp) : List V → List Ent → Prop
  | nil : EntVs K B [] []
  | cons {v : V} {e : Ent} {vs : List V} {es : List Ent} : EntV K B v e → EntVs K B vs es → EntVs K B (v :: vs) (e :: es)
theorem EntV.up {K : PySem.W.Frag} {B B2 : Hp} (x : Ex B B2) {v : V} : ∀ {e : Ent}, EntV K B v e → EntV K B2 v e
  | .dat _, h => x.dp h
  | .val _, h => h
  | .no, h => h.elim
  | .own _, h => h.elim
theorem EntVs.up {K : PySem.W.Frag} {B B2 : Hp} (x : Ex B B2) {vs : List V} {es : List Ent} (h : EntVs K B vs es) : EntVs K B2 vs es := by
  induction h with
  | nil => exact .nil
  | cons h1 _ ih => exact .cons (h1.up x) ih
theorem EntVs.len {K : PySem.W.Frag} {B : Hp} {vs : List V} {es : List Ent} (h : EntVs K B vs es) : vs.length = es.length := by
  induction h with
  | nil => rfl
  | cons _ _ ih => simp [ih]
structure PostW (S : Type) where
  nx : List Ent → S → Prop
  bk : List Ent → S → Prop := fun _ _ => False
  ct : List Ent → S → Prop := fun _ _ => False
  rt : Ent → S → Prop
  er : Addr → List Ent → S → Prop := fun _ _ _ => False
section
variable {K : PySem.W.Frag} {S : Type} (w : Wl K S)
structure MtW (W : WX) (B0 H0 B : Hp) (D : Ends) (P : PostW S) : Prop where
  nx : ∀ Γ2 s2 B2 H2 σ2, P.nx Γ2 s2 → Ex B B2 → EnvW (w.g s2) B0 H0 B2 H2 σ2 Γ2 → D.nx σ2 H2
  bk : ∀ Γ2 s2 B2 H2 σ2, P.bk Γ2 s2 → Ex B B2 → EnvW (w.g s2) B0 H0 B2 H2 σ2 Γ2 → D.bk σ2 H2
  ct : ∀ Γ2 s2 B2 H2 σ2, P.ct Γ2 s2 → Ex B B2 → EnvW (w.g s2) B0 H0 B2 H2 σ2 Γ2 → D.ct σ2 H2
  rt : ∀ e s2 v B2 H2, P.rt e s2 → Ex B B2 → Stp B0 H0 B2 H2 → (w.g s2).Wd B2 H2 → (∀ a ∈ (w.g s2).foot, H0 a = none) → EntV K B2 v e → D.rt v H2
  er : ∀ c Γ2 s2 B2 H2 σ2, P.er c Γ2 s2 → Ex B B2 → EnvW (w.g s2) B0 H0 B2 H2 σ2 Γ2 → W (.ref c) none σ2 H2
def WpW (W : WX) (ts : TS) (Γ : List Ent) (s : S) (P : PostW S) : Prop :=
  ∀ (B0 H0 B H : Hp) (σ : L2.St) (D : Ends), EnvW (w.g s) B0 H0 B H σ Γ → MtW w W B0 H0 B D P → ts D σ H
/-- what an expression comes to, and the surroundings behind it -/
def EvW (te : TE) (Γ : List Ent) (s : S) (N : Ent → S → Prop) : Prop :=
  ∀ (B0 H0 B H : Hp) (σ : L2.St), EnvW (w.g s) B0 H0 B H σ Γ → ∀ Q : VK, (∀ e s2 v B2 H2, N e s2 → Ex B B2 → EnvW (w.g s2) B0 H0 B2 H2 σ Γ → EntV K B2 v e → Q v H2) → te σ H Q
end
/-- arguments that leave the surroundings as they are -/
def EvAE (G : Gd) (ta : TA) (Γ : List Ent) (es : List Ent) : Prop :=
  ∀ (B0 H0 B H : Hp) (σ : L2.St), EnvB G B0 H0 B H σ Γ → ∀ Q : List V → Hp → Prop, (∀ vs B2 H2, Stp B H B2 H2 → EntVs G.K B2 vs es → Q vs H2) → ta σ H Q
def EvE (G : Gd) (te : TE) (Γ : List Ent) (e : Ent) : Prop :=
  ∀ (B0 H0 B H : Hp) (σ : L2.St), EnvB G B0 H0 B H σ Γ → ∀ Q : VK, (∀ v B2 H2, Stp B H B2 H2 → EntV G.K B2 v e → Q v H2) → te σ H Q
section
variable {G : Gd} {te : TE} {ta : TA} {Γ : List Ent} {d : PyData} {e : Ent} {es : List Ent} {v : V} {i : Nat}
theorem ee_dat (h : EvD G te Γ d) : EvE G te Γ (.dat d) := h
theorem ee_val (h : Γ[i]? = some (.val v)) : EvE G (tVar i) Γ (.val v) := fun B0 H0 B H σ E Q k => by
  have h1 := E.val h
  exact ⟨v, h1, k v B H (Stp.refl E.stp.bh) rfl⟩
theorem eae_nil : EvAE G tNil Γ [] := fun B0 H0 B H σ E Q k => k [] B H (Stp.refl E.stp.bh) .nil
theorem eae_cons (h : EvE G te Γ e) (hr : EvAE G ta Γ es) : EvAE G (tCons te ta) Γ (e :: es) := fun B0 H0 B H σ E Q k =>
  h B0 H0 B H σ E _ fun v B1 H1 s1 d1 => hr B0 H0 B1 H1 σ (E.step s1) _ fun vs B2 H2 s2 d2 => k _ B2 H2 (s1.trans s2) (.cons (d1.up s2.bb) d2)
end
section
variable {K : PySem.W.Frag} {S : Type} {w : Wl K S} {W : WX} {ts tu tz : TS} {tt : TT} {te : TE} {Γ : List Ent} {s : S} {P : PostW S} {d : PyData} {b : Bool} {xs : List PyData}
theorem EnvW.step {G : Gd} {B0 H0 B H B2 H2 : Hp} {σ : L2.St} (E : EnvW G B0 H0 B H σ Γ) (st : Stp B H B2 H2) : EnvW G B0 H0 B2 H2 σ Γ := ⟨E.1.step st, E.2⟩
theorem MtW.up {B0 H0 B B1 : Hp} {D : Ends} (M : MtW w W B0 H0 B D P) (e : Ex B B1) : MtW w W B0 H0 B1 D P :=
  ⟨fun _ _ _ _ _ a b => M.nx _ _ _ _ _ a (e.trans b), fun _ _ _ _ _ a b => M.bk _ _ _ _ _ a (e.trans b), fun _ _ _ _ _ a b => M.ct _ _ _ _ _ a (e.trans b), fun _ _ _ _ _ a b => M.rt _ _ _ _ _ a (e.trans b), fun _ _ _ _ _ _ a b => M.er _ _ _ _ _ _ a (e.trans b)⟩
abbrev PostW.at (P : PostW S) (s : S) : Post := { nx := fun Γ => P.nx Γ s, bk := fun Γ => P.bk Γ s, ct := fun Γ => P.ct Γ s, rt := fun d => P.rt (.dat d) s, er := fun c Γ => P.er c Γ s }
/-- what leaves the surroundings as they are -/
theorem ww_pure (h : WpD (w.g s) W ts Γ (P.at s)) : WpW w W ts Γ s P := fun B0 H0 B H σ D E M => by
  have x := withC_ex (H := H) E.2
  have fin : ∀ {B2 H2 : Hp} {σ2 : L2.St} {Γ2 : List Ent}, EnvB (w.g s) B0 (withC (w.g s) H H0) B2 H2 σ2 Γ2 → EnvW (w.g s) B0 H0 B2 H2 σ2 Γ2 := fun E2 => ⟨E2.less x, E.2⟩
  refine h B0 (withC (w.g s) H H0) B H σ D E.1.more ⟨fun Γ2 B2 H2 σ2 a b c => M.nx _ s _ _ _ a b (fin c), fun Γ2 B2 H2 σ2 a b c => M.bk _ s _ _ _ a b (fin c), fun Γ2 B2 H2 σ2 a b c => M.ct _ s _ _ _ a b (fin c), fun d v B2 H2 a st b dp => ?_, fun c Γ2 B2 H2 σ2 a b c' => M.er _ _ s _ _ _ a b (fin c')⟩
  refine M.rt (.dat d) s v B2 H2 a b ⟨st.bb, st.bh, x.trans st.hh, fun a o h z => st.hid a o (x a o h) z⟩ ⟨fun c hc => ?_, w.rup s _ _ b E.1.wd.2⟩ E.2 dp
  have hm : c.1 ∈ (w.g s).foot := Gd.mem_foot hc
  have h1 : withC (w.g s) H H0 c.1 = some c.2 := by unfold withC; rw [if_pos hm]; exact (E.1.wd.1 c hc).1
  refine ⟨st.hh _ _ h1, st.hid _ _ h1 ?_⟩
  exact E.1.stp.bb.back (E.1.wd.1 c hc).2
theorem WpW.mono {P' : PostW S} (h : WpW w W ts Γ s P) (h1 : ∀ Γ' s', P.nx Γ' s' → P'.nx Γ' s') (h2 : ∀ Γ' s', P.bk Γ' s' → P'.bk Γ' s') (h3 : ∀ Γ' s', P.ct Γ' s' → P'.ct Γ' s') (h4 : ∀ e s', P.rt e s' → P'.rt e s') (h5 : ∀ c Γ' s', P.er c Γ' s' → P'.er c Γ' s') : WpW w W ts Γ s P' := fun B0 H0 B H σ D E M =>
  h B0 H0 B H σ D E ⟨fun _ _ _ _ _ a => M.nx _ _ _ _ _ (h1 _ _ a), fun _ _ _ _ _ a => M.bk _ _ _ _ _ (h2 _ _ a), fun _ _ _ _ _ a => M.ct _ _ _ _ _ (h3 _ _ a), fun _ _ _ _ _ a => M.rt _ _ _ _ _ (h4 _ _ a), fun _ _ _ _ _ _ a => M.er _ _ _ _ _ _ (h5 _ _ _ a)⟩
theorem ww_cut (N : List Ent → S → Prop) (h : WpW w W ts Γ s { P with nx := N }) (k : ∀ Γ' s', N Γ' s' → P.nx Γ' s') : WpW w W ts Γ s P := h.mono k (fun _ _ z => z) (fun _ _ z => z) (fun _ _ z => z) fun _ _ _ z => z
theorem ww_seq (h : WpW w W ts Γ s { P with nx := fun Γ' s' => WpW w W tu Γ' s' P }) : WpW w W (tSeq ts tu) Γ s P := fun B0 H0 B H σ D E M =>
  h B0 H0 B H σ { D with nx := tu D } E ⟨fun Γ2 s2 B2 H2 σ2 a b E2 => a B0 H0 B2 H2 σ2 D E2 (M.up b), M.bk, M.ct, M.rt, M.er⟩
theorem ww_next (h : P.nx Γ s) : WpW w W tNext Γ s P := fun B0 H0 B H σ D E M => M.nx Γ s B H σ h Ex.rfl' E
theorem ww_if (h : EvT (w.g s) tt Γ b) (h1 : b = true → WpW w W tu Γ s P) (h2 : b = false → WpW w W tz Γ s P) : WpW w W (tIfS tt tu tz) Γ s P := fun B0 H0 B H σ D E M =>
  h B0 H0 B H σ E.1 _ fun B1 H1 s1 => by
    cases b with
    | true => exact h1 rfl B0 H0 B1 H1 σ D (E.step s1) (M.up s1.bb)
    | false => exact h2 rfl B0 H0 B1 H1 σ D (E.step s1) (M.up s1.bb)
theorem EnvB.set_ent {G : Gd} {B0 H0 B H : Hp} {σ : L2.St} (E : EnvB G B0 H0 B H σ Γ) (i : Nat) {v : V} : ∀ {e : Ent}, EntV G.K B v e → EnvB G B0 H0 B H (σ.set i (some v)) (Γ.set i e)
  | .dat _, h => E.set_dat i h
  | .val u, h => by cases h; exact E.set_val i _
  | .no, h => h.elim
  | .own _, h => h.elim
theorem ww_asg {i : Nat} {N : Ent → S → Prop} (h : EvW w te Γ s N) (k : ∀ e s2, N e s2 → P.nx (Γ.set i e) s2) : WpW w W (tAsg te (gName i)) Γ s P := fun B0 H0 B H σ D E M =>
  h B0 H0 B H σ E _ fun e s2 v B2 H2 n x E2 dv => M.nx _ _ _ _ _ (k e s2 n) x ⟨E2.1.set_ent i dv, E2.2⟩
theorem ww_drop {N : Ent → S → Prop} (h : EvW w te Γ s N) (k : ∀ e s2, N e s2 → P.nx Γ s2) : WpW w W (tDrop te) Γ s P := fun B0 H0 B H σ D E M =>
  h B0 H0 B H σ E _ fun e s2 v B2 H2 n x E2 dv => M.nx _ _ _ _ _ (k e s2 n) x E2
theorem ww_ret {N : Ent → S → Prop} (h : EvW w te Γ s N) (k : ∀ e s2, N e s2 → P.rt e s2) : WpW w W (tRet te) Γ s P := fun B0 H0 B H σ D E M =>
  h B0 H0 B H σ E _ fun e s2 v B2 H2 n x E2 dv => M.rt e s2 v B2 H2 (k e s2 n) x E2.1.stp E2.1.wd E2.2 dv
theorem ew_ee {e : Ent} {N : Ent → S → Prop} (h : EvE (w.g s) te Γ e) (k : N e s) : EvW w te Γ s N := fun B0 H0 B H σ E Q q =>
  h B0 H0 B H σ E.1 _ fun v B2 H2 st dv => q e s v B2 H2 k st.bb (E.step st) dv
theorem ww_know {φ : Prop} (h : ∀ B, w.rel s B → φ) (k : φ → WpW w W ts Γ s P) : WpW w W ts Γ s P := fun B0 H0 B H σ D E M => k (h B E.1.wd.2) B0 H0 B H σ D E M
/-- a for whose turns change the surroundings -/
theorem ww_forn {wi : TI} {j : Nat} {tb : TS} (I : Nat → List Ent → S → Prop) (hi : ItD (.pure K) wi Γ xs) (h0 : I 0 Γ s)
    (hs : ∀ i x Γ' s', xs[i]? = some x → I i Γ' s' → WpW w W tb (Γ'.set j (.dat x)) s' { P with nx := I (i + 1), ct := I (i + 1), bk := P.nx }) (hd : ∀ Γ' s', I xs.length Γ' s' → P.nx Γ' s') : WpW w W (tFor wi (gName j) tb) Γ s P := fun B0 H0 B H σ D E M =>
  hi B0 H0 B H σ E.1.forget _ fun J B1 H1 s1 wk => by
    refine ⟨fun i m σ' H' => m = xs.length - i ∧ i ≤ xs.length ∧ ∃ Γ' s' B', I i Γ' s' ∧ Ex B1 B' ∧ EnvW (w.g s') B0 H0 B' H' σ' Γ', ⟨xs.length, by simp, Nat.zero_le _, Γ, s, B1, h0, Ex.rfl', E.step s1⟩, ?_⟩
    rintro i m σ' H' ⟨rfl, hle, Γ', s', B', hI, e1, E'⟩
    obtain ⟨w1, w2⟩ := wk i B' H' e1 E'.1.stp.bh ⟨fun c hc => (nomatch hc), trivial⟩
    by_cases hlt : i < xs.length
    · obtain ⟨go, yl⟩ := w1 hlt
      refine .inr ⟨go, fun σ3 H3 => ∃ Γ3 s3 B3, I (i + 1) Γ3 s3 ∧ Ex B1 B3 ∧ EnvW (w.g s3) B0 H0 B3 H3 σ3 Γ3, fun σ3 H3 ⟨Γ3, s3, B3, a1, a2, a3⟩ => ⟨xs.length - (i + 1), by omega, rfl, hlt, Γ3, s3, B3, a1, a2, a3⟩, fun x H'' hy => ?_⟩
      obtain ⟨B'', d, s3, hx, hdx⟩ := yl x H'' hy
      have E2 := E'.step s3
      refine hs i d Γ' s' hx hI B0 H0 B'' H'' _ _ ⟨E2.1.set_dat j hdx, E2.2⟩ ⟨fun Γ3 s3' B3 H3 σ3 a1 a2 a3 => ⟨Γ3, s3', B3, a1, (e1.trans s3.bb).trans a2, a3⟩, fun Γ3 s3' B3 H3 σ3 a1 a2 a3 => M.nx _ _ _ _ _ a1 (((s1.bb.trans e1).trans s3.bb).trans a2) a3,
        fun Γ3 s3' B3 H3 σ3 a1 a2 a3 => ⟨Γ3, s3', B3, a1, (e1.trans s3.bb).trans a2, a3⟩, fun d s3' v B3 H3 a1 a2 => M.rt _ _ _ _ _ a1 (((s1.bb.trans e1).trans s3.bb).trans a2), fun c Γ3 s3' B3 H3 σ3 a1 a2 a3 => M.er _ _ _ _ _ _ a1 (((s1.bb.trans e1).trans s3.bb).trans a2) a3⟩
    · have e : i = xs.length := by omega
      subst e
      exact .inl ⟨w2 (Nat.le_refl _), M.nx _ _ _ _ _ (hd _ _ hI) (s1.bb.trans e1) E'⟩
/-- a list of a slot's own, shared from now on -/
theorem ww_freeze {i : Nat} {ds : List PyData} (hi : Γ[i]? = some (.own ds)) (k : WpW w W ts (Γ.set i (.dat (.list ds))) s P) : WpW w W ts Γ s P := fun B0 H0 B H σ D E M => by
  obtain ⟨B1, e, E1⟩ := E.1.freeze hi
  exact k B0 H0 B1 H σ D ⟨E1, E.2⟩ (M.up e)
end
/-! ### defs whose surroundings change -/
structure StW (fp fp2 : List Addr) (B H B2 H2 : Hp) : Prop where
  bb : Ex B B2
  bh : Ex B2 H2
  hh : ∀ a o, a ∉ fp → H a = some o → H2 a = some o
  hid : ∀ a o, a ∉ fp → H a = some o → B a = none → B2 a = none
  new : ∀ a ∈ fp2, a ∈ fp ∨ H a = none
inductive Out (S : Type) where
  | ok (e : Ent) (s : S) | err (c : Addr) (s : S)
def spW {S : Type} {K : PySem.W.Frag} (w : Wl K S) (R : List Ent → S → (Out S → Prop) → Prop) : Sp := fun vs H Q E => ∃ B es s N, Ex B H ∧ EntVs K B vs es ∧ (w.g s).Wd B H ∧ R es s N ∧
  (∀ e s2 v B2 H2, N (.ok e s2) → StW (w.g s).foot (w.g s2).foot B H B2 H2 → (w.g s2).Wd B2 H2 → EntV K B2 v e → Q v H2) ∧
  ∀ c s2 B2 H2, N (.err c s2) → StW (w.g s).foot (w.g s2).foot B H B2 H2 → (w.g s2).Wd B2 H2 → E (.ref c) none H2
section
variable {K : PySem.W.Frag} {S : Type} {w : Wl K S} {W : WX} {Γ : List Ent} {s s2 : S} {es : List Ent} {ta : TA} {E0 : XK}
theorem EnvW.world {B0 H0 B H B2 H2 : Hp} {σ : L2.St} (E : EnvW (w.g s) B0 H0 B H σ Γ) (st : StW (w.g s).foot (w.g s2).foot B H B2 H2) (wd : (w.g s2).Wd B2 H2) : EnvW (w.g s2) B0 H0 B2 H2 σ Γ := by
  have nf : ∀ a o, H0 a = some o → a ∉ (w.g s).foot := fun a o h m => by rw [E.2 a m] at h; cases h
  refine ⟨⟨⟨E.1.stp.bb.trans st.bb, st.bh, fun a o h => st.hh a o (nf a o h) (E.1.stp.hh a o h), fun a o h z => st.hid a o (nf a o h) (E.1.stp.hh a o h) (E.1.stp.hid a o h z)⟩, wd, E.1.len, fun i x e h1 h2 => ?_, E.1.dis, fun i p ds h1 h2 hm => ?_⟩, fun a hm => ?_⟩
  · have z := E.1.get i x e h1 h2
    cases e with
    | no => trivial
    | dat d => obtain ⟨v, z1, z2⟩ := z; exact ⟨v, z1, st.bb.dp z2⟩
    | val v => exact z
    | own ds =>
      obtain ⟨p, vs, z1, z2, z3, z4, z5⟩ := z
      subst z1
      have n := E.1.off i p ds h2 h1
      exact ⟨p, vs, rfl, st.hid p _ n z4 z2, z3, st.hh p _ n z4, st.bb.dpa z5⟩
  · obtain ⟨q, vs, e1, _, _, e4, _⟩ := E.1.own h1
    rw [e1] at h2; cases h2
    rcases st.new p hm with m | m
    · exact E.1.off i p ds h1 e1 m
    · rw [m] at e4; cases e4
  · rcases st.new a hm with m | m
    · exact E.2 a m
    · exact E.1.stp.hh.back m
theorem ew_call {R : List Ent → S → (Out S → Prop) → Prop} {N : Out S → Prop} (h : EvAE (w.g s) ta Γ es) (hR : R es s N) (hN : ∀ c s2, ¬ N (.err c s2)) : EvW w (tCall (spW w R) [] E0 ta) Γ s fun e s2 => N (.ok e s2) := fun B0 H0 B H σ E Q k =>
  h B0 H0 B H σ E.1 _ fun vs B1 H1 s1 d1 => by
    have E1 := E.step s1
    refine ⟨B1, es, s, N, s1.bh, by rw [List.append_nil]; exact d1, E1.1.wd, hR, fun e s2 v B2 H2 n st wd dv => ?_, fun c s2 B2 H2 n => absurd n (hN c s2)⟩
    exact k e s2 v B2 H2 n (s1.bb.trans st.bb) (E1.world st wd) dv
end
/-- the slots at the entry -/
def entryE (N : List Str) (es : List Ent) : List Ent := es ++ List.replicate (N.length - es.length) .no
theorem EntVs.get {K : PySem.W.Frag} {B : Hp} : ∀ {vs : List V} {es : List Ent} {i : Nat} {e : Ent}, EntVs K B vs es → es[i]? = some e → ∃ v, vs[i]? = some v ∧ EntV K B v e
  | _, _, _, _, .nil, h => by simp at h
  | _, _, 0, _, .cons h1 _, h => by simp at h; subst h; exact ⟨_, rfl, h1⟩
  | _, _, i + 1, e, .cons _ h2, h => by
    obtain ⟨v, e1, e2⟩ := h2.get (i := i) (by simpa using h)
    exact ⟨v, by simpa using e1, e2⟩
def cutH (H : Hp) (l : List Addr) : Hp := fun a => if a ∈ l then none else H a
theorem entry_envW {G : Gd} {B H : Hp} {N : List Str} {vs : List V} {es : List Ent} (e : Ex B H) (wd : G.Wd B H) (h : EntVs G.K B vs es) : EnvW G B (cutH H G.foot) B H (L2.start N vs) (entryE N es) := by
  have hl := h.len
  have key : ∀ (i : Nat) (x : Option V) (en : Ent), (L2.start N vs)[i]? = some x → (entryE N es)[i]? = some en → (∃ v, x = some v ∧ EntV G.K B v en) ∨ en = .no := fun i x en h1 h2 => by
    unfold L2.start at h1
    unfold entryE at h2
    by_cases hi : i < es.length
    · rw [List.getElem?_append_left hi] at h2
      rw [List.getElem?_append_left (by simpa [hl] using hi), List.getElem?_map] at h1
      obtain ⟨v, e1, e2⟩ := h.get h2
      rw [e1] at h1; cases h1
      exact .inl ⟨v, rfl, e2⟩
    · rw [List.getElem?_append_right (by simpa using hi), List.getElem?_replicate] at h2
      split at h2
      · cases h2; exact .inr rfl
      · cases h2
  have noown : ∀ (i : Nat) (ds : List PyData), (entryE N es)[i]? ≠ some (.own ds) := fun i ds z => by
    have hi : i < (L2.start N vs).length := by
      have := (List.getElem?_eq_some_iff.mp z).1
      unfold entryE at this
      unfold L2.start
      simp [hl] at this ⊢; omega
    rcases key i _ _ (List.getElem?_eq_getElem hi) z with ⟨v, _, q⟩ | q
    · exact q
    · cases q
  refine ⟨⟨⟨Ex.rfl', e, fun a o h => ?_, fun a o _ z => z⟩, wd, by simp [L2.start, entryE, hl], fun i x en h1 h2 => ?_, fun i j p ds' es' _ h1 => absurd h1 (noown i ds'), fun i p ds h1 => absurd h1 (noown i ds)⟩, fun a m => ?_⟩
  · unfold cutH at h
    split at h
    · cases h
    · exact h
  · rcases key i x en h1 h2 with ⟨v, rfl, q⟩ | rfl
    · cases en with
      | no => trivial
      | dat d => exact ⟨v, rfl, q⟩
      | val u => cases q; exact rfl
      | own ds => exact q.elim
    · trivial
  · unfold cutH; rw [if_pos m]
section
variable {P : Program} {wo : World} {K : PySem.W.Frag} {mg : Str → Option Value} {base : Heap} {S : Type} {w : Wl K S}
theorem stW_of {s s2 : S} {B H B2 H2 : Hp} (st : Stp B (cutH H (w.g s).foot) B2 H2) (hf : ∀ a ∈ (w.g s2).foot, cutH H (w.g s).foot a = none) : StW (w.g s).foot (w.g s2).foot B H B2 H2 :=
  ⟨st.bb, st.bh, fun a o n h => st.hh a o (by unfold cutH; rw [if_neg n]; exact h), fun a o n h z => st.hid a o (by unfold cutH; rw [if_neg n]; exact h) z, fun a m => by
    have := hf a m
    unfold cutH at this
    split at this
    · rename_i q; exact .inl q
    · exact .inr this⟩
theorem fn_okW {x qual : Str} {st : Stmt} {f : Addr} {fd : FuncData} {N ps : List Str} {k : Nat} {R : List Ent → S → (Out S → Prop) → Prop} (F : Fun K x qual st f fd) (Sc : FnScope N ps (defScope st)) (len : ∀ es s O, R es s O → es.length = ps.length)
    (hb : ∀ (cdv : Value) (A : Around) (outer : List Env) (s : Shared) (H : Hp) (E : XK), Room k (A.deeper (PyProof.Rows.envOfC qual (defScope st) s.heap.objs.size f cdv)) →
      ∃ t, PSs (cxOf CX0 P wo K mg base N qual (defScope st) f cdv A outer s H E).nox (defBody st) t ∧ ∀ es s0 O, R es s0 O → WpW w WNo t (entryE N es) s0 { nx := fun _ s2 => O (.ok (.dat .none) s2), rt := fun e s2 => O (.ok e s2) }) : FnOk P wo K mg base CX0 (k + 1) f fd ps (spW w R) := by
  refine F.ok Sc (fun vs H Q E h => ?_) (fun cdv A outer s H vs Q E hr h => ?_)
  · obtain ⟨B, es, s0, O, e, hd, wd, hR, _⟩ := h
    rw [hd.len]; exact len es s0 O hR
  · obtain ⟨B, es, s0, O, e, hd, wd, hR, q, _⟩ := h
    obtain ⟨t, ht, hw⟩ := hb cdv A outer s H E hr
    refine ⟨t, ht, hw es s0 O hR B _ B H _ _ (entry_envW e wd hd) ⟨fun Γ2 s2 B2 H2 σ2 a b c => ?_, fun _ _ _ _ _ a => a.elim, fun _ _ _ _ _ a => a.elim, fun e' s2 v B2 H2 a b st wd2 hf dv => ?_, fun _ _ _ _ _ _ a => a.elim⟩⟩
    · exact q (.dat .none) s2 .non B2 H2 a (stW_of c.1.stp c.2) c.1.wd .non
    · exact q e' s2 v B2 H2 a (stW_of st hf) wd2 dv
end
end Pd

namespace Pd
open PySem L2
/-! ### lists in cells of the surroundings -/
section
variable {G : Gd} {te tk : TE} {ta : TA} {Γ : List Ent} {d : PyData} {q : Addr} {vs : List V} {ds : List PyData} {v : V} {i : Nat} {k : Int}
/-- the cell q holds a list of these data -/
structure LsC (G : Gd) (q : Addr) (vs : List V) (ds : List PyData) : Prop where
  c : (q, HO.lst vs) ∈ G.cells
  d : ∀ B, G.rel B → DpAll G.K B vs ds
theorem cell_sl {B0 H0 B H : Hp} {σ : L2.St} (E : EnvB G B0 H0 B H σ Γ) (hc : (q, HO.lst vs) ∈ G.cells) : SqL G.K H q vs := SqL.of (E.wd.1 _ hc).1
theorem ed_clen (ht : EvE G te Γ (.val (.ref q))) (hc : (q, HO.lst vs) ∈ G.cells) : EvD G (tCB (rLen G.K) (tCons te tNil)) Γ (.int (vs.length : Int)) := fun B0 H0 B H σ E Q k =>
  ht B0 H0 B H σ E _ fun u B1 H1 s1 e => by
    cases e
    exact ⟨_, _, rfl, .inl ⟨_, cell_sl (E.step s1) hc, rfl⟩, k _ B1 H1 s1 (.int _)⟩
theorem ed_llen (ht : EvE G te Γ (.val (.ref q))) (hc : LsC G q vs ds) : EvD G (tCB (rLen G.K) (tCons te tNil)) Γ (.int (ds.length : Int)) := fun B0 H0 B H σ E Q k => by
  have e := dpa_len (hc.d B E.wd.2)
  have := ed_clen ht hc.c B0 H0 B H σ E Q
  rw [e] at this
  exact this k
theorem ee_cix (ht : EvE G te Γ (.val (.ref q))) (hc : (q, HO.lst vs) ∈ G.cells) (hk : EvD G tk Γ (.int k)) (h : atI vs k = some v) : EvE G (tOp (rIx G.K) te tk) Γ (.val v) := fun B0 H0 B H σ E Q kk =>
  ht B0 H0 B H σ E _ fun u B1 H1 s1 e => by
    cases e
    refine hk B0 H0 B1 H1 σ (E.step s1) _ fun w B2 H2 s2 d2 => ?_
    cases d2
    exact .inl ⟨_, _, k, v, rfl, rfl, cell_sl ((E.step s1).step s2) hc, h, kk v B2 H2 (s1.trans s2) rfl⟩
theorem ed_lix (ht : EvE G te Γ (.val (.ref q))) (hc : LsC G q vs ds) (hk : EvD G tk Γ (.int k)) (h : atI ds k = some d) : EvD G (tOp (rIx G.K) te tk) Γ d := fun B0 H0 B H σ E Q kk =>
  ht B0 H0 B H σ E _ fun u B1 H1 s1 e => by
    cases e
    refine hk B0 H0 B1 H1 σ (E.step s1) _ fun w B2 H2 s2 d2 => ?_
    cases d2
    have E2 := (E.step s1).step s2
    obtain ⟨u, hu, hd⟩ := dpa_at (hc.d B2 E2.wd.2) h
    exact .inl ⟨_, _, k, u, rfl, rfl, cell_sl E2 hc.c, hu, kk u B2 H2 (s1.trans s2) hd⟩
theorem ef_llist (ht : EvE G te Γ (.val (.ref q))) (hc : LsC G q vs ds) : EvF G (tCB (rListOf G.K) (tCons te tNil)) Γ ds := fun B0 H0 B H σ E Q kk =>
  ht B0 H0 B H σ E _ fun u B1 H1 s1 e => by
    cases e
    have E1 := E.step s1
    exact ⟨_, _, rfl, .inl (cell_sl E1 hc.c), fun l hl => kk l _ B1 H1 s1 hl (hc.d B1 E1.wd.2)⟩
end
section
variable {K : PySem.W.Frag} {S : Type} {w : Wl K S} {W : WX} {te tk : TE} {Γ : List Ent} {s : S} {P : PostW S} {d : PyData} {q : Addr} {vs : List V} {ds : List PyData} {i : Nat} {k : Int}
/-- s2: as s, but the cell q holds o -/
structure UpC (w : Wl K S) (s s2 : S) (q : Addr) (o : HO) : Prop where
  foot : ∀ a ∈ (w.g s2).foot, a ∈ (w.g s).foot
  cell : ∀ c ∈ w.cells s2, c = (q, o) ∨ (c.1 ≠ q ∧ c ∈ w.cells s)
theorem EnvW.upd {B0 H0 B H : Hp} {σ : L2.St} {s2 : S} {o o' : HO} (E : EnvW (w.g s) B0 H0 B H σ Γ) (hq : (q, o') ∈ w.cells s) (u : UpC w s s2 q o) (r : w.rel s2 B) : EnvW (w.g s2) B0 H0 B (upd H q o) σ Γ := by
  have hm : q ∈ (w.g s).foot := Gd.mem_foot (c := (q, o')) hq
  have hB : B q = none := (E.1.wd.1 _ hq).2
  refine E.world ⟨Ex.rfl', E.1.stp.bh.mut hB, fun a o n h => ?_, fun a o n h z => z, fun a m => .inl (u.foot a m)⟩ ⟨fun c hc => ?_, r⟩
  · rw [upd_ne (fun e => n (by rw [e]; exact hm))]; exact h
  · rcases u.cell c hc with rfl | ⟨n, h⟩
    · exact ⟨upd_same, hB⟩
    · exact ⟨by rw [upd_ne n]; exact (E.1.wd.1 c h).1, (E.1.wd.1 c h).2⟩
theorem ww_capp (hi : Γ[i]? = some (.val (.ref q))) (hc : (q, HO.lst vs) ∈ w.cells s) (h : EvD (w.g s) te Γ d) (hz : vs.length < 100000) (up : V → S) (hu : ∀ v B, w.rel s B → Dp K B v d → UpC w s (up v) q (.lst (vs ++ [v])) ∧ w.rel (up v) B)
    (k : ∀ v, P.nx Γ (up v)) : WpW w W (tDrop (tBM K "list" rAppend (tVar i) (tCons te tNil))) Γ s P := fun B0 H0 B H σ D E M => by
  refine ⟨.ref q, E.1.val hi, .inl ⟨rfl, vs, cell_sl E.1 hc⟩, h B0 H0 B H σ E.1 _ fun v B1 H1 s1 d1 => ?_⟩
  have E1 := E.step s1
  refine ⟨q, vs, v, rfl, rfl, (E1.1.wd.1 _ hc).1, Evl.sz_lt hz, ?_⟩
  exact M.nx _ _ _ _ _ (k v) s1.bb (E1.upd hc (hu v B1 E1.1.wd.2 d1).1 (hu v B1 E1.1.wd.2 d1).2)
theorem ww_cset {k : Int} {j : Nat} (hi : Γ[i]? = some (.val (.ref q))) (hc : (q, HO.lst vs) ∈ w.cells s) (h : EvD (w.g s) te Γ d) (hk : EvD (w.g s) tk Γ (.int k)) (hj : ixN vs.length k = some j) (up : V → S) (hu : ∀ v B, w.rel s B → Dp K B v d → UpC w s (up v) q (.lst (vs.set j v)) ∧ w.rel (up v) B)
    (kk : ∀ v, P.nx Γ (up v)) : WpW w W (tAsg te (gSub (tVar i) tk rSetL)) Γ s P := fun B0 H0 B H σ D E M =>
  h B0 H0 B H σ E.1 _ fun v B1 H1 s1 d1 => by
    have E1 := E.step s1
    refine ⟨.ref q, E1.1.val hi, hk B0 H0 B1 H1 σ E1.1 _ fun u B2 H2 s2 d2 => ?_⟩
    cases d2
    have E2 := E1.step s2
    refine ⟨q, vs, k, j, rfl, rfl, (E2.1.wd.1 _ hc).1, hj, ?_⟩
    exact M.nx _ _ _ _ _ (kk v) (s1.bb.trans s2.bb) (E2.upd hc (hu v B2 E2.1.wd.2 (s2.bb.dp d1)).1 (hu v B2 E2.1.wd.2 (s2.bb.dp d1)).2)
theorem ww_cpop {u : V} {up : S} (hi : Γ[i]? = some (.val (.ref q))) (hc : (q, HO.lst vs) ∈ w.cells s) (hl : vs[vs.length - 1]? = some u) (hu : ∀ B, w.rel s B → UpC w s up q (.lst vs.dropLast) ∧ w.rel up B)
    (k : P.nx Γ up) : WpW w W (tDrop (tBM0 K "list" rPop (tVar i))) Γ s P := fun B0 H0 B H σ D E M => by
  refine ⟨.ref q, E.1.val hi, .inl ⟨rfl, vs, cell_sl E.1 hc⟩, ⟨q, vs, u, rfl, rfl, (E.1.wd.1 _ hc).1, hl, ?_⟩⟩
  exact M.nx _ _ _ _ _ k Ex.rfl' (E.upd hc (hu B E.1.wd.2).1 (hu B E.1.wd.2).2)
/-- a new list, put behind a list in a cell -/
structure UpN (w : Wl K S) (s s2 : S) (q : Addr) (o : HO) (q2 : Addr) (o2 : HO) : Prop where
  foot : ∀ a ∈ (w.g s2).foot, a = q2 ∨ a ∈ (w.g s).foot
  cell : ∀ c ∈ w.cells s2, c = (q, o) ∨ c = (q2, o2) ∨ (c.1 ≠ q ∧ c ∈ w.cells s)
theorem ww_cappF (hi : Γ[i]? = some (.val (.ref q))) (hc : (q, HO.lst vs) ∈ w.cells s) (h : EvF (w.g s) te Γ ds) (hz : vs.length < 100000) (up : Addr → List V → S) (hu : ∀ q2 us B, q2 ∉ (w.g s).foot → w.rel s B → DpAll K B us ds → UpN w s (up q2 us) q (.lst (vs ++ [.ref q2])) q2 (.lst us) ∧ w.rel (up q2 us) B)
    (k : ∀ q2 us, P.nx Γ (up q2 us)) : WpW w W (tDrop (tBM K "list" rAppend (tVar i) (tCons te tNil))) Γ s P := fun B0 H0 B H σ D E M => by
  refine ⟨.ref q, E.1.val hi, .inl ⟨rfl, vs, cell_sl E.1 hc⟩, h B0 H0 B H σ E.1 _ fun q2 us B1 H1 s1 hp d1 => ?_⟩
  have E1 := E.step s1
  have hm : q ∈ (w.g s).foot := Gd.mem_foot (c := (q, HO.lst vs)) hc
  have hq := E1.1.wd.1 _ hc
  have nq : q ≠ q2 := fun e => by
    have z := hq.1
    rw [e] at z
    rw [hp] at z; cases z
  have nf : q2 ∉ (w.g s).foot := fun m => by
    obtain ⟨⟨o, z⟩, _⟩ := E1.1.wd.there m
    rw [hp] at z; cases z
  refine ⟨q, vs, .ref q2, rfl, rfl, by rw [upd_ne nq]; exact hq.1, Evl.sz_lt hz, ?_⟩
  obtain ⟨u, hr⟩ := hu q2 us B1 nf E1.1.wd.2 d1
  refine M.nx _ _ _ _ _ (k q2 us) s1.bb (E1.world ⟨Ex.rfl', ?_, fun a o n h => ?_, fun a o n h z => z, fun a m => ?_⟩ ⟨fun c hc2 => ?_, hr⟩)
  · exact (E1.1.stp.bh.trans (Ex.new hp)).mut hq.2
  · rw [upd_ne (fun e => n (by rw [e]; exact hm)), upd_ne (ne_of_none h hp)]; exact h
  · rcases u.foot a m with rfl | m
    · exact .inr hp
    · exact .inl m
  · rcases u.cell c hc2 with rfl | rfl | ⟨n, h⟩
    · exact ⟨upd_same, hq.2⟩
    · exact ⟨by show upd _ q _ q2 = _; rw [upd_ne (Ne.symm nq)]; exact upd_same, E1.1.stp.bh.back hp⟩
    · have z := E1.1.wd.1 c h
      exact ⟨by rw [upd_ne n, upd_ne (ne_of_none z.1 hp)]; exact z.1, z.2⟩
end
/-! ### a list of lists -/
structure Row where
  q : Addr
  vs : List V
  ds : List PyData
structure Nst where
  p : Addr
  rows : List Row
def nestW (K : PySem.W.Frag) : Wl K (Option Nst) where
  cells
    | none => []
    | some n => (n.p, .lst (n.rows.map fun r => V.ref r.q)) :: n.rows.map fun r => (r.q, HO.lst r.vs)
  rel
    | none, _ => True
    | some n, B => n.p ∉ n.rows.map Row.q ∧ (n.rows.map Row.q).Nodup ∧ ∀ r ∈ n.rows, DpAll K B r.vs r.ds
  rup
    | none, _, _, _, _ => trivial
    | some n, B, B', x, h => ⟨h.1, h.2.1, fun r hr => x.dpa (h.2.2 r hr)⟩
section
variable {K : PySem.W.Frag} {W : WX} {te tk : TE} {Γ : List Ent} {n : Nst} {d : PyData} {ds : List PyData} {i : Nat} {k : Int} {r : Row} {P : PostW (Option Nst)}
theorem nest_top : (n.p, HO.lst (n.rows.map fun r => V.ref r.q)) ∈ ((nestW K).g (some n)).cells := List.mem_cons_self
theorem nest_row (h : r ∈ n.rows) : LsC ((nestW K).g (some n)) r.q r.vs r.ds := ⟨List.mem_cons_of_mem _ (List.mem_map_of_mem h), fun B x => x.2.2 r h⟩
/-- [te], te a new list -/
theorem ew_nest1 (h : EvF ((nestW K).g none) te Γ ds) : EvW (nestW K) (tLst (tCons te tNil)) Γ none fun e s => ∃ p q vs, e = .val (.ref p) ∧ s = some ⟨p, [⟨q, vs, ds⟩]⟩ := fun B0 H0 B H σ E Q k =>
  h B0 H0 B H σ E.1 _ fun q vs B1 H1 s1 hq d1 => by
    refine ⟨show 1 ≤ sizeLine by decide, fun p hp => ?_⟩
    have E1 := E.step s1
    have npq : p ≠ q := fun e => by rw [e, upd_same] at hp; cases hp
    have hp1 : H1 p = none := by rw [upd_ne npq] at hp; exact hp
    refine k (.val (.ref p)) (some ⟨p, [⟨q, vs, ds⟩]⟩) _ B1 _ ⟨p, q, vs, rfl, rfl⟩ s1.bb (E1.world (s2 := some ⟨p, [⟨q, vs, ds⟩]⟩) ⟨Ex.rfl', ?_, fun a o _ h => ?_, fun a o _ h z => z, fun a m => .inr ?_⟩ ⟨fun c hc => ?_, ?_⟩) rfl
    · exact (E1.1.stp.bh.trans (Ex.new hq)).trans (Ex.new hp)
    · rw [upd_ne (ne_of_none h hp1), upd_ne (ne_of_none h hq)]; exact h
    · have : a = p ∨ a = q := by simpa [Gd.foot, nestW] using m
      rcases this with rfl | rfl
      · exact hp1
      · exact hq
    · have : c = (p, HO.lst [V.ref q]) ∨ c = (q, HO.lst vs) := by simpa [nestW] using hc
      rcases this with rfl | rfl
      · exact ⟨upd_same, E1.1.stp.bh.back hp1⟩
      · exact ⟨by show upd _ p _ q = _; rw [upd_ne (Ne.symm npq)]; exact upd_same, E1.1.stp.bh.back hq⟩
    · exact ⟨by simpa using npq, by simp, fun r hr => by simp at hr; subst hr; exact d1⟩
/-- a new list more -/
theorem ww_nest_app (hi : Γ[i]? = some (.val (.ref n.p))) (h : EvF ((nestW K).g (some n)) te Γ ds) (hz : n.rows.length < 100000) (k : ∀ q vs, P.nx Γ (some ⟨n.p, n.rows ++ [(⟨q, vs, ds⟩ : Row)]⟩)) :
    WpW (nestW K) W (tDrop (tBM K "list" rAppend (tVar i) (tCons te tNil))) Γ (some n) P := by
  have mem : ∀ q, q ∉ ((nestW K).g (some n)).foot → q ≠ n.p ∧ q ∉ n.rows.map Row.q := fun q hq => by
    unfold Gd.foot nestW at hq
    simp only [List.map_cons, List.map_map, List.mem_cons, not_or] at hq
    exact ⟨hq.1, fun m => hq.2 (by simpa using m)⟩
  refine ww_cappF hi (nest_top (K := K) (n := n)) h (by rw [List.length_map]; exact hz) (fun q vs => some ⟨n.p, n.rows ++ [(⟨q, vs, ds⟩ : Row)]⟩) (fun q vs B hq hr hd => ?_) k
  obtain ⟨h1, h2, h3⟩ := hr
  obtain ⟨m1, m2⟩ := mem q hq
  refine ⟨⟨fun a m => ?_, fun c hc => ?_⟩, ?_, ?_, fun r hr => ?_⟩
  · unfold Gd.foot nestW at m ⊢
    simp only [List.map_cons, List.map_append, List.map_map, List.mem_cons, List.mem_append, List.map_nil, List.not_mem_nil, or_false] at m ⊢
    rcases m with m | m | m
    · exact .inr (.inl m)
    · exact .inr (.inr m)
    · exact .inl m
  · have hc : c ∈ (n.p, HO.lst ((n.rows ++ [(⟨q, vs, ds⟩ : Row)]).map fun r => V.ref r.q)) :: (n.rows ++ [(⟨q, vs, ds⟩ : Row)]).map fun r => (r.q, HO.lst r.vs) := hc
    rw [List.map_append, List.map_append] at hc
    rcases List.mem_cons.mp hc with rfl | hc
    · exact .inl rfl
    · rcases List.mem_append.mp hc with hc | hc
      · refine .inr (.inr ⟨?_, List.mem_cons_of_mem _ hc⟩)
        obtain ⟨r, hr, rfl⟩ := List.mem_map.mp hc
        exact fun e => h1 (by rw [← e]; exact List.mem_map_of_mem hr)
      · simp at hc; subst hc; exact .inr (.inl rfl)
  · show n.p ∉ (n.rows ++ [(⟨q, vs, ds⟩ : Row)]).map Row.q
    rw [List.map_append]
    intro m
    rcases List.mem_append.mp m with m | m
    · exact h1 m
    · simp at m; exact m1 m.symm
  · show ((n.rows ++ [(⟨q, vs, ds⟩ : Row)]).map Row.q).Nodup
    rw [List.map_append, List.nodup_append]
    refine ⟨h2, by simp, fun a ha b hb => ?_⟩
    simp at hb; subst hb
    exact fun e => m2 (by rw [← e]; exact ha)
  · rcases List.mem_append.mp hr with hr | hr
    · exact h3 r hr
    · simp at hr; subst hr; exact hd
/-- a row is changed -/
def Nst.put (n : Nst) (r : Row) (vs : List V) (ds : List PyData) : Nst := ⟨n.p, n.rows.map fun x => if x.q = r.q then ⟨r.q, vs, ds⟩ else x⟩
theorem put_q (n : Nst) (r : Row) (vs : List V) (ds : List PyData) : (n.put r vs ds).rows.map Row.q = n.rows.map Row.q := by
  unfold Nst.put
  rw [List.map_map]
  exact List.map_congr_left fun x _ => by
    show Row.q (if x.q = r.q then _ else x) = x.q
    split
    · rename_i e; exact e.symm
    · rfl
theorem put_up {r : Row} {B : Hp} {vs : List V} {ds : List PyData} (hr : r ∈ n.rows) (h : (nestW K).rel (some n) B) (hd : DpAll K B vs ds) : UpC (nestW K) (some n) (some (n.put r vs ds)) r.q (.lst vs) ∧ (nestW K).rel (some (n.put r vs ds)) B := by
  obtain ⟨h1, h2, h3⟩ := h
  have e : (n.put r vs ds).rows.map (fun x => V.ref x.q) = n.rows.map fun x => V.ref x.q := by
    have := congrArg (List.map V.ref) (put_q n r vs ds)
    rw [List.map_map, List.map_map] at this
    exact this
  refine ⟨⟨fun a m => ?_, fun c hc => ?_⟩, ?_, ?_, fun x hx => ?_⟩
  · have e2 : ((nestW K).g (some (n.put r vs ds))).foot = ((nestW K).g (some n)).foot := by
      have := put_q n r vs ds
      unfold Gd.foot nestW
      simp only [List.map_cons, List.map_map]
      exact congrArg (List.cons n.p) this
    rw [← e2]; exact m
  · have hc : c ∈ (n.p, HO.lst ((n.put r vs ds).rows.map fun r => V.ref r.q)) :: (n.put r vs ds).rows.map fun r => (r.q, HO.lst r.vs) := hc
    rw [e] at hc
    rcases List.mem_cons.mp hc with rfl | hc
    · exact .inr ⟨fun z => h1 (by rw [show n.p = r.q from z]; exact List.mem_map_of_mem hr), List.mem_cons_self⟩
    · obtain ⟨x, hx, rfl⟩ := List.mem_map.mp hc
      obtain ⟨y, hy, rfl⟩ := List.mem_map.mp hx
      by_cases hq : y.q = r.q
      · rw [if_pos hq]; exact .inl rfl
      · rw [if_neg hq]; exact .inr ⟨hq, List.mem_cons_of_mem _ (List.mem_map_of_mem hy)⟩
  · show n.p ∉ (n.put r vs ds).rows.map Row.q
    rw [put_q]; exact h1
  · rw [put_q]; exact h2
  · obtain ⟨y, hy, rfl⟩ := List.mem_map.mp hx
    by_cases hq : y.q = r.q
    · rw [if_pos hq]; exact hd
    · rw [if_neg hq]; exact h3 y hy
theorem ww_row_app {r : Row} (hi : Γ[i]? = some (.val (.ref r.q))) (hr : r ∈ n.rows) (h : EvD ((nestW K).g (some n)) te Γ d) (hz : r.vs.length < 100000) (k : ∀ v, P.nx Γ (some (n.put r (r.vs ++ [v]) (r.ds ++ [d])))) :
    WpW (nestW K) W (tDrop (tBM K "list" rAppend (tVar i) (tCons te tNil))) Γ (some n) P :=
  ww_capp hi (nest_row (K := K) hr).c h hz (fun v => some (n.put r (r.vs ++ [v]) (r.ds ++ [d]))) (fun v B hB hd => put_up hr hB (dpa_app (hB.2.2 r hr) (.cons hd .nil))) k
theorem ww_row_set {r : Row} {j : Nat} (hi : Γ[i]? = some (.val (.ref r.q))) (hr : r ∈ n.rows) (h : EvD ((nestW K).g (some n)) te Γ d) (hk : EvD ((nestW K).g (some n)) tk Γ (.int k)) (hj : ixN r.vs.length k = some j) (kk : ∀ v, P.nx Γ (some (n.put r (r.vs.set j v) (r.ds.set j d)))) :
    WpW (nestW K) W (tAsg te (gSub (tVar i) tk rSetL)) Γ (some n) P :=
  ww_cset hi (nest_row (K := K) hr).c h hk hj (fun v => some (n.put r (r.vs.set j v) (r.ds.set j d))) (fun v B hB hd => put_up hr hB (dpa_set j (hB.2.2 r hr) hd)) kk
theorem dpa_dropLast {B : Hp} {vs : List V} {ds : List PyData} (h : DpAll K B vs ds) : DpAll K B vs.dropLast ds.dropLast := by
  rw [List.dropLast_eq_take, List.dropLast_eq_take, dpa_len h]
  exact dpa_take _ h
theorem ww_row_pop {r : Row} (hi : Γ[i]? = some (.val (.ref r.q))) (hr : r ∈ n.rows) (hl : r.vs ≠ []) (k : P.nx Γ (some (n.put r r.vs.dropLast r.ds.dropLast))) :
    WpW (nestW K) W (tDrop (tBM0 K "list" rPop (tVar i))) Γ (some n) P :=
  ww_cpop hi (nest_row (K := K) hr).c (u := r.vs[r.vs.length - 1]'(by have := List.length_pos_iff.mpr hl; omega)) (List.getElem?_eq_getElem _) (fun B hB => put_up hr hB (dpa_dropLast (hB.2.2 r hr))) k
end
end Pd

namespace Pd
open PySem L2
/-! ### the law's def, its surroundings changing; in, of any data -/
theorem dpa_entVs {K : PySem.W.Frag} {B : Hp} : ∀ {ds : List PyData} {vs : List V}, DpAll K B vs ds → EntVs K B vs (ds.map .dat)
  | [], _, h => by cases h; exact .nil
  | d :: ds, _, h => by cases h with | cons h1 h2 => exact .cons h1 (dpa_entVs h2)
open PyProof.Rows in
theorem law_okW {P : Program} {wo : World} {K : PySem.W.Frag} {mg : Str → Option Value} {base : Heap} {S : Type} (w : Wl K S) (s0 : S) (h0 : w.cells s0 = []) (hr0 : ∀ B, w.rel s0 B) {x qual p : Str} {st : Stmt} {f : Addr} {fd : FuncData} {N : List Str} {k : Nat} {R : List PyData → PyData → Prop} (F : Fun K x qual st f fd) (Sc : FnScope N [p] (defScope st)) (room : Room (k + 1) callerA)
    (len : ∀ ds d, R ds d → ds.length = 1)
    (hb : ∀ (cdv : Value) (s : Shared) (H : Hp) (E : XK), Room k (callerA.deeper (envOfC qual (defScope st) s.heap.objs.size f cdv)) →
      ∃ t, PSs (cxOf CX0 P wo K mg base N qual (defScope st) f cdv callerA [] s H E).nox (defBody st) t ∧ ∀ ds d, R ds d → WpW w WNo t (entryE N (ds.map .dat)) s0 { nx := fun _ _ => d = .none, rt := fun e _ => e = .dat d }) : LawRun P wo K mg base f fd p (spV K R) := by
  intro s H us vs Q E en bind rv told
  obtain ⟨B, ds, d, e, hd, hR, q⟩ := told
  refine run_at F Sc room en bind rv (by rw [dpa_len hd]; exact len ds d hR) fun cdv hr => ?_
  obtain ⟨t, ht, hw⟩ := hb cdv s H E hr
  have ef : (w.g s0).foot = [] := by
    show (w.cells s0).map _ = []
    rw [h0]; rfl
  have eH : cutH H (w.g s0).foot = H := by rw [ef]; funext a; simp [cutH]
  have hst : ∀ {B2 H2}, Stp B (cutH H (w.g s0).foot) B2 H2 → Stp B H B2 H2 := fun z => by rw [eH] at z; exact z
  have hwd : (w.g s0).Wd B H := by
    refine ⟨fun c hc => ?_, hr0 B⟩
    have hc : c ∈ w.cells s0 := hc
    rw [h0] at hc; cases hc
  refine ⟨t, ht.nox, hw ds d hR B _ B H _ _ (entry_envW e hwd (dpa_entVs hd)) ⟨fun Γ2 s2 B2 H2 σ2 a b c => ?_, fun _ _ _ _ _ a => a.elim, fun _ _ _ _ _ a => a.elim, fun e' s2 v B2 H2 a b st wd hf dv => ?_, fun _ _ _ _ _ _ a => a.elim⟩⟩
  · exact q .non B2 H2 (hst c.1.stp) (by rw [a]; exact .non)
  · subst a
    exact q v B2 H2 (hst st) dv
def rInX (K : PySem.W.Frag) : R2 := fun x y H Q => rInA K x y H Q ∨ L2.rInD K x y H Q
def rNotInX (K : PySem.W.Frag) : R2 := fun x y H Q => rNotInA K x y H Q ∨ L2.rNotInD K x y H Q
theorem ok_inX {X : Cx} {K : PySem.W.Frag} (h : X.K = K) (hu : X.A.units + 66 < cLine) : OpR X (compareOp .In) (rInX K) := h ▸ OpR.or op_inA (L2.op_inD (Nat.lt_of_succ_lt hu))
theorem ok_notInX {X : Cx} {K : PySem.W.Frag} (h : X.K = K) (hu : X.A.units + 66 < cLine) : OpR X (compareOp .NotIn) (rNotInX K) := h ▸ OpR.or op_notInA (L2.op_notInD (Nat.lt_of_succ_lt hu))
section
variable {G : Gd} {x y z : PyData} {ds : List PyData}
theorem ox_in (h : OpD G (rInA G.K) x y z) : OpD G (rInX G.K) x y z := fun B H v w e d1 d2 Q k => .inl (h B H v w e d1 d2 Q k)
theorem ox_notIn (h : OpD G (rNotInA G.K) x y z) : OpD G (rNotInX G.K) x y z := fun B H v w e d1 d2 Q k => .inl (h B H v w e d1 d2 Q k)
theorem oy_in (h1 : SideA (SeqAt.shaped x = true)) (h2 : SideD (SeqAt.shaped (.list ds) = true)) : OpD G (rInX G.K) x (.list ds) (.bool (inD x ds)) := fun B H v w e d1 d2 Q k => .inr ⟨x, ds, e.dp d1, e.dp d2, h1.out, h2.out, k _ B H (Stp.refl e) (.bl _)⟩
theorem oy_notIn (h1 : SideA (SeqAt.shaped x = true)) (h2 : SideD (SeqAt.shaped (.list ds) = true)) : OpD G (rNotInX G.K) x (.list ds) (.bool (!inD x ds)) := fun B H v w e d1 d2 Q k => .inr ⟨x, ds, e.dp d1, e.dp d2, h1.out, h2.out, k _ B H (Stp.refl e) (.bl _)⟩
end
end Pd

namespace Pd
open PySem PySem.Spec PyProof.Rows L2
/-! ### t[::-1] of a tuple -/
section
variable {prog : Program} {w : World} {A : Around} {E : Value → Shared → Prop} {s : Shared}
theorem fm_congr {α β : Type} {f g : α → Option β} : ∀ {l : List α}, (∀ x ∈ l, f x = g x) → l.filterMap f = l.filterMap g
  | [], _ => rfl
  | x :: l, h => by rw [List.filterMap_cons, List.filterMap_cons, h x (by simp), fm_congr (fun y hy => h y (List.mem_cons_of_mem _ hy))]
theorem adjust_rev (n : Nat) : Builtin.Slice.sliceAdjust none none (-1) (n : Int) = ((n : Int) - 1, -1) := by
  unfold Builtin.Slice.sliceAdjust
  simp
theorem places_rev (n : Nat) : Builtin.Slice.slicePlaces ((n : Int) - 1) (-1) (-1) = n := by
  unfold Builtin.Slice.slicePlaces
  simp
  omega
theorem sliceApplied_rev {sl : Addr} {vl vu vs : Value} {n : Nat} {Q : Int × Int × Nat → Shared → Prop} (hs : s.heap.IsSliceOf sl vl vu vs) (pl : IsPart vl none) (pu : IsPart vu none) (ps : IsPart vs (some (-1)))
    (h : Q ((n : Int) - 1, -1, n) s) : wpAny (model prog w) A (Builtin.Slice.sliceApplied (.ref sl) (pure (n : Int))) Q E s := by
  obtain ⟨os, hos, hcs, hds⟩ := id hs
  unfold Builtin.Slice.sliceApplied Builtin.Slice.sliceFields
  refine wpAny_bind (wpAny_bind (wpAny_field hos hds (x := vl) rfl (wpAny_bind (wpAny_field hos hds (x := vu) rfl (wpAny_bind (wpAny_field hos hds (x := vs) rfl (wpAny_pure ?_)))))))
  refine wpAny_bind (HT.slicePart_ ps ?_)
  show wpAny _ _ (if ((-1 : Int) == 0) = true then _ else _) _ _ s
  rw [if_neg (by decide)]
  refine wpAny_bind (HT.slicePart_ pl (wpAny_bind (HT.slicePart_ pu (wpAny_bind (wpAny_pure ?_)))))
  show wpAny _ _ (match Builtin.Slice.sliceAdjust none none (-1) (n : Int) with | (lo, hi) => pure (lo, (-1 : Int), Builtin.Slice.slicePlaces lo hi (-1))) _ _ s
  rw [adjust_rev n]
  show wpAny _ _ (pure ((n : Int) - 1, (-1 : Int), Builtin.Slice.slicePlaces ((n : Int) - 1) (-1) (-1))) _ _ s
  rw [places_rev]
  exact wpAny_pure h
theorem pick_rev (xs : Array Value) : ((List.range xs.size).filterMap fun (m : Nat) => xs[(((xs.size : Int) - 1) + (m : Int) * (-1)).toNat]?).toArray = xs.toList.reverse.toArray := by
  congr 1
  have h := PySem.W.krv_all xs
  have e : ((List.range xs.size).filterMap fun (m : Nat) => xs[(((xs.size : Int) - 1) + (m : Int) * (-1)).toNat]?) = ((List.range xs.size).map fun k => xs.size - 1 - k).filterMap (xs[·]?) := by
    rw [List.filterMap_map]
    apply fm_congr
    intro m hm
    have := List.mem_range.mp hm
    show xs[((xs.size : Int) - 1 + (m : Int) * -1).toNat]? = xs[xs.size - 1 - m]?
    congr 1
    omega
  rw [e, PySem.W.krv_range, List.filterMap_reverse, h]
theorem getItem_tuple_rev {t sl : Addr} {items : Array Value} {vl vu vs : Value} {Q : Value → Shared → Prop} (ht : IsTup s.heap t items) (hs : s.heap.IsSliceOf sl vl vu vs) (pl : IsPart vl none) (pu : IsPart vu none) (ps : IsPart vs (some (-1)))
    (h : Q (.ref s.heap.objs.size) { s with heap := s.heap.push { cls := .type "tuple", data := .seq (items.toList.reverse).toArray } })
    (hsz : items.size ≤ sizeLine) : wpAny (model prog w) A (getItem (.ref t) (.ref sl)) Q E s := by
  have htake : sizeOk (.seq (items.toList.reverse).toArray) := by
    show (items.toList.reverse).toArray.size ≤ sizeLine
    rw [List.size_toArray, List.length_reverse, Array.length_toList]
    exact hsz
  obtain ⟨os, hos, hcs, hds⟩ := id hs
  have hTs : s.TypeIs (.ref sl) "slice" := ⟨os, hos, hcs⟩
  unfold getItem
  try with_reducible refine wpAny_holding ?_
  first | refine wpAny_bind (wpAny_pure ?_) | skip
  refine wpAny_bind (wpAny_sequenceKey ht.typeIs (by decide) ?_)
  refine wpAny_bind (wpAny_callSpecial?_slot (name := Str.ofString "__getitem__") ht.typeIs PyProof.Rows.slot_tuple_getitem
    (wpAny_call_entry PyProof.Rows.slot_tuple_getitem ht.typeIs entry_tuple_getitem ?_ (args_tuple_getitem _ _)))
  show wpAny _ _ (Builtin.Tuple.tupleItemsOf (.ref t) >>= _) _ _ s
  refine wpAny_bind (tupleItemsOf_ ht ?_)
  refine wpAny_bind (wpAny_typeOf hTs ?_)
  rw [if_pos (by decide)]
  refine wpAny_bind (sliceApplied_rev hs pl pu ps ?_)
  have hno : ¬ (((((items.size : Nat) : Int) - 1) == 0 && (-1 : Int) == 1 && items.size == items.size) = true) := by
    intro q
    rw [Bool.and_eq_true, Bool.and_eq_true] at q
    exact absurd q.1.2 (by decide)
  show wpAny _ _ (if ((((items.size : Nat) : Int) - 1) == 0 && (-1 : Int) == 1 && items.size == items.size) = true then _ else _) _ _ s
  rw [if_neg hno, pick_rev]
  first
    | exact wpAny_bind (m := Builtin.Tuple.tupleExact _) (wpAny_newObj_type (wpAny_pure ⟨_, rfl, wpAny_pure h⟩) htake)
    | exact wpAny_bind (m := Builtin.Tuple.tupleExact _) (wpAny_newObj_type (wpAny_bind (wpAny_pure (wpAny_pure ⟨_, rfl, wpAny_pure h⟩))) htake)
end
def tRevT (K : PySem.W.Frag) (te : TE) : TE := fun σ H Q => te σ H fun x H1 => ∃ a xs, x = .ref a ∧ SqT K H1 a xs ∧ ∀ p, H1 p = none → Q (.ref p) (upd H1 p (.tup xs.reverse))
theorem pe_revT {X : Cx} {K : PySem.W.Frag} (hK : X.K = K) {e : Expr} {te : TE} {k : Nat} {p1 p2 p3 pos : Pos} (he : PE X e te) : PE X (.Subscript e (.Slice none none (some (.UnaryOp .USub (.Constant (.int 1) k p1) p2)) p3) pos) (tRevT K te) := by
  subst hK
  refine ⟨fun pins s σ H Q I h => ?_⟩
  refine Subscript_ (thn (he.run pins s σ H _ I h) fun v s1 ⟨x, H1, I1, r1, q1⟩ => ?_)
  obtain ⟨a, xs, ex, hx, q⟩ := q1
  subst ex
  cases r1
  have hst : PO X (some (.UnaryOp .USub (.Constant (.int 1) k p1) p2)) (tPart (tUn (rU fun i => .int (-i)) (tC (.int 1)))) := po_some (pe_un un_neg pe_int)
  refine wpAny_Slice (thn (po_none.run pins s1 σ H1 (fun o H2 => o = none ∧ H2 = H1) I1 ⟨rfl, rfl⟩) fun vl s2 ⟨l, H2, I2, pl, el, e2⟩ => ?_)
  subst el e2
  refine thn (po_none.run pins s2 σ H2 (fun o H3 => o = none ∧ H3 = H2) I2 ⟨rfl, rfl⟩) fun vu s3 ⟨u, H3, I3, pu, eu, e3⟩ => ?_
  subst eu e3
  refine thn (hst.run pins s3 σ H3 (fun o H4 => o = some (-1) ∧ H4 = H3) I3 ⟨1, rfl, -1, rfl, rfl, rfl⟩) fun vs s4 ⟨o, H4, I4, ps, eo, e4⟩ => ?_
  subst eo e4
  have I5 : Inv X pins σ H4 { s4 with heap := s4.heap.push { cls := .type "slice", data := .fields #[vl, vu, vs] } } := I4.kept (t' := s4.toks) fun b ob q => Heap.get?_push_of_some _ q
  obtain ⟨its, r, ht, hz⟩ := I5.tuple hx
  have hlen := r.length
  show wpAny (model X.prog X.w) X.A (subscriptTail e (.Slice none none (some (.UnaryOp .USub (.Constant (.int 1) k p1) p2)) p3) (.ref a) (.ref s4.heap.objs.size)) (EP X pins σ Q) X.xe { s4 with heap := s4.heap.push { cls := .type "slice", data := .fields #[vl, vu, vs] } }
  refine tail_any (ops := [.ref a, .ref s4.heap.objs.size]) ht.typeIs (PyProof.Rows.slot_tuple_getitem.lookup) ?_ (by with_unfolding_all rfl)
  refine getItem_tuple_rev ht (Heap.IsSliceOf.new _ vl vu vs) pl pu ps ?_ (by rw [List.size_toArray]; omega)
  refine ⟨.ref _, _, I5.laid (t' := s4.toks) (o := .tup xs.reverse) (fun b ob q => Heap.get?_push_of_some _ q) (Nat.le_refl _) ?_, rfl, q _ (I5.hok.fresh (Nat.le_refl _))⟩
  exact ⟨by rw [List.length_reverse]; exact hz, _, r.reverse, IsTup.new _ _⟩
/-! ### parts of tuples, the whole one too -/
def rSlX (K : PySem.W.Frag) : V → Option Int → Option Int → Hp → VK → Prop := fun x lo hi H Q => rSlA K x lo hi H Q ∨ L2.rSlA K x lo hi H Q
theorem kl_anyX {X : Cx} {K : PySem.W.Frag} (h : X.K = K) : SlR X (rSlX K) := h ▸ sl_any.or L2.sl_tupA
section
variable {G : Gd} {Γ : List Ent} {ta : TE} {tl th : TO} {lo hi : Option Int} {ds : List PyData}
theorem ev_revT (ha : EvD G ta Γ (.tuple ds)) : EvD G (tRevT G.K ta) Γ (.tuple ds.reverse) := fun B0 H0 B H σ E Q k =>
  ha B0 H0 B H σ E _ fun v B1 H1 s1 d1 => by
    cases d1 with
    | tup g1 a1 => exact ⟨_, _, rfl, s1.bh.st g1, fun p hp => k (.ref p) _ _ (s1.new hp) (.tup (SqT.of upd_same) ((Ex.new (s1.bh.back hp)).dpa (dpa_rev a1)))⟩
theorem ex_sl_tup (ha : EvD G ta Γ (.tuple ds)) (h1 : EvO G tl Γ lo) (h2 : EvO G th Γ hi) : EvD G (tSl (rSlX G.K) ta tl th) Γ (.tuple (cutD ds lo hi)) := fun B0 H0 B H σ E Q k =>
  ha B0 H0 B H σ E _ fun v B1 H1 s1 d1 => h1 B0 H0 B1 H1 σ (E.step s1) _ fun B2 H2 s2 => h2 B0 H0 B2 H2 σ (E.step (s1.trans s2)) _ fun B3 H3 s3 => by
    have d3 := (s2.trans s3).bb.dp d1
    cases d3 with
    | tup g1 a1 =>
      refine .inr ⟨_, _, rfl, s3.bh.st g1, fun hw => ?_, fun _ p hp => ?_⟩
      · rw [dpa_len a1] at hw
        have e : cutD ds lo hi = ds := by
          unfold cutD
          rw [hw.1, hw.2, List.drop_zero, Nat.sub_zero, List.take_length]
        exact k _ _ _ ((s1.trans s2).trans s3) (by rw [e]; exact .tup g1 a1)
      · exact k (.ref p) _ _ (((s1.trans s2).trans s3).new hp) (.tup (SqT.of upd_same) ((Ex.new (s3.bh.back hp)).dpa (dpa_cut a1 lo hi)))
theorem exf_sl_list (ha : EvD G ta Γ (.list ds)) (h1 : EvO G tl Γ lo) (h2 : EvO G th Γ hi) : EvF G (tSl (rSlX G.K) ta tl th) Γ (cutD ds lo hi) := fun B0 H0 B H σ E Q k =>
  ha B0 H0 B H σ E _ fun v B1 H1 s1 d1 => h1 B0 H0 B1 H1 σ (E.step s1) _ fun B2 H2 s2 => h2 B0 H0 B2 H2 σ (E.step (s1.trans s2)) _ fun B3 H3 s3 => by
    have d3 := (s2.trans s3).bb.dp d1
    cases d3 with
    | lst g1 a1 => exact .inl (.inl ⟨_, _, rfl, s3.bh.sl g1, fun p hp => k p _ B3 H3 ((s1.trans s2).trans s3) hp (dpa_cut a1 lo hi)⟩)
end
end Pd

namespace Pd
open PySem L2
/-! ### surroundings of any cells -/
structure US where
  cells : List (Addr × HO)
  rel : List (List V × List PyData)
def uw (K : PySem.W.Frag) : Wl K US where
  cells s := s.cells
  rel s B := ∀ r ∈ s.rel, DpAll K B r.1 r.2
  rup s B B' x h := fun r hr => x.dpa (h r hr)
def US.nil : US := ⟨[], []⟩
def US.foot (s : US) : List Addr := s.cells.map (·.1)
/-- the cell q holds o; r is told -/
def US.put (s : US) (q : Addr) (o : HO) (r : List (List V × List PyData)) : US := ⟨s.cells.map fun c => if c.1 = q then (q, o) else c, r ++ s.rel⟩
def US.add (s : US) (cs : List (Addr × HO)) (r : List (List V × List PyData)) : US := ⟨cs ++ s.cells, r ++ s.rel⟩
/-- s2 has all that s has, but in the cells own -/
structure Keeps (s s2 : US) (own : List Addr) : Prop where
  cell : ∀ c ∈ s.cells, c.1 ∉ own → c ∈ s2.cells
  rel : ∀ r ∈ s.rel, r ∈ s2.rel
theorem Keeps.refl {s : US} {own : List Addr} : Keeps s s own := ⟨fun _ h _ => h, fun _ h => h⟩
theorem Keeps.trans {s s2 s3 : US} {own : List Addr} (a : Keeps s s2 own) (b : Keeps s2 s3 own) : Keeps s s3 own := ⟨fun c h n => b.cell c (a.cell c h n) n, fun r h => b.rel r (a.rel r h)⟩
theorem Keeps.mono {s s2 : US} {own own' : List Addr} (a : Keeps s s2 own) (h : ∀ x ∈ own, x ∈ own') : Keeps s s2 own' := ⟨fun c hc n => a.cell c hc fun m => n (h _ m), a.rel⟩
theorem put_keeps {s : US} {q : Addr} {o : HO} {r : List (List V × List PyData)} : Keeps s (s.put q o r) [q] := by
  refine ⟨fun c hc n => ?_, fun x hx => List.mem_append_right _ hx⟩
  refine List.mem_map.mpr ⟨c, hc, ?_⟩
  rw [if_neg (by simpa using n)]
theorem add_keeps {s : US} {cs : List (Addr × HO)} {r : List (List V × List PyData)} {own : List Addr} : Keeps s (s.add cs r) own := ⟨fun c hc _ => List.mem_append_right _ hc, fun x hx => List.mem_append_right _ hx⟩
theorem put_mem {s : US} {q : Addr} {o o' : HO} {r : List (List V × List PyData)} (h : (q, o') ∈ s.cells) : (q, o) ∈ (s.put q o r).cells := List.mem_map.mpr ⟨_, h, if_pos rfl⟩
theorem put_foot {s : US} {q : Addr} {o : HO} {r : List (List V × List PyData)} : (s.put q o r).foot = s.foot := by
  unfold US.foot US.put
  rw [List.map_map]
  exact List.map_congr_left fun c _ => by
    show (if c.1 = q then (q, o) else c).1 = c.1
    split
    · rename_i e; exact e.symm
    · rfl
section
variable {K : PySem.W.Frag} {s : US} {q : Addr} {vs us : List V} {ds : List PyData} {o : HO}
theorem u_foot : ((uw K).g s).foot = s.foot := rfl
theorem u_ls (hc : (q, HO.lst vs) ∈ s.cells) (hr : (vs, ds) ∈ s.rel) : LsC ((uw K).g s) q vs ds := ⟨hc, fun B h => h _ hr⟩
theorem put_upc {B : Hp} {r : List (List V × List PyData)} (h : (uw K).rel s B) (hr : ∀ x ∈ r, DpAll K B x.1 x.2) : UpC (uw K) s (s.put q o r) q o ∧ (uw K).rel (s.put q o r) B := by
  refine ⟨⟨fun a m => ?_, fun c hc => ?_⟩, fun x hx => ?_⟩
  · have m : a ∈ (s.put q o r).foot := m
    rw [put_foot] at m; exact m
  · obtain ⟨c0, h0, rfl⟩ := List.mem_map.mp hc
    by_cases e : c0.1 = q
    · rw [if_pos e]; exact .inl rfl
    · rw [if_neg e]; exact .inr ⟨e, h0⟩
  · rcases List.mem_append.mp hx with hx | hx
    · exact hr x hx
    · exact h x hx
end
/-! ### reading cells: attributes, dicts, tuples of cells, lists -/
section
variable {G : Gd} {te tk td ty : TE} {Γ : List Ent} {a q kd C dx : Addr} {fs : List (Str × V)} {f k : Str} {v : V} {d : PyData} {vs : List V} {ds : List PyData} {i : Int} {kvs : List (Key × V)} {o : Option V}
theorem ee_fld (ht : EvE G te Γ (.val (.ref a))) (hc : (a, HO.ins C dx fs) ∈ G.cells) (c : Cls G.K C) (n : NoAttr G.K C f) (hf : fs.lookup f = some v) : EvE G (tFld G.K te f) Γ (.val v) := fun B0 H0 B H σ E Q kk =>
  ht B0 H0 B H σ E _ fun u B1 H1 s1 e => by
    cases e
    exact ⟨a, C, dx, fs, v, rfl, ((E.step s1).wd.1 _ hc).1, c, n, hf, kk v B1 H1 s1 rfl⟩
/-- an exact value that is data -/
theorem ed_val (ht : EvE G te Γ (.val v)) (h : ∀ B, G.rel B → Dp G.K B v d) : EvD G te Γ d := fun B0 H0 B H σ E Q kk =>
  ht B0 H0 B H σ E _ fun u B1 H1 s1 e => by
    cases e
    exact kk _ B1 H1 s1 (h B1 (E.step s1).wd.2)
theorem ed_ival (ht : EvE G te Γ (.val (.int i))) : EvD G te Γ (.int i) := ed_val ht fun B _ => .int i
theorem ee_dget (ht : EvE G td Γ (.val (.ref kd))) (hc : (kd, HO.dK kvs) ∈ G.cells) (hk : EvD G ty Γ (.str k)) (h : valV kvs (.inr k) = some v) : EvE G (tDGet td ty) Γ (.val v) := fun B0 H0 B H σ E Q kk =>
  ht B0 H0 B H σ E _ fun u B1 H1 s1 e => by
    cases e
    refine hk B0 H0 B1 H1 σ (E.step s1) _ fun w B2 H2 s2 d2 => ?_
    cases d2
    exact ⟨kd, v, rfl, .inl ⟨kvs, .inr k, .inl ((((E.step s1).step s2).wd.1 _ hc).1), rfl, h.symm⟩, kk v B2 H2 (s1.trans s2) rfl⟩
theorem ee_tix (ht : EvE G te Γ (.val (.ref q))) (hc : (q, HO.tup vs) ∈ G.cells) (hk : EvD G tk Γ (.int i)) (h : atI vs i = some v) : EvE G (tOp (rIx G.K) te tk) Γ (.val v) := fun B0 H0 B H σ E Q kk =>
  ht B0 H0 B H σ E _ fun u B1 H1 s1 e => by
    cases e
    refine hk B0 H0 B1 H1 σ (E.step s1) _ fun w B2 H2 s2 d2 => ?_
    cases d2
    exact .inr (.inl ⟨_, _, i, v, rfl, rfl, SqT.of (((E.step s1).step s2).wd.1 _ hc).1, h, kk v B2 H2 (s1.trans s2) rfl⟩)
theorem it_cell (ht : EvE G te Γ (.val (.ref q))) (hc : LsC G q vs ds) : ItD G (iAny G.K te) Γ ds := fun B0 H0 B H σ E R kk => .inl <|
  ht B0 H0 B H σ E _ fun u B1 H1 s1 e => by
    cases e
    have E1 := E.step s1
    refine ⟨q, rfl, ⟨vs, cell_sl E1 hc.c⟩, kk _ B1 H1 s1 fun n B' H' e1 e2 wd => ?_⟩
    have hsl : SqL G.K H' q vs := SqL.of (wd.1 _ hc.c).1
    have hd := hc.d B' wd.2
    refine ⟨fun hi => ?_, fun hi => ⟨vs, hsl, by rw [dpa_len hd]; exact hi⟩⟩
    have hx : ds[n]? = some ds[n] := List.getElem?_eq_getElem hi
    obtain ⟨v, f1, f2⟩ := dpa_get hd hx
    refine ⟨⟨vs, v, hsl, f1⟩, fun x H'' hy => ?_⟩
    obtain ⟨rfl, hy⟩ := hy
    have := hy vs hsl
    rw [f1] at this; cases this
    exact ⟨B', _, Stp.refl e2, hx, f2⟩
end
end Pd

namespace Pd
open PySem L2
/-! ### what is never reached; attributes; methods -/
section
variable {X : Cx} {K : PySem.W.Frag} {o e value i : Expr} {es : List Expr} {f m : Str} {pos pos' apos tpos p : Pos} {ta tv td ty : TE} {t : TA} {CX : CXT} {k : Nat} {C : Addr} {ps : List Str} {sp : Sp} {E : XK}
theorem kpe_fld (hK : X.K = K) (he : PE X e ta) (hb : attributeBase e f X.env (eval e X.env) = eval e X.env := by rfl) : PE X (.Attribute e f pos) (tFld K ta f) := hK ▸ pe_fld he hb
theorem kps_fld (hK : X.K = K) (ha : PE X o ta) (hv : PE X value tv) (hs : swapsWith value (some (.Attribute o f pos')) pos.line X.env = pure false := by rfl) : PS X (.Assign [.Attribute o f pos'] value pos) (sFld K ta tv f) := hK ▸ ps_fld ha hv hs
structure MtB (P : Program) (w : World) (K : PySem.W.Frag) (mg : Str → Option Value) (base : Heap) (CX : CXT) (k : Nat) (C : Addr) (m : Str) (ps : List Str) (sp : Sp) : Prop where
  ex : ∃ f fd, Meth K C m f ∧ Binds K fd ps [] ∧ FnOk P w K mg base CX k f fd ps sp
theorem pe_methB {pl : Sem Bool} (c : Cls X.K C) (B : MtB X.prog X.w X.K X.mg X.base CX k C m ps sp) (hr : Room k X.A) (he : PE X o ta) (hx : Passes CX X E) (ha : PA X (e :: es) t)
    (hst : starEach (e :: es) X.env = (false, eval e X.env) :: starEach es X.env := by rfl) (hpl : (backTo pos (starEach es X.env)).any (·.1) = false := by rfl)
    (ht : eval (.Call (.Attribute o m apos) (e :: es) [] pos) X.env = (do
      let ov ← eval o X.env
      standAt apos.atName
      let (f, first) ← holding [ov] (getMethod ov m pl)
      callWith pos f first (backTo pos (starEach (e :: es) X.env)) (backToKw pos (keywordEach [] X.env))) := by rfl) : PE X (.Call (.Attribute o m apos) (e :: es) [] pos) (tMeth C m sp [] E ta t) := by
  obtain ⟨f, fd, h1, h2, h3⟩ := B.ex
  exact pe_meth he c h1 h3 hr h2 .nil hx ha hst hpl ht
theorem pe_methB0 {pl : Sem Bool} (c : Cls X.K C) (B : MtB X.prog X.w X.K X.mg X.base CX k C m ps sp) (hr : Room k X.A) (he : PE X o ta) (hx : Passes CX X E)
    (ht : eval (.Call (.Attribute o m apos) [] [] pos) X.env = (do
      let ov ← eval o X.env
      standAt apos.atName
      let (f, first) ← holding [ov] (getMethod ov m pl)
      callWith pos f first (backTo pos (starEach [] X.env)) (backToKw pos (keywordEach [] X.env))) := by rfl) : PE X (.Call (.Attribute o m apos) [] [] pos) (tMeth C m sp [] E ta tNil) := by
  obtain ⟨f, fd, h1, h2, h3⟩ := B.ex
  exact pe_meth0 he c h1 h3 hr h2 .nil hx ht
/-- a class that is made by calling it -/
structure MkB (P : Program) (w : World) (K : PySem.W.Frag) (mg : Str → Option Value) (base : Heap) (CX : CXT) (k : Nat) (C : Addr) (x : Str) (ps : List Str) (sp : Sp) : Prop where
  ex : ∃ f fd, Mk K C f ∧ mg x = some (.ref C) ∧ Binds K fd ps [] ∧ FnOk P w K mg base CX k f fd ps sp
theorem pe_makeB0 {x : Str} (B : MkB X.prog X.w X.K X.mg X.base CX k C x ps sp) (hr : Room (k + 1) X.A) (hg : Gl X x) (hx : Passes CX X E) (hdb : (x == ("__debug__" : Str)) = false := by decide) : PE X (.Call (.Name x p) [] [] pos) (tMake C sp [] E tNil) := by
  obtain ⟨f, fd, h1, h2, h3, h4⟩ := B.ex
  exact pe_make0 h1 h4 hr hg h2 h3 .nil hx hdb
end
/-! ### new cells, changed cells -/
section
variable {K : PySem.W.Frag} {W : WX} {s : US} {Γ : List Ent} {B0 H0 B H : Hp} {σ : L2.St} {q : Addr} {o o' : HO} {r : List (List V × List PyData)}
theorem envW_addu (E : EnvW ((uw K).g s) B0 H0 B H σ Γ) (hq : H q = none) (hr : ∀ x ∈ r, DpAll K B x.1 x.2) : EnvW ((uw K).g (s.add [(q, o)] r)) B0 H0 B (upd H q o) σ Γ := by
  refine E.world ⟨Ex.rfl', E.1.stp.bh.trans (Ex.new hq), fun a u _ h => ?_, fun a u _ h z => z, fun a m => ?_⟩ ⟨fun c hc => ?_, fun x hx => ?_⟩
  · rw [upd_ne (ne_of_none h hq)]; exact h
  · have m : a ∈ (s.add [(q, o)] r).foot := m
    rcases List.mem_cons.mp m with rfl | m
    · exact .inr hq
    · exact .inl m
  · have hc : c ∈ (q, o) :: s.cells := hc
    rcases List.mem_cons.mp hc with rfl | hc
    · exact ⟨upd_same, E.1.stp.bh.back hq⟩
    · have z := E.1.wd.1 c hc
      exact ⟨by rw [upd_ne (ne_of_none z.1 hq)]; exact z.1, z.2⟩
  · rcases List.mem_append.mp hx with hx | hx
    · exact hr x hx
    · exact E.1.wd.2 x hx
theorem envW_putu (E : EnvW ((uw K).g s) B0 H0 B H σ Γ) (hc : (q, o') ∈ s.cells) (hr : ∀ x ∈ r, DpAll K B x.1 x.2) : EnvW ((uw K).g (s.put q o r)) B0 H0 B (upd H q o) σ Γ :=
  EnvW.upd E hc (put_upc E.1.wd.2 hr).1 (put_upc E.1.wd.2 hr).2
theorem envW_nofoot (E : EnvW ((uw K).g s) B0 H0 B H σ Γ) (hq : H q = none) : q ∉ s.foot := fun m => by
  obtain ⟨⟨u, z⟩, _⟩ := E.1.wd.there (a := q) m
  rw [hq] at z; cases z
end
section
variable {K : PySem.W.Frag} {W : WX} {s : US} {Γ : List Ent} {P : PostW US} {te to tk td ty tv tf : TE} {d : PyData} {ds : List PyData} {q a kd C dx : Addr} {vs : List V} {fs : List (Str × V)} {f k : Str} {v : V} {kvs : List (Key × V)} {i : Int}
/-- [..], a cell from now on -/
theorem ew_cell (h : EvF ((uw K).g s) te Γ ds) : EvW (uw K) te Γ s fun e s2 => ∃ q vs, q ∉ s.foot ∧ e = .val (.ref q) ∧ s2 = s.add [(q, .lst vs)] [(vs, ds)] := fun B0 H0 B H σ E Q kk =>
  h B0 H0 B H σ E.1 _ fun q vs B1 H1 s1 hq d1 => by
    have E1 := E.step s1
    exact kk (.val (.ref q)) _ _ B1 _ ⟨q, vs, envW_nofoot E1 hq, rfl, rfl⟩ s1.bb (envW_addu E1 hq fun x hx => by simp at hx; subst hx; exact d1) rfl
/-- o.append(e), o a list in a cell -/
theorem ww_app (ho : EvE ((uw K).g s) to Γ (.val (.ref q))) (hc : (q, HO.lst vs) ∈ s.cells) (h : EvD ((uw K).g s) te Γ d) (hr : (vs, ds) ∈ s.rel) (hz : ds.length < 100000) (kk : ∀ v, P.nx Γ (s.put q (.lst (vs ++ [v])) [(vs ++ [v], ds ++ [d])])) :
    WpW (uw K) W (tDrop (tBM K "list" rAppend to (tCons te tNil))) Γ s P := fun B0 H0 B H σ D E M =>
  ho B0 H0 B H σ E.1 _ fun u B1 H1 s1 e => by
    cases e
    have E1 := E.step s1
    refine ⟨.inl ⟨rfl, vs, cell_sl E1.1 hc⟩, h B0 H0 B1 H1 σ E1.1 _ fun v B2 H2 s2 d2 => ?_⟩
    have E2 := E1.step s2
    have hd := E2.1.wd.2 _ hr
    refine ⟨q, vs, v, rfl, rfl, (E2.1.wd.1 _ hc).1, Evl.sz_lt (by rw [dpa_len hd]; exact hz), ?_⟩
    exact M.nx _ _ _ _ _ (kk v) (s1.bb.trans s2.bb) (envW_putu E2 hc fun x hx => by simp at hx; subst hx; exact dpa_app hd (.cons d2 .nil))
/-- o.f = e, what stands there a plain value -/
theorem ww_fld (hv : EvE ((uw K).g s) tv Γ (.val v)) (ho : EvE ((uw K).g s) to Γ (.val (.ref a))) (hc : (a, HO.ins C dx fs) ∈ s.cells) (c : Cls K C) (n : NoAttr K C f) (hl : fs.length < 1000) (kk : P.nx Γ (s.put a (.ins C dx (putF f v fs)) [])) :
    WpW (uw K) W (sFld K to tv f) Γ s P := fun B0 H0 B H σ D E M =>
  hv B0 H0 B H σ E.1 _ fun u B1 H1 s1 e => by
    cases e
    have E1 := E.step s1
    refine ho B0 H0 B1 H1 σ E1.1 _ fun u B2 H2 s2 e => ?_
    cases e
    have E2 := E1.step s2
    exact ⟨a, C, dx, fs, rfl, (E2.1.wd.1 _ hc).1, c, n, hl, M.nx _ _ _ _ _ kk (s1.bb.trans s2.bb) (envW_putu E2 hc fun x hx => by cases hx)⟩
theorem ee_int (h : EvD ((uw K).g s) te Γ (.int i)) : EvE ((uw K).g s) te Γ (.val (.int i)) := fun B0 H0 B H σ E Q kk =>
  h B0 H0 B H σ E _ fun v B1 H1 s1 d1 => by cases d1; exact kk _ B1 H1 s1 rfl
/-- o.f = {}, o.f = [..]: a new cell -/
theorem ww_fldD (ho : EvE ((uw K).g s) to Γ (.val (.ref a))) (hc : (a, HO.ins C dx fs) ∈ s.cells) (c : Cls K C) (n : NoAttr K C f) (hl : fs.length < 1000) (hoo : ∀ p, EvE ((uw K).g (s.add [(p, .dK [])] [])) to Γ (.val (.ref a))) (kk : ∀ p, p ∉ s.foot → P.nx Γ ((s.add [(p, .dK [])] []).put a (.ins C dx (putF f (.ref p) fs)) [])) :
    WpW (uw K) W (sFld K to tDNewK f) Γ s P := fun B0 H0 B H σ D E M => fun p hp => by
  have E1 : EnvW ((uw K).g (s.add [(p, .dK [])] [])) B0 H0 B (upd H p (.dK [])) σ Γ := envW_addu E hp fun x hx => by cases hx
  refine hoo p B0 H0 B _ σ E1.1 _ fun u B2 H2 s2 e => ?_
  cases e
  have E2 := E1.step s2
  have hc2 : (a, HO.ins C dx fs) ∈ (s.add [(p, .dK [])] []).cells := List.mem_append_right _ hc
  exact ⟨a, C, dx, fs, rfl, (E2.1.wd.1 _ hc2).1, c, n, hl, M.nx _ _ _ _ _ (kk p (envW_nofoot E hp)) s2.bb (envW_putu E2 hc2 fun x hx => by cases hx)⟩
theorem ww_fldL (h : EvF ((uw K).g s) tv Γ ds) (hc : (a, HO.ins C dx fs) ∈ s.cells) (c : Cls K C) (n : NoAttr K C f) (hl : fs.length < 1000) (hoo : ∀ s2, Keeps s s2 [] → EvE ((uw K).g s2) to Γ (.val (.ref a))) (kk : ∀ p vs, p ∉ s.foot → P.nx Γ ((s.add [(p, .lst vs)] [(vs, ds)]).put a (.ins C dx (putF f (.ref p) fs)) [])) :
    WpW (uw K) W (sFld K to tv f) Γ s P := fun B0 H0 B H σ D E M =>
  h B0 H0 B H σ E.1 _ fun p vs B1 H1 s1 hp d1 => by
    have E0 := E.step s1
    have E1 : EnvW ((uw K).g (s.add [(p, .lst vs)] [(vs, ds)])) B0 H0 B1 (upd H1 p (.lst vs)) σ Γ := envW_addu E0 hp fun x hx => by simp at hx; subst hx; exact d1
    refine hoo _ add_keeps B0 H0 B1 _ σ E1.1 _ fun u B2 H2 s2 e => ?_
    cases e
    have E2 := E1.step s2
    have hc2 : (a, HO.ins C dx fs) ∈ (s.add [(p, .lst vs)] [(vs, ds)]).cells := List.mem_append_right _ hc
    exact ⟨a, C, dx, fs, rfl, (E2.1.wd.1 _ hc2).1, c, n, hl, M.nx _ _ _ _ _ (kk p vs (envW_nofoot E0 hp)) (s1.bb.trans s2.bb) (envW_putu E2 hc2 fun x hx => by cases hx)⟩
/-- y in d -/
theorem ed_din (hy : EvD ((uw K).g s) ty Γ (.str k)) (hd : EvE ((uw K).g s) td Γ (.val (.ref kd))) (hc : (kd, HO.dK kvs) ∈ s.cells) : EvD ((uw K).g s) (tDIn ty td) Γ (.bool (valV kvs (.inr k)).isSome) := fun B0 H0 B H σ E Q kk =>
  hy B0 H0 B H σ E _ fun w B1 H1 s1 d1 => by
    cases d1
    refine hd B0 H0 B1 H1 σ (E.step s1) _ fun u B2 H2 s2 e => ?_
    cases e
    exact ⟨kd, _, rfl, .inl ⟨kvs, .inr k, .inl ((((E.step s1).step s2).wd.1 _ hc).1), rfl, rfl⟩, kk _ B2 H2 (s1.trans s2) (.bl _)⟩
theorem ed_dnotin (hy : EvD ((uw K).g s) ty Γ (.str k)) (hd : EvE ((uw K).g s) td Γ (.val (.ref kd))) (hc : (kd, HO.dK kvs) ∈ s.cells) : EvD ((uw K).g s) (tDNotIn ty td) Γ (.bool (!(valV kvs (.inr k)).isSome)) := fun B0 H0 B H σ E Q kk =>
  hy B0 H0 B H σ E _ fun w B1 H1 s1 d1 => by
    cases d1
    refine hd B0 H0 B1 H1 σ (E.step s1) _ fun u B2 H2 s2 e => ?_
    cases e
    exact ⟨kd, _, rfl, .inl ⟨kvs, .inr k, .inl ((((E.step s1).step s2).wd.1 _ hc).1), rfl, rfl⟩, kk _ B2 H2 (s1.trans s2) (.bl _)⟩
/-- list(d) -/
theorem kc_listD {X : Cx} (hc : X.calm = true) : CallR X (.type "list") rListD := call_list_dK hc
theorem ef_listD {ns : List Str} (hd : EvE ((uw K).g s) td Γ (.val (.ref kd))) (hc : (kd, HO.dK kvs) ∈ s.cells) (hn : kvs.map (fun kv => kV kv.1) = ns.map V.str) : EvF ((uw K).g s) (tCB rListD (tCons td tNil)) Γ (ns.map .str) := fun B0 H0 B H σ E Q kk =>
  hd B0 H0 B H σ E _ fun u B1 H1 s1 e => by
    cases e
    refine ⟨kd, kvs, rfl, (((E.step s1).wd.1 _ hc).1), fun p hp => ?_⟩
    rw [hn]
    exact kk p _ B1 H1 s1 hp (dpa_strs ns)
/-- d[y] = (new list, []) -/
theorem ww_dputP (hf : EvF ((uw K).g s) tf Γ ds) (hd : ∀ s2, Keeps s s2 [] → EvE ((uw K).g s2) td Γ (.val (.ref kd))) (hy : ∀ s2, Keeps s s2 [] → EvD ((uw K).g s2) ty Γ (.str k)) (hc : (kd, HO.dK kvs) ∈ s.cells) (hl : kvs.length < 100000)
    (kk : ∀ t f u fv, f ∉ s.foot → u ∉ s.foot → t ∉ s.foot → f ≠ u → f ≠ t → u ≠ t → P.nx Γ ((((s.add [(f, .lst fv)] [(fv, ds)]).add [(u, .lst [])] [([], [])]).add [(t, .tup [.ref f, .ref u])] []).put kd (.dK (putK kvs (.inr k) (.ref t))) [])) :
    WpW (uw K) W (sDPut td ty (tTup (tCons tf (tCons (tLst tNil) tNil)))) Γ s P := fun B0 H0 B H σ D E M =>
  hf B0 H0 B H σ E.1 _ fun f fv B1 H1 s1 hf1 d1 => by
    have E0 := E.step s1
    have E1 : EnvW ((uw K).g (s.add [(f, .lst fv)] [(fv, ds)])) B0 H0 B1 (upd H1 f (.lst fv)) σ Γ := envW_addu E0 hf1 fun x hx => by simp at hx; subst hx; exact d1
    refine ⟨Nat.zero_le _, fun u hu => ?_⟩
    have E2 : EnvW ((uw K).g ((s.add [(f, .lst fv)] [(fv, ds)]).add [(u, .lst [])] [([], [])])) B0 H0 B1 _ σ Γ := envW_addu E1 hu fun x hx => by simp at hx; subst hx; exact .nil
    refine ⟨show 2 ≤ sizeLine by decide, fun t ht => ?_⟩
    have E3 : EnvW ((uw K).g (((s.add [(f, .lst fv)] [(fv, ds)]).add [(u, .lst [])] [([], [])]).add [(t, .tup [.ref f, .ref u])] [])) B0 H0 B1 _ σ Γ := envW_addu E2 ht fun x hx => by cases hx
    have ks : Keeps s (((s.add [(f, .lst fv)] [(fv, ds)]).add [(u, .lst [])] [([], [])]).add [(t, .tup [.ref f, .ref u])] []) [] := (add_keeps.trans add_keeps).trans add_keeps
    refine hd _ ks B0 H0 B1 _ σ E3.1 _ fun x B2 H2 s2 e => ?_
    cases e
    have E4 := E3.step s2
    refine hy _ ks B0 H0 B2 _ σ E4.1 _ fun x B3 H3 s3 d3 => ?_
    cases d3
    have E5 := E4.step s3
    have hc2 := ks.cell _ hc (by simp)
    have nuf : u ≠ f := fun e => by rw [e, upd_same] at hu; cases hu
    have ntu : t ≠ u := fun e => by rw [e, upd_same] at ht; cases ht
    have ntf : t ≠ f := fun e => by rw [e, upd_ne (Ne.symm nuf), upd_same] at ht; cases ht
    have hu1 : H1 u = none := by rw [upd_ne nuf] at hu; exact hu
    have ht1 : H1 t = none := by rw [upd_ne ntu, upd_ne ntf] at ht; exact ht
    refine ⟨kd, _, rfl, .inl ⟨kvs, .inr k, (E5.1.wd.1 _ hc2).1, rfl, Evl.sz_lt hl, rfl⟩, ?_⟩
    exact M.nx _ _ _ _ _ (kk t f u fv (envW_nofoot E0 hf1) (envW_nofoot E0 hu1) (envW_nofoot E0 ht1) (Ne.symm nuf) (Ne.symm ntf) (Ne.symm ntu)) ((s1.bb.trans s2.bb).trans s3.bb) (envW_putu E5 hc2 fun x hx => by cases hx)
end
/-! ### calls of methods and of defs with surroundings -/
section
variable {K : PySem.W.Frag} {S : Type} {w : Wl K S} {W : WX} {s : S} {Γ : List Ent} {P : Post} {to : TE} {ta : TA} {es : List Ent} {a C dx : Addr} {fs : List (Str × V)} {m : Str} {E0 : XK} {d : PyData} {R : List Ent → S → (Out S → Prop) → Prop} {N : Out S → Prop}
theorem ew_meth (ho : EvE (w.g s) to Γ (.val (.ref a))) (hc : (a, HO.ins C dx fs) ∈ w.cells s) (hm : fs.lookup m = none) (h : EvAE (w.g s) ta Γ es) (hR : R (.val (.ref a) :: es) s N) (hN : ∀ c s2, ¬ N (.err c s2)) : EvW w (tMeth C m (spW w R) [] E0 to ta) Γ s fun e s2 => N (.ok e s2) := fun B0 H0 B H σ E Q kk =>
  ho B0 H0 B H σ E.1 _ fun u B1 H1 s1 e => by
    cases e
    have E1 := E.step s1
    refine ⟨a, dx, fs, rfl, (E1.1.wd.1 _ hc).1, hm, h B0 H0 B1 H1 σ E1.1 _ fun vs B2 H2 s2 d2 => ?_⟩
    have E2 := E1.step s2
    refine ⟨B2, .val (.ref a) :: es, s, N, E2.1.stp.bh, by rw [List.append_nil]; exact .cons rfl d2, E2.1.wd, hR, fun e' s3 v B3 H3 n st wd dv => ?_, fun c s3 B3 H3 n => absurd n (hN c s3)⟩
    exact kk e' s3 v B3 H3 n ((s1.bb.trans s2.bb).trans st.bb) (E2.world st wd) dv
/-- the surroundings stay: a step like any other -/
theorem stw_same {B H B2 H2 : Hp} (st : StW (w.g s).foot (w.g s).foot B H B2 H2) (w1 : (w.g s).Wd B H) (w2 : (w.g s).Wd B2 H2) : Stp B H B2 H2 := by
  refine ⟨st.bb, st.bh, fun a o h => ?_, fun a o h z => ?_⟩
  · by_cases hm : a ∈ (w.g s).foot
    · obtain ⟨c, hc, rfl⟩ := List.mem_map.mp hm
      rw [(w1.1 c hc).1] at h; cases h
      exact (w2.1 c hc).1
    · exact st.hh a o hm h
  · by_cases hm : a ∈ (w.g s).foot
    · exact (w2.there hm).2
    · exact st.hid a o hm h z
theorem run_same {B0 H0 B H : Hp} {σ : L2.St} (E : EnvB (w.g s) B0 H0 B H σ Γ) {vs : List V} (hv : EntVs K B vs es) (hR : R es s N) (hN : ∀ o, N o → ∃ d, o = .ok (.dat d) s) {Q : VK} {E1 : XK} (k : ∀ d v B2 H2, N (.ok (.dat d) s) → Stp B H B2 H2 → Dp K B2 v d → Q v H2) : spW w R vs H Q E1 := by
  refine ⟨B, es, s, N, E.stp.bh, hv, E.wd, hR, fun e s3 v B3 H3 n st wd dv => ?_, fun c s3 B3 H3 n => ?_⟩
  · obtain ⟨d, hd⟩ := hN _ n
    cases hd
    exact k d v B3 H3 n (stw_same st E.wd wd) dv
  · obtain ⟨d, hd⟩ := hN _ n
    cases hd
theorem ed_callS (h : EvAE (w.g s) ta Γ es) (hR : R es s N) (hN : ∀ o, N o → o = .ok (.dat d) s) : EvD (w.g s) (tCall (spW w R) [] E0 ta) Γ d := fun B0 H0 B H σ E Q k =>
  h B0 H0 B H σ E _ fun vs B1 H1 s1 d1 => run_same (E.step s1) (by rw [List.append_nil]; exact d1) hR (fun o n => ⟨d, hN o n⟩) fun d' v B2 H2 n s2 d2 => by
    have := hN _ n; cases this
    exact k v B2 H2 (s1.trans s2) d2
theorem ed_meth (ho : EvE (w.g s) to Γ (.val (.ref a))) (hc : (a, HO.ins C dx fs) ∈ w.cells s) (hm : fs.lookup m = none) (h : EvAE (w.g s) ta Γ es) (hR : R (.val (.ref a) :: es) s N) (hN : ∀ o, N o → o = .ok (.dat d) s) : EvD (w.g s) (tMeth C m (spW w R) [] E0 to ta) Γ d := fun B0 H0 B H σ E Q k =>
  ho B0 H0 B H σ E _ fun u B1 H1 s1 e => by
    cases e
    have E1 := E.step s1
    refine ⟨a, dx, fs, rfl, (E1.wd.1 _ hc).1, hm, h B0 H0 B1 H1 σ E1 _ fun vs B2 H2 s2 d2 => ?_⟩
    exact run_same (E1.step s2) (by rw [List.append_nil]; exact .cons rfl d2) hR (fun o n => ⟨d, hN o n⟩) fun d' v B3 H3 n s3 d3 => by
      have := hN _ n; cases this
      exact k v B3 H3 ((s1.trans s2).trans s3) d3
/-- of the answer only a property is known -/
theorem wp_asgS {i : Nat} (h : EvAE (w.g s) ta Γ es) (hR : R es s N) (hN : ∀ o, N o → ∃ d, o = .ok (.dat d) s) (k : ∀ d, N (.ok (.dat d) s) → P.nx (Γ.set i (.dat d))) : WpD (w.g s) W (tAsg (tCall (spW w R) [] E0 ta) (gName i)) Γ P := fun B0 H0 B H σ D E M =>
  h B0 H0 B H σ E _ fun vs B1 H1 s1 d1 => run_same (E.step s1) (by rw [List.append_nil]; exact d1) hR hN fun d v B2 H2 n s2 d2 =>
    M.nx _ _ _ _ (k d n) (s1.trans s2).bb ((E.step (s1.trans s2)).set_dat i d2)
theorem wp_retS (h : EvAE (w.g s) ta Γ es) (hR : R es s N) (hN : ∀ o, N o → ∃ d, o = .ok (.dat d) s) (k : ∀ d, N (.ok (.dat d) s) → P.rt d) : WpD (w.g s) W (tRet (tCall (spW w R) [] E0 ta)) Γ P := fun B0 H0 B H σ D E M =>
  h B0 H0 B H σ E _ fun vs B1 H1 s1 d1 => run_same (E.step s1) (by rw [List.append_nil]; exact d1) hR hN fun d v B2 H2 n s2 d2 =>
    M.rt d v B2 H2 (k d n) (E.stp.trans (s1.trans s2)) (s1.trans s2).bb d2
theorem wp_asgM {i : Nat} (ho : EvE (w.g s) to Γ (.val (.ref a))) (hc : (a, HO.ins C dx fs) ∈ w.cells s) (hm : fs.lookup m = none) (h : EvAE (w.g s) ta Γ es) (hR : R (.val (.ref a) :: es) s N) (hN : ∀ o, N o → ∃ d, o = .ok (.dat d) s) (k : ∀ d, N (.ok (.dat d) s) → P.nx (Γ.set i (.dat d))) : WpD (w.g s) W (tAsg (tMeth C m (spW w R) [] E0 to ta) (gName i)) Γ P := fun B0 H0 B H σ D E M =>
  ho B0 H0 B H σ E _ fun u B1 H1 s1 e => by
    cases e
    have E1 := E.step s1
    refine ⟨a, dx, fs, rfl, (E1.wd.1 _ hc).1, hm, h B0 H0 B1 H1 σ E1 _ fun vs B2 H2 s2 d2 => ?_⟩
    exact run_same (E1.step s2) (by rw [List.append_nil]; exact .cons rfl d2) hR hN fun d v B3 H3 n s3 d3 =>
      M.nx _ _ _ _ (k d n) ((s1.trans s2).trans s3).bb ((E.step ((s1.trans s2).trans s3)).set_dat i d3)
end
end Pd

namespace Pd
open PySem PySem.Spec PyProof.Rows L2
/-! ### how many texts of a list are unlike -/
/-- the last one stands first -/
def kinds : List Str → Nat
  | [] => 0
  | x :: r => if x ∈ r then kinds r else kinds r + 1
theorem kinds_le : ∀ ys : List Str, kinds ys ≤ ys.length
  | [] => Nat.le_refl _
  | x :: r => by
    have := kinds_le r
    unfold kinds
    split <;> simp <;> omega
theorem kinds_nodup : ∀ ys : List Str, kinds ys = ys.length ↔ ys.Nodup
  | [] => by simp [kinds]
  | x :: r => by
    have h1 := kinds_le r
    have h2 := kinds_nodup r
    rw [List.nodup_cons, ← h2]
    show (if x ∈ r then kinds r else kinds r + 1) = r.length + 1 ↔ _
    split
    · rename_i h
      simp [h]; omega
    · rename_i h
      simp [h]
section
variable {P : Program} {w : World} {A : Around} {E : Value → Shared → Prop} {R : Result → Shared → Prop}
def Took (P : Program) (w : World) (h : Heap) (a : Addr) (ys : List Str) : Prop := h.SetOf (PySem.strKind P w) a (fun k => decide (k ∈ ys)) (kinds ys)
theorem Took.keep {h h' : Heap} {a : Addr} {ys : List Str} (T : Took P w h a ys) (k : ∀ o, h.get? a = some o → h'.get? a = some o) : Took P w h' a ys := let ⟨o, es, ep, t, ho, z⟩ := T; ⟨o, es, ep, t, k o ho, z⟩
theorem Took.add {h : Heap} {a : Addr} {ys : List Str} {x : Str} (T : h.SetOf (PySem.strKind P w) a (fun k => decide (k ∈ ys) || decide (k = x)) (if decide (x ∈ ys) = true then kinds ys else kinds ys + 1)) : Took P w h a (x :: ys) := by
  refine SetOf_congr T (fun k => ?_) ?_
  · by_cases h1 : k ∈ ys <;> by_cases h2 : k = x <;> simp [h1, h2]
  · show _ = if x ∈ ys then kinds ys else kinds ys + 1
    by_cases h1 : x ∈ ys <;> simp [h1]
theorem fill_texts {I S : Addr} {fp wr : List Addr} {G : Array GenState → Array GenState → Prop} {xs : List Str} {Pv : Nat → Value → Prop} {St : Nat → Shared → Prop} (W : WalksS P w A.in1 I fp wr G xs.length Pv St) (out : S ∉ fp)
    (low : xs.length + 1 < scanBound) (hv : ∀ i v, Pv i v → ∃ t, v = .str (xs.getD i Str.empty) t) (m : Nat) : ∀ (i : Nat) (s : Shared), i + m = xs.length → St i s → Took P w s.heap S (xs.take i).reverse →
      (∀ s', Moved (S :: wr) G s s' → Took P w s'.heap S xs.reverse → R (.ok (.ret .none)) s') → codeAny (model P w) A (.builtin "set.update.loop" ⟨[.ref S, .ref I], []⟩) R s := by
  have nw : S ∉ wr := fun z => out (W.sub _ z)
  have up : ∀ b ∈ wr, b ∈ S :: wr := fun _ z => List.mem_cons_of_mem _ z
  induction m with
  | zero =>
    intro i s hi st T done
    obtain rfl : i = xs.length := hi
    rw [List.take_length] at T
    refine codeAny_builtin PyProof.Rows.F.entry_set_update_loop (by
      rw [Around.under_plainId PyProof.Rows.F.plain_set_update_loop _]
      exact wpAny_bind (m := pyNext (.ref I)) (W.done s _ _ st fun s' mv => wpAny_pure (done s' (mv.mono up) (T.keep fun o z => mv.heap S o nw z))))
  | succ m ih =>
    intro i s hi st T done
    have lt : i < xs.length := by omega
    have ex : xs.getD i Str.empty = xs[i] := by rw [List.getD_eq_getElem?_getD, List.getElem?_eq_getElem lt]; rfl
    refine codeAny_builtin PyProof.Rows.F.entry_set_update_loop (by
      rw [Around.under_plainId PyProof.Rows.F.plain_set_update_loop _]
      refine wpAny_bind (m := pyNext (.ref I)) (W.item i s _ _ lt st fun v s' pv st' mv => ?_)
      obtain ⟨t, rfl⟩ := hv i v pv
      rw [ex]
      have T' := T.keep (h' := s'.heap) fun o z => mv.heap S o nw z
      refine wpAny_bind (m := holding [Value.str xs[i] t] (setAdd S (.str xs[i] t))) (wpAny_holding ?_)
      unfold setAdd
      refine wpAny_holding (wpAny_bind ((PySem.strKind P w).pyHash (k := xs[i]) (strKind_is _ _ _ _) ?_))
      have few := kinds_le (xs.take i).reverse
      rw [List.length_reverse, List.length_take] at few
      refine wpAny_setAddHashed_of (knd := PySem.strKind P w) (k := xs[i]) (s := { s' with toks := s'.toks + 1 }) (strKind_is _ _ _ _) rfl T' (by omega) fun h' sb T2 => ?_
      have T3 : Took P w h' S (xs.take (i + 1)).reverse := by
        rw [List.take_succ_eq_append_getElem lt, List.reverse_append]
        exact Took.add T2
      have keep : ∀ b o, b ≠ S → s'.heap.get? b = some o → h'.get? b = some o := fun b o ne z => (sb.2 b ne).trans z
      exact wpAny_pure ⟨plainId_quiet PyProof.Rows.F.plain_set_update_loop _, ih (i + 1) _ (by omega) (W.frame _ s' _ _ st' (Nat.le_succ _) fun b hb o z => keep b o (fun q => out (q ▸ hb)) z) T3 fun s2 mv2 T4 =>
        done s2 (Moved.trans W.gtrans ((mv.mono up).then_heap (Nat.le_succ _) fun b o hb z => keep b o (fun q => hb (q ▸ List.mem_cons_self)) z) mv2) T4⟩)
abbrev bareSet (led : Bool) : Obj := { cls := .type "set", dict := none, data := .set #[] 0 (.fresh 0 0 led) }
/-- set(xs), xs a list of texts -/
theorem set_texts {s : Shared} {l : Addr} {its : Array Value} {xs : List Str} {Q : Value → Shared → Prop} (nh : A.handled = none) (hl : s.heap.IsList l its) (ht : PyProof.Rows.StrsAre its.toList xs) (low : xs.length + 1 < scanBound)
    (q : ∀ (h' : Heap) (tk : Nat), Took P w h' s.heap.objs.size xs.reverse → (∀ b o, s.heap.get? b = some o → h'.get? b = some o) → Q (.ref s.heap.objs.size) { s with heap := h', toks := tk }) : wpAny (model P w) A (call (.type "set") [.ref l]) Q E s := by
  have C := PySem.F.called_set
  obtain ⟨c, tl, m1⟩ := C.mro
  have m2 := C.made; have m3 := C.sub; have m4 := C.notType; have m5 := C.canCreate; have m6 := PySem.F.typeCall_set_1 (.ref l)
  refine wpAny_call (codeAny_of_tree (wpAny_pure (Q := _) ⟨Code.quiet_builtin _ (by decide +kernel), codeAny_builtin PySem.F.entry_type_call (by
    rw [Around.under_plain (weight_type_call_type "set" [.ref l] []) rfl]
    repeat (any_goals (first | assumption | wp_step))
    refine codeAny_mono (PySem.code_set_new_1 (.ref l) (E := E) (Q₁ := fun v z => ∃ led, v = .ref s.heap.objs.size ∧ z = { s with heap := s.heap.push (bareSet led) }) fun led => ⟨led, rfl, rfl⟩) fun r z hz => ?_
    cases r with
    | error e => exact hz
    | ok f =>
      cases f with
      | ret v =>
        obtain ⟨led, rfl, rfl⟩ := hz
        have hlB : (s.heap.push (bareSet led)).IsList l its := hl.push _
        generalize hB : s.heap.push (bareSet led) = B at *
        have b1 : B.get? s.heap.objs.size = some (bareSet led) := by rw [← hB]; exact Heap.get?_push_size _ rfl
        have b2 : ∀ a o, s.heap.get? a = some o → B.get? a = some o := fun a o z => by rw [← hB]; exact Heap.get?_push_of_some _ z
        have b3 : B.objs.size = s.heap.objs.size + 1 := by rw [← hB]; exact Heap.size_push ..
        have m7 := C.init.lookup; have m8 := C.init.bind (.ref s.heap.objs.size)
        have ty : Shared.TypeIs { s with heap := B } (.ref s.heap.objs.size) "set" := ⟨_, b1, rfl⟩
        repeat (any_goals (first | assumption | wp_step))
        refine codeAny_mono (codeAny_call_builtin (R := wants (fun v z => v = .none ∧ ∃ h' tk, z = { s with heap := h', toks := tk } ∧ Took P w h' s.heap.objs.size xs.reverse ∧ ∀ b o, s.heap.get? b = some o → h'.get? b = some o) E) C.init.plain PySem.F.entry_set_init (check_set_init_1 ty (by
          obtain ⟨⟨k1, k2, k3, k4⟩, g1, g2, n1, g3⟩ := id hlB
          simp only at g2 g3
          subst g2; subst g3
          have z1 := PySem.F.sub_list_set; have z2 := PySem.F.sub_list_frozenset
          have z3 : (Value.type "list" == Value.type "dict") = false := by decide
          unfold Builtin.«set.__init__» noKeywords Builtin.Frozenset.updateFrom
          generalize hI : pyIter = PI
          wp_walk
          subst hI
          have n0 : l < s.heap.objs.size := let ⟨_, z, _⟩ := hl; Heap.lt_size z
          have n2 : l ≠ B.objs.size := by rw [b3]; exact Nat.ne_of_lt (Nat.lt_succ_of_lt n0)
          have n3 : s.heap.objs.size ∉ [B.objs.size, l] := by
            rw [b3]; simpa using Nat.ne_of_gt n0
          have W := (Walks.list (prog := P) (w := w) (A := A.in1.in1.in1) (by simp [nh]) B.objs.size l n2 its).toS
          have sz : its.size = xs.length := by rw [← StrsAre.len_eq ht, Array.length_toList]
          rw [sz] at W
          refine wpAny_pyIter_list hlB (wpAny_bind (wpAny_runValue (fill_texts W n3 low (fun i v hv => SS.strs_at ht i v (by rw [Array.getElem?_toList]; exact hv)) xs.length 0 _ (Nat.zero_add _) ⟨⟨_, Heap.get?_push_size _ rfl, rfl, rfl⟩, hlB.push _⟩ ?_ fun z mv T => ?_)))
          · exact (setObjOf_fresh (knd := PySem.strKind P w) led).setOf (Heap.get?_push_of_some _ b1) (Nat.lt_of_le_of_lt (Nat.zero_le _) low)
          · obtain ⟨h', g', d', tk', os'⟩ := z
            obtain rfl : g' = s.gens := mv.gens
            obtain rfl : d' = s.drawn := mv.drawn
            obtain rfl : os' = s.os := mv.os
            refine wpAny_pure (wpAny_pure (a := Fin.done (.ret .none)) ⟨rfl, h', tk', rfl, T, fun b o z => ?_⟩)
            have lt := Heap.lt_size z
            exact mv.heap b o (by rw [b3]; simpa using ⟨Nat.ne_of_lt lt, Nat.ne_of_lt (Nat.lt_succ_of_lt lt)⟩) (Heap.get?_push_of_some _ (b2 b o z))))) fun r z hz => ?_
        cases r with
        | error e => exact hz
        | ok f =>
          cases f with
          | ret v =>
            obtain ⟨rfl, h', tk, rfl, T, keep⟩ := hz
            repeat (any_goals (first | assumption | wp_step))
            exact q h' tk T keep
          | _ => exact hz.elim
      | _ => exact hz.elim)⟩))
end
/-- len(set(xs)), xs a list of texts -/
def tLenKinds (K : PySem.W.Frag) (ta : TE) : TE := fun σ H Q => ta σ H fun x H1 => ∃ (l : Addr) (xs : List Str), x = .ref l ∧ SqL K H1 l (xs.map V.str) ∧ xs.length + 1 < scanBound ∧ Q (.int (kinds xs.reverse : Nat)) H1
theorem pe_lenKinds {X : Cx} {a : Expr} {ta : TE} {p p2 q pos : Pos} (hc : X.calm = true) (g1 : Gl X "len") (m1 : X.mg "len" = none) (g2 : Gl X "set") (m2 : X.mg "set" = none) (ha : PE X a ta)
    (na : starEach [a] X.env = (false, eval a X.env) :: starEach [] X.env := by rfl) : PE X (.Call (.Name "len" p) [.Call (.Name "set" p2) [a] [] q] [] pos) (tLenKinds X.K ta) := ⟨fun pins s σ H Q I h =>
  Call_ (ld_blt I g1 m1 boot_len (PyProof.Rows.callWith_builtin1 (PyProof.Rows.args_cons (Call_ (ld_blt I g2 m2 boot_set (PyProof.Rows.callWith_type1 (PyProof.Rows.args_cons (thn (ha.run pins s σ H _ I h) fun v s1 ⟨x, H1, I1, r1, z⟩ => PyProof.Rows.args_nil (by
    obtain ⟨l, xs, rfl, hq, low, z⟩ := z
    cases r1
    obtain ⟨its, r, pl, _⟩ := I1.list hq
    refine set_texts (I1.ok.hd hc) pl.isList (xs := xs) (by simpa using strsAre_of r) low fun h' tk T keep => PyProof.Rows.args_nil ?_
    obtain ⟨o, es, ep, t, k1, k2, k3, _, _, k4, k5, k6⟩ := T
    have few := kinds_le xs.reverse
    rw [List.length_reverse] at few
    have I2 : Inv X pins σ H1 { s1 with heap := h', toks := tk } := I1.kept keep
    have b : ((es.size : Nat) : Int) < 2 ^ 63 := by
      have : es.size < 1000000 := Nat.lt_of_lt_of_le k4 (by decide)
      omega
    exact call_len_set k1 k2 k3 k5 b ⟨.int (kinds xs.reverse : Nat), H1, I2.tok _, ⟨_, by rw [k6]⟩, z⟩)) na) na rfl))) rfl) rfl rfl))⟩
section
variable {G : Gd} {te : TE} {Γ : List Ent} {xs : List Str} {q : Addr} {vs : List V}
theorem ed_kinds (h : EvD G te Γ (.list (xs.map .str))) (low : xs.length < 1000) : EvD G (tLenKinds G.K te) Γ (.int (kinds xs.reverse : Nat)) := fun B0 H0 B H σ E Q kk =>
  h B0 H0 B H σ E _ fun v B1 H1 s1 d1 => by
    have E1 := E.step s1
    cases d1 with
    | lst hs hd =>
      have e := dpa_strs_inv hd
      subst e
      exact ⟨_, xs, rfl, E1.stp.bh.sl hs, by unfold scanBound; omega, kk _ _ _ s1 (.int _)⟩
end
end Pd

namespace Pd
open PySem L2
/-! ### methods of the text, bundled; making an instance -/
structure MtT (K : PySem.W.Frag) (C : Addr) (m qual : Str) (st : Stmt) : Prop where
  ex : ∃ f fd, Meth K C m f ∧ Fun K m qual st f fd
structure MkT (K : PySem.W.Frag) (mg : Str → Option Value) (C : Addr) (x qual : Str) (st : Stmt) : Prop where
  ex : ∃ f fd, Mk K C f ∧ mg x = some (.ref C) ∧ Fun K "__init__" qual st f fd
section
variable {P : Program} {w : World} {K : PySem.W.Frag} {mg : Str → Option Value} {base : Heap} {CX : CXT} {k : Nat} {C : Addr} {m x qual : Str} {ps : List Str} {sp : Sp} {st : Stmt}
theorem MtT.ok (T : MtT K C m qual st)
    (h : ∀ (kV doc pm : Value) (an : Option Addr) (cdv ct : Value) (us : List Value), us.length = ps.length → bindArgs (PySem.W.fnOf m qual (defArgs st) (defBody st) (defScope st) .none kV doc pm an cdv ct) ⟨us, []⟩ = pure (ps.zip us))
    (g : ∀ f fd, Fun K m qual st f fd → FnOk P w K mg base CX k f fd ps sp) : MtB P w K mg base CX k C m ps sp := by
  obtain ⟨f, fd, e, F⟩ := T.ex
  exact ⟨f, fd, e, F.binds h, g f fd F⟩
theorem MkT.ok (T : MkT K mg C x qual st)
    (h : ∀ (kV doc pm : Value) (an : Option Addr) (cdv ct : Value) (us : List Value), us.length = ps.length → bindArgs (PySem.W.fnOf "__init__" qual (defArgs st) (defBody st) (defScope st) .none kV doc pm an cdv ct) ⟨us, []⟩ = pure (ps.zip us))
    (g : ∀ f fd, Fun K "__init__" qual st f fd → FnOk P w K mg base CX k f fd ps sp) : MkB P w K mg base CX k C x ps sp := by
  obtain ⟨f, fd, e, e2, F⟩ := T.ex
  exact ⟨f, fd, e, e2, F.binds h, g f fd F⟩
end
section
variable {K : PySem.W.Frag} {h : Heap} {mg : Str → Option Value} {f C : Addr} {m x q : Str}
theorem mtT_mk {st : Stmt} {oc : Value} {od an : Option Addr} {osl : Array (Option Value)} {kV doc pm cdv ct : Value} (a : PySem.W.findIn K (.ref C) m = some (some (.ref f))) (i : PySem.W.isFn K (.ref f) = true) (l : K.lookup f = some ⟨oc, od, .func (PySem.W.fnOf m q (defArgs st) (defBody st) (defScope st) .none kV doc pm an cdv ct), osl⟩)
    (c : PySem.W.codeIn K cdv q = true) (k : PySem.W.keepIn K (.ref f) = true) : MtT K C m q st := ⟨f, _, ⟨a, i, k⟩, fun_mk l c k⟩
theorem mkT_mk (X : K.In h) (G : h.Ns mainGlobals mg) {st : Stmt} {oc : Value} {od an : Option Addr} {osl : Array (Option Value)} {kV doc pm cdv ct : Value} (g : PySem.W.nsIn K mainGlobals x = some (some (.ref C))) (mk : PySem.W.makesIn K C = true) (kc : PySem.W.keepIn K (.ref C) = true)
    (a : PySem.W.findIn K (.ref C) "__init__" = some (some (.ref f))) (i : PySem.W.isFn K (.ref f) = true) (l : K.lookup f = some ⟨oc, od, .func (PySem.W.fnOf "__init__" q (defArgs st) (defBody st) (defScope st) .none kV doc pm an cdv ct), osl⟩)
    (c : PySem.W.codeIn K cdv q = true) (k : PySem.W.keepIn K (.ref f) = true) : MkT K mg C x q st := ⟨f, _, ⟨mk, a, i, kc⟩, PySem.W.mg_of X G g, fun_mk l c k⟩
end
section
variable {K : PySem.W.Frag} {s : US} {Γ : List Ent} {C : Addr} {E0 : XK} {R : List Ent → US → (Out US → Prop) → Prop}
/-- C(): a new instance, then __init__ -/
theorem ew_make {N0 : Ent → US → Prop} (h : ∀ a dx, a ∉ s.foot → ∃ N, R [.val (.ref a)] (s.add [(a, .ins C dx [])] []) N ∧ ∀ o, N o → ∃ s2, o = .ok (.dat .none) s2 ∧ N0 (.val (.ref a)) s2) :
    EvW (uw K) (tMake C (spW (uw K) R) [] E0 tNil) Γ s N0 := fun B0 H0 B H σ E Q kk => fun x dx hx hd ne => by
  have E1 : EnvW ((uw K).g s) B0 H0 B (upd H dx (.own x)) σ Γ := by
    refine E.step ⟨Ex.rfl', E.1.stp.bh.trans (Ex.new hd), Ex.new hd, fun a o h z => z⟩
  have hx1 : (upd H dx (.own x)) x = none := by rw [upd_ne (Ne.symm ne)]; exact hx
  have E2 : EnvW ((uw K).g (s.add [(x, .ins C dx [])] [])) B0 H0 B (upd (upd H dx (.own x)) x (.ins C dx [])) σ Γ := envW_addu E1 hx1 fun x hx => by cases hx
  obtain ⟨N, hR, hN⟩ := h x dx (envW_nofoot E1 hx1)
  refine ⟨B, [.val (.ref x)], _, N, E2.1.stp.bh, .cons rfl .nil, E2.1.wd, hR, fun e s2 v B2 H2 n st wd dv => ?_, fun c s2 B2 H2 n => ?_⟩
  · obtain ⟨s3, e1, n3⟩ := hN _ n
    cases e1
    cases dv
    exact ⟨rfl, kk (.val (.ref x)) _ _ B2 H2 n3 st.bb (E2.world st wd) rfl⟩
  · obtain ⟨s3, e1, _⟩ := hN _ n
    cases e1
end
/-! ### reversed(range(n)) -/
def dwnD (n : Nat) : List PyData := (List.range n).map fun (k : Nat) => .int ((n : Int) - 1 - (k : Int))
theorem it_revR1 {G : Gd} {te : TE} {Γ : List Ent} {n : Int} {tr : L2.St → Hp → (Int → Int → Hp → Prop) → Prop} (h : EvD G te Γ (.int n)) (h1 : -(2 ^ 62) ≤ n) (h2 : n < 2 ^ 62)
    (ht : ∀ σ H R, (te σ H fun v H1 => ∃ z, v = .int z ∧ R 0 z H1) → tr σ H R) : ItD G (iRevR tr) Γ (dwnD n.toNat) := fun B0 H0 B H σ E R k =>
  ht σ H _ <| h B0 H0 B H σ E _ fun v B1 H1 s1 d1 => by
    cases d1
    refine ⟨n, rfl, by decide, by decide, h1, h2, ?_⟩
    have e : (n - 0).toNat = n.toNat := by rw [Int.sub_zero]
    rw [e]
    refine k _ B1 H1 s1 fun i B' H' e1 e2 _ => ⟨fun hi => ?_, fun hi => ?_⟩
    · have hi : i < n.toNat := by rw [dwnD, List.length_map, List.length_range] at hi; exact hi
      refine ⟨hi, fun x H'' hy => ?_⟩
      obtain ⟨rfl, rfl⟩ := hy
      refine ⟨B', .int (0 + ((n.toNat : Nat) : Int) - 1 + (i : Int) * (-1)), Stp.refl e2, ?_, .int _⟩
      unfold dwnD
      rw [List.getElem?_map, List.getElem?_range hi]
      simp only [Option.map_some, Option.some.injEq, PyData.int.injEq]
      omega
    · rw [dwnD, List.length_map, List.length_range] at hi; exact hi
theorem it_rev1 {G : Gd} {te : TE} {Γ : List Ent} {n : Int} (h : EvD G te Γ (.int n)) (h1 : -(2 ^ 62) ≤ n) (h2 : n < 2 ^ 62) : ItD G (iRevR (tRg1 te)) Γ (dwnD n.toNat) := it_revR1 h h1 h2 fun _ _ _ z => z
/-! ### a text among texts -/
theorem flat_strs (ns : List Str) : (ns.map PyData.str).all flatD = true := by
  rw [List.all_map]; exact List.all_eq_true.mpr fun _ _ => rfl
theorem in_strs (x : Str) : ∀ ns : List Str, inD (.str x) (ns.map .str) = decide (x ∈ ns)
  | [] => by simp [inD]
  | n :: ns => by
    have ih := in_strs x ns
    unfold inD at ih ⊢
    rw [List.map_cons, List.any_cons, ih]
    by_cases h : n = x
    · subst h; simp [PyData.eqv]
    · have h2 : ¬ x = n := fun z => h z.symm
      simp [PyData.eqv, h, h2]
section
variable {G : Gd} {x : Str} {ns : List Str}
theorem oq_in_strsT : OpD G (rInA G.K) (.str x) (.tuple (ns.map .str)) (.bool (decide (x ∈ ns))) := od_to (od_in rfl (flat_strs ns) (.inr rfl)) (by rw [in_strs])
theorem oq_in_strsL : OpD G (rInA G.K) (.str x) (.list (ns.map .str)) (.bool (decide (x ∈ ns))) := od_to (od_in rfl (flat_strs ns) (.inl rfl)) (by rw [in_strs])
theorem oq_notIn_strsL : OpD G (rNotInA G.K) (.str x) (.list (ns.map .str)) (.bool (!decide (x ∈ ns))) := od_to (od_notIn rfl (flat_strs ns) (.inl rfl)) (by rw [in_strs])
end
/-! ### a list from its end, a list so many times -/
theorem kpe_revL {X : Cx} {K : PySem.W.Frag} (hK : X.K = K) {e : Expr} {te : TE} {k : Nat} {p1 p2 p3 pos : Pos} (he : PE X e te) : PE X (.Subscript e (.Slice none none (some (.UnaryOp .USub (.Constant (.int 1) k p1) p2)) p3) pos) (tRevL K te) := hK ▸ pe_revL he
section
variable {G : Gd} {Γ : List Ent} {ta tk : TE} {ds : List PyData} {n : Int}
theorem ef_revL (ha : EvD G ta Γ (.list ds)) : EvF G (tRevL G.K ta) Γ ds.reverse := fun B0 H0 B H σ E Q k =>
  ha B0 H0 B H σ E _ fun v B1 H1 s1 d1 => by
    cases d1 with
    | lst g1 a1 => exact ⟨_, _, rfl, s1.bh.sl g1, fun p hp => k p _ B1 H1 s1 hp (dpa_rev a1)⟩
theorem dpa_reps {K : PySem.W.Frag} {B : Hp} {vs : List V} {ds : List PyData} (h : DpAll K B vs ds) : ∀ m : Nat, DpAll K B (List.replicate m vs).flatten (List.replicate m ds).flatten
  | 0 => .nil
  | m + 1 => by
    rw [List.replicate_succ, List.replicate_succ, List.flatten_cons, List.flatten_cons]
    exact dpa_app h (dpa_reps h m)
theorem ef_rep (ha : EvF G ta Γ ds) (hk : EvD G tk Γ (.int n)) (h1 : Side (-(2 ^ 63) ≤ n)) (h2 : Side (n < 2 ^ 63)) (h3 : Side (ds.length * n.toNat ≤ 100000)) : EvF G (tOp rRep ta tk) Γ (List.replicate n.toNat ds).flatten := fun B0 H0 B H σ E Q k =>
  ha B0 H0 B H σ E _ fun p vs B1 H1 s1 hp d1 => by
    have s2 := s1.new (o := .lst vs) hp
    have E1 := E.step s2
    refine hk B0 H0 _ _ σ E1 _ fun v B2 H2 s3 d2 => ?_
    cases d2
    have hl := dpa_len d1
    refine ⟨p, n, vs, rfl, rfl, s3.hh _ _ upd_same, h1.out, h2.out, by rw [hl]; exact Nat.le_trans h3.out (by decide), fun q hq => ?_⟩
    exact k q _ B2 H2 (s2.trans s3) hq (dpa_reps (s3.bb.dpa ((Ex.new (s1.bh.back hp)).dpa d1)) _)
end
end Pd

namespace Pd
open PySem L2
/-! ### an element of a slot's own list -/
section
variable {G : Gd} {Γ : List Ent} {tk : TE} {ds : List PyData} {d : PyData} {i : Nat} {k : Int}
theorem ev_ownix (hi : SideR (Γ[i]? = some (.own ds))) (hk : EvD G tk Γ (.int k)) (h : Side (atI ds k = some d)) : EvD G (tOp (rIx G.K) (tVar i) tk) Γ d := fun B0 H0 B H σ E Q kk => by
  obtain ⟨p, vs, e1, e2, e3, e4, e5⟩ := E.own hi.out
  refine ⟨.ref p, e1, hk B0 H0 B H σ E _ fun v B1 H1 s1 d1 => ?_⟩
  cases d1
  obtain ⟨u, hu, hd⟩ := dpa_at (s1.bb.dpa e5) h.out
  exact .inl ⟨_, _, k, u, rfl, rfl, SqL.of (s1.hh _ _ e4), hu, kk u B1 H1 s1 hd⟩
theorem ed_ownlen (hi : SideR (Γ[i]? = some (.own ds))) : EvD G (tCB (rLen G.K) (tCons (tVar i) tNil)) Γ (.int (ds.length : Int)) := fun B0 H0 B H σ E Q kk => by
  obtain ⟨p, vs, e1, e2, e3, e4, e5⟩ := E.own hi.out
  refine ⟨.ref p, e1, _, _, rfl, .inl ⟨_, SqL.of e4, rfl⟩, ?_⟩
  rw [dpa_len e5]
  exact kk _ B H (Stp.refl E.stp.bh) (.int _)
end
theorem ixN_at {n j : Nat} (h : j < n) : ixN n (j : Int) = some j := by
  unfold ixN
  have h0 : ¬ ((j : Int) < 0) := by omega
  simp; omega
theorem atI_zero {α : Type} {x : α} {xs : List α} : atI (x :: xs) 0 = some x := show atI _ ((0 : Nat) : Int) = _ from atI_nat rfl
/-- the scope of the list comprehension that the i-th of these statements assigns or returns -/
def lcScope (sts : List Stmt) (i : Nat) : Scope := match sts[i]? with
  | some (.Assign _ (.ListComp _ _ sc _) _) => sc
  | some (.Return (some (.ListComp _ _ sc _)) _) => sc
  | _ => defScope (.Pass ⟨0, 0, 0, 0⟩)
/-- the scope of an inner comprehension's surroundings, as it is made ready -/
def relSc (sc outer : Scope) : Scope := relabel sc { scope := outer, locals := 0, globals := 0, cells := [] }
end Pd

namespace Pd
open PySem L2
/-! ### lists of values: walks, comprehensions, slices -/
def WalksV (G : Gd) (J : It) (B1 : Hp) (ws : List V) : Prop :=
  ∀ (i : Nat) (B' H' : Hp), Ex B1 B' → Ex B' H' → G.Wd B' H' →
    (i < ws.length → J.go i H' ∧ ∀ x H'', J.yld i H' x H'' → H'' = H' ∧ ws[i]? = some x) ∧ (ws.length ≤ i → J.stop i H')
def ItV (G : Gd) (wi : TI) (Γ : List Ent) (ws : List V) : Prop :=
  ∀ (B0 H0 B H : Hp) (σ : L2.St), EnvB G B0 H0 B H σ Γ → ∀ R : It → Hp → Prop, (∀ J B1 H1, Stp B H B1 H1 → WalksV G J B1 ws → R J H1) → wi σ H R
/-- a new list of values -/
def EvFV (G : Gd) (te : TE) (Γ : List Ent) (ws : List V) : Prop :=
  ∀ (B0 H0 B H : Hp) (σ : L2.St), EnvB G B0 H0 B H σ Γ → ∀ Q : VK, (∀ p B2 H2, Stp B H B2 H2 → H2 p = none → Q (.ref p) (upd H2 p (.lst ws))) → te σ H Q
section
variable {G : Gd} {Γ : List Ent} {te : TE} {q : Addr} {ws : List V}
theorem itv_cell (ht : EvE G te Γ (.val (.ref q))) (hc : (q, HO.lst ws) ∈ G.cells) : ItV G (iAny G.K te) Γ ws := fun B0 H0 B H σ E R kk => .inl <|
  ht B0 H0 B H σ E _ fun u B1 H1 s1 e => by
    cases e
    have E1 := E.step s1
    refine ⟨q, rfl, ⟨ws, cell_sl E1 hc⟩, kk _ B1 H1 s1 fun n B' H' e1 e2 wd => ?_⟩
    have hsl : SqL G.K H' q ws := SqL.of (wd.1 _ hc).1
    refine ⟨fun hi => ⟨⟨ws, ws[n], hsl, List.getElem?_eq_getElem hi⟩, fun x H'' hy => ?_⟩, fun hi => ⟨ws, hsl, hi⟩⟩
    obtain ⟨rfl, hy⟩ := hy
    exact ⟨rfl, hy ws hsl⟩
theorem itv_new (ht : EvFV G te Γ ws) : ItV G (iAny G.K te) Γ ws := fun B0 H0 B H σ E R kk => .inl <|
  ht B0 H0 B H σ E _ fun p B1 H1 s1 hp => by
    have s2 := s1.new (o := .lst ws) hp
    refine ⟨p, rfl, ⟨ws, SqL.of upd_same⟩, kk _ _ _ s2 fun n B' H' e1 e2 wd => ?_⟩
    have hsl : SqL G.K H' p ws := SqL.of (e2 _ _ (e1 _ _ upd_same))
    refine ⟨fun hi => ⟨⟨ws, ws[n], hsl, List.getElem?_eq_getElem hi⟩, fun x H'' hy => ?_⟩, fun hi => ⟨ws, hsl, hi⟩⟩
    obtain ⟨rfl, hy⟩ := hy
    exact ⟨rfl, hy ws hsl⟩
theorem efv_slice {tl th : TO} {lo hi : Option Int} (ha : EvE G te Γ (.val (.ref q))) (hc : (q, HO.lst ws) ∈ G.cells) (h1 : EvO G tl Γ lo) (h2 : EvO G th Γ hi) : EvFV G (tSl (rSlA G.K) te tl th) Γ (cutV ws lo hi) := fun B0 H0 B H σ E Q k =>
  ha B0 H0 B H σ E _ fun v B1 H1 s1 e => by
    cases e
    refine h1 B0 H0 B1 H1 σ (E.step s1) _ fun B2 H2 s2 => h2 B0 H0 B2 H2 σ (E.step (s1.trans s2)) _ fun B3 H3 s3 => ?_
    exact .inl ⟨_, _, rfl, cell_sl (E.step ((s1.trans s2).trans s3)) hc, fun p hp => k p B3 H3 ((s1.trans s2).trans s3) hp⟩
theorem efv_rev (ha : EvE G te Γ (.val (.ref q))) (hc : (q, HO.lst ws) ∈ G.cells) : EvFV G (tRevL G.K te) Γ ws.reverse := fun B0 H0 B H σ E Q k =>
  ha B0 H0 B H σ E _ fun v B1 H1 s1 e => by
    cases e
    exact ⟨_, _, rfl, cell_sl (E.step s1) hc, fun p hp => k p B1 H1 s1 hp⟩
/-- [e for x in a list of values] -/
theorem ef_lcV {α : Type} {wi : TI} {vs : List Nat} {j : Nat} {c : α → V} {ys : List α} {h : α → PyData} (hi : ItV G wi Γ (ys.map c)) (hz : ys.length ≤ 50000) (hv : j ∈ vs)
    (he : ∀ y ∈ ys, EvD G te ((wipeE Γ vs).set j (.val (c y))) (h y)) : EvF G (tLc wi (gName j) tYes te vs) Γ (ys.map h) := fun B0 H0 B H σ E Q k =>
  hi B0 H0 B H σ E _ fun J B1 H1 s1 w => fun Dl hD => by
    have E1 := E.step s1
    unfold WalksV at w
    rw [List.length_map] at w
    refine ⟨fun i m H' => m = ys.length - i ∧ i ≤ ys.length ∧ ∃ B' ws, Stp B1 H1 B' H' ∧ B' Dl = none ∧ H' Dl = some (.lst ws) ∧ DpAll G.K B' ws ((ys.take i).map h),
      ⟨ys.length, by simp, Nat.zero_le _, B1, [], (Stp.refl s1.bh).own hD, s1.bh.back hD, upd_same, by simp; exact .nil⟩, ?_⟩
    rintro i m H' ⟨rfl, hle, B', ws, s2, nB, hH, hd⟩
    obtain ⟨w1, w2⟩ := w i B' H' s2.bb s2.bh (E1.step s2).wd
    by_cases hlt : i < ys.length
    · obtain ⟨go, yl⟩ := w1 hlt
      refine .inr ⟨go, fun H3 => ∃ B3 ws3, Stp B1 H1 B3 H3 ∧ B3 Dl = none ∧ H3 Dl = some (.lst ws3) ∧ DpAll G.K B3 ws3 ((ys.take (i + 1)).map h), fun H3 ⟨B3, ws3, a1, a2, a3, a4⟩ => ⟨ys.length - (i + 1), by omega, rfl, hlt, B3, ws3, a1, a2, a3, a4⟩, fun x H'' hy => ?_⟩
      obtain ⟨rfl, hx⟩ := yl x H'' hy
      have hy' : ys[i]? = some ys[i] := List.getElem?_eq_getElem hlt
      generalize ys[i] = y at hy'
      have hxy : x = c y := by rw [List.getElem?_map, hy'] at hx; exact (Option.some.inj hx).symm
      subst hxy
      have hmem : y ∈ ys := List.mem_of_getElem? hy'
      have E3 := (E1.step s2).wipe vs
      refine ⟨by rw [wipe_set hv, wipe_wipe], ?_⟩
      show te _ H'' _
      refine he y hmem B0 H0 B' H'' _ (E3.set_val j _) _ fun z B5 H5 s5 d5 => ?_
      have hD5 : H5 Dl = some (.lst ws) := s5.hh Dl _ hH
      have nB5 : B5 Dl = none := s5.hid Dl _ hH nB
      have hl : ws.length ≤ i := by
        rw [dpa_len hd, List.length_map, List.length_take]; omega
      refine ⟨ws, hD5, Evl.sz_lt (by omega), B5, ws ++ [z], ?_, nB5, upd_same, ?_⟩
      · have st := s2.trans s5
        refine ⟨st.bb, st.bh.mut nB5, fun a o ha => ?_, st.hid⟩
        rw [upd_ne (ne_of_none ha hD)]; exact st.hh a o ha
      · have htake : (ys.take (i + 1)) = ys.take i ++ [y] := by rw [List.take_add_one, hy']; rfl
        rw [htake, List.map_append]
        exact dpa_app (s5.bb.dpa hd) (.cons d5 .nil)
    · have e : i = ys.length := by omega
      subst e
      refine .inl ⟨w2 (Nat.le_refl _), ?_⟩
      rw [List.take_length] at hd
      have hb : Stp B H B' (fun a => if a = Dl then none else H' a) := by
        refine ⟨s1.bb.trans s2.bb, fun a o ha => ?_, fun a o ha => ?_, fun a o ha z => ?_⟩
        · rw [if_neg (ne_of_none ha nB)]; exact s2.bh a o ha
        · have h1 := s1.hh a o ha
          rw [if_neg (ne_of_none h1 hD)]; exact s2.hh a o h1
        · exact s2.hid a o (s1.hh a o ha) (s1.hid a o ha z)
      have := k Dl ws B' (fun a => if a = Dl then none else H' a) hb (if_pos rfl) hd
      have e : upd (fun a => if a = Dl then none else H' a) Dl (.lst ws) = H' := by
        funext a
        unfold upd
        by_cases ha : a = Dl
        · rw [if_pos ha, ha, hH]
        · rw [if_neg ha]
          show (if a = Dl then none else H' a) = H' a
          rw [if_neg ha]
      rw [e] at this
      exact this
theorem ev_isNref {a : Addr} (h : EvE G te Γ (.val (.ref a))) : EvD G (tOp rIsN te (tC .non)) Γ (.bool false) := fun B0 H0 B H σ E Q k =>
  h B0 H0 B H σ E _ fun v B1 H1 s1 e => by
    cases e
    exact ⟨rfl, k _ B1 H1 s1 (.bl _)⟩
theorem cutV_last {α : Type} (f : α → V) (xs : List α) (x : α) : cutV ((xs ++ [x]).map f) none (some (-1)) = xs.map f := by
  unfold cutV
  rw [HT.sIx_none, List.drop_zero, Nat.sub_zero, List.length_map]
  have e : HT.sIx (xs ++ [x]).length (xs ++ [x]).length (some (-1)) = xs.length := by
    simp only [HT.sIx]
    rw [if_pos (by decide), List.length_append, List.length_singleton]; omega
  rw [e, ← List.map_take, List.take_append_of_le_length (Nat.le_refl _), List.take_length]
theorem ee_str {x : Str} (h : EvD G te Γ (.str x)) : EvE G te Γ (.val (.str x)) := fun B0 H0 B H σ E Q k =>
  h B0 H0 B H σ E _ fun v B1 H1 s1 d1 => by cases d1; exact k _ B1 H1 s1 rfl
theorem ed_sval {x : Str} (h : EvE G te Γ (.val (.str x))) : EvD G te Γ (.str x) := ed_val h fun _ _ => .str x
end
theorem kpe_reverse {X : Cx} {K : PySem.W.Frag} {o : Expr} {to : TE} {apos cpos : Pos} (hK : X.K = K) (ho : PE X o to) (hbase : attributeBase o "reverse" X.env (eval o X.env) = eval o X.env := by rfl) (hline : (apos.endLine == cpos.line) = true := by rfl) :
    PE X (.Call (.Attribute o "reverse" apos) [] [] cpos) (tBM0 K "list" rReverse to) := hK ▸ pe_bm0 PySem.F.plainAttrs_list PySem.F.slot_list_reverse PySem.F.type_list_reverse mt_reverse ho hbase hline
/-! ### arguments, lists that change the surroundings -/
def EvAW {K : PySem.W.Frag} {S : Type} (w : Wl K S) (ta : TA) (Γ : List Ent) (s : S) (N : List Ent → S → Prop) : Prop :=
  ∀ (B0 H0 B H : Hp) (σ : L2.St), EnvW (w.g s) B0 H0 B H σ Γ → ∀ Q : List V → Hp → Prop, (∀ es s2 vs B2 H2, N es s2 → Ex B B2 → EnvW (w.g s2) B0 H0 B2 H2 σ Γ → EntVs K B2 vs es → Q vs H2) → ta σ H Q
section
variable {K : PySem.W.Frag} {S : Type} {w : Wl K S} {ta : TA} {te to : TE} {Γ : List Ent} {s : S} {N : List Ent → S → Prop} {es : List Ent} {a C dx : Addr} {fs : List (Str × V)} {m : Str} {E0 : XK} {R : List Ent → S → (Out S → Prop) → Prop}
theorem eaw_nil (h : N [] s) : EvAW w tNil Γ s N := fun B0 H0 B H σ E Q k => k [] s [] B H h Ex.rfl' E .nil
theorem eaw_cons (h : EvW w te Γ s fun e s2 => EvAW w ta Γ s2 fun es s3 => N (e :: es) s3) : EvAW w (tCons te ta) Γ s N := fun B0 H0 B H σ E Q k =>
  h B0 H0 B H σ E _ fun e s2 v B2 H2 n x E2 dv => n B0 H0 B2 H2 σ E2 _ fun es s3 vs B3 H3 n3 x3 E3 dvs => k _ s3 _ B3 H3 n3 (x.trans x3) E3 (.cons (dv.up x3) dvs)
theorem EvW.mono {N N' : Ent → S → Prop} (h : EvW w te Γ s N) (k : ∀ e s2, N e s2 → N' e s2) : EvW w te Γ s N' := fun B0 H0 B H σ E Q q => h B0 H0 B H σ E Q fun e s2 v B2 H2 n => q e s2 v B2 H2 (k e s2 n)
theorem EvAW.mono {N' : List Ent → S → Prop} (h : EvAW w ta Γ s N) (k : ∀ e s2, N e s2 → N' e s2) : EvAW w ta Γ s N' := fun B0 H0 B H σ E Q q => h B0 H0 B H σ E Q fun e s2 v B2 H2 n => q e s2 v B2 H2 (k e s2 n)
theorem eaw_ea (h : EvAE (w.g s) ta Γ es) (k : N es s) : EvAW w ta Γ s N := fun B0 H0 B H σ E Q q =>
  h B0 H0 B H σ E.1 _ fun vs B2 H2 st dv => q es s vs B2 H2 k st.bb (E.step st) dv
theorem ew_callW {N : Ent → S → Prop} (h : EvAW w ta Γ s fun es s2 => ∃ N0, R es s2 N0 ∧ ∀ o, N0 o → ∃ e s3, o = .ok e s3 ∧ N e s3) : EvW w (tCall (spW w R) [] E0 ta) Γ s N := fun B0 H0 B H σ E Q k =>
  h B0 H0 B H σ E _ fun es s1 vs B1 H1 n x1 E1 d1 => by
    obtain ⟨N0, hR, hN⟩ := n
    refine ⟨B1, es, s1, N0, E1.1.stp.bh, by rw [List.append_nil]; exact d1, E1.1.wd, hR, fun e s2 v B2 H2 n st wd dv => ?_, fun c s2 B2 H2 n => ?_⟩
    · obtain ⟨e', s3, e1, n3⟩ := hN _ n
      cases e1
      exact k e s2 v B2 H2 n3 (x1.trans st.bb) (E1.world st wd) dv
    · obtain ⟨e', s3, e1, _⟩ := hN _ n
      cases e1
end
section
variable {K : PySem.W.Frag} {W : WX} {s : US} {Γ : List Ent} {P : PostW US} {te to tk : TE} {ta : TA} {d : PyData} {ds : List PyData} {q a : Addr} {ws us vs : List V} {i : Nat} {v : V} {k : Int} {j : Nat} {ts tb : TS} {N : Ent → US → Prop}
/-- [.., ..], a cell from now on -/
theorem ew_lstV (h : EvAW (uw K) ta Γ s fun es s2 => ∃ us : List V, es = us.map .val ∧ us.length ≤ 100000 ∧ ∀ q, q ∉ s2.foot → N (.val (.ref q)) (s2.add [(q, .lst us)] [])) : EvW (uw K) (tLst ta) Γ s N := fun B0 H0 B H σ E Q kk =>
  h B0 H0 B H σ E _ fun es s1 vs B1 H1 n x1 E1 d1 => by
    obtain ⟨us, rfl, hl, n⟩ := n
    have e : ∀ {us vs : List V}, EntVs K B1 vs (us.map .val) → vs = us := by
      intro us
      induction us with
      | nil => intro vs h; cases h; rfl
      | cons u us ih => intro vs h; cases h with | cons h1 h2 => rw [ih h2]; cases h1; rfl
    have := e d1
    subst this
    refine ⟨Evl.sz_of hl, fun p hp => ?_⟩
    exact kk _ _ _ B1 _ (n p (envW_nofoot E1 hp)) x1 (envW_addu E1 hp fun x hx => by cases hx) rfl
/-- a new list of values, a cell from now on -/
theorem ew_newV (h : EvFV ((uw K).g s) te Γ ws) (n : ∀ q, q ∉ s.foot → N (.val (.ref q)) (s.add [(q, .lst ws)] [])) : EvW (uw K) te Γ s N := fun B0 H0 B H σ E Q kk =>
  h B0 H0 B H σ E.1 _ fun q B1 H1 s1 hq => by
    have E1 := E.step s1
    exact kk _ _ _ B1 _ (n q (envW_nofoot E1 hq)) s1.bb (envW_addu E1 hq fun x hx => by cases hx) rfl
/-- o.append(e), o a list of values in a cell -/
theorem ww_appV (ho : EvE ((uw K).g s) to Γ (.val (.ref q))) (hc : (q, HO.lst ws) ∈ s.cells) (hz : ws.length < 100000)
    (h : EvW (uw K) te Γ s fun e s2 => ∃ v, e = .val v ∧ (q, HO.lst ws) ∈ s2.cells ∧ P.nx Γ (s2.put q (.lst (ws ++ [v])) [])) :
    WpW (uw K) W (tDrop (tBM K "list" rAppend to (tCons te tNil))) Γ s P := fun B0 H0 B H σ D E M =>
  ho B0 H0 B H σ E.1 _ fun u B1 H1 s1 e => by
    cases e
    have E1 := E.step s1
    refine ⟨.inl ⟨rfl, ws, cell_sl E1.1 hc⟩, h B0 H0 B1 H1 σ E1 _ fun e s2 v B2 H2 n x2 E2 dv => ?_⟩
    obtain ⟨v', rfl, hc2, n⟩ := n
    cases dv
    refine ⟨q, ws, v, rfl, rfl, (E2.1.wd.1 _ hc2).1, Evl.sz_lt hz, ?_⟩
    exact M.nx _ _ _ _ _ n (s1.bb.trans x2) (envW_putu E2 hc2 fun x hx => by cases hx)
/-- x[k] = e, x a list of values in a cell -/
theorem ww_setV (hk : ∀ s2, EvD ((uw K).g s2) tk Γ (.int k)) (hi : Γ[i]? = some (.val (.ref q))) (hj : ixN ws.length k = some j)
    (h : EvW (uw K) te Γ s fun e s2 => ∃ v, e = .val v ∧ (q, HO.lst ws) ∈ s2.cells ∧ P.nx Γ (s2.put q (.lst (ws.set j v)) [])) :
    WpW (uw K) W (tAsg te (gSub (tVar i) tk rSetL)) Γ s P := fun B0 H0 B H σ D E M =>
  h B0 H0 B H σ E _ fun e s1 v B1 H1 n x1 E1 dv => by
    obtain ⟨v', rfl, hc, n⟩ := n
    cases dv
    refine ⟨.ref q, E1.1.val hi, hk s1 B0 H0 B1 H1 σ E1.1 _ fun u B2 H2 s2 d2 => ?_⟩
    cases d2
    have E2 := E1.step s2
    refine ⟨q, ws, k, j, rfl, rfl, (E2.1.wd.1 _ hc).1, hj, ?_⟩
    exact M.nx _ _ _ _ _ n (x1.trans s2.bb) (envW_putu E2 hc fun x hx => by cases hx)
/-- o.append(e), o a slot's own list, e changes the surroundings -/
theorem ww_appOwn (hi : Γ[i]? = some (.own ds)) (hz : ds.length < 100000) (h : EvW (uw K) te Γ s fun e s2 => ∃ d, e = .dat d ∧ P.nx (Γ.set i (.own (ds ++ [d]))) s2) :
    WpW (uw K) W (tDrop (tBM K "list" rAppend (tVar i) (tCons te tNil))) Γ s P := fun B0 H0 B H σ D E M => by
  obtain ⟨p, vs, e1, e2, e3, e4, e5⟩ := E.1.own hi
  refine ⟨.ref p, e1, .inl ⟨rfl, vs, SqL.of e4⟩, h B0 H0 B H σ E _ fun e s2 v B2 H2 n x2 E2 dv => ?_⟩
  obtain ⟨d, rfl, n⟩ := n
  obtain ⟨p', vs', f1, f2, f3, f4, f5⟩ := E2.1.own hi
  rw [e1] at f1; cases f1
  refine ⟨p, vs', v, rfl, rfl, f4, Evl.sz_lt (by rw [dpa_len f5]; exact hz), ?_⟩
  exact M.nx _ _ _ _ _ n x2 ⟨E2.1.mut_own hi e1 (dpa_app f5 (.cons dv .nil)), E2.2⟩
/-- o.reverse(), o a list in a cell -/
theorem ww_rev (ho : EvE ((uw K).g s) to Γ (.val (.ref q))) (hc : (q, HO.lst vs) ∈ s.cells) (hr : (vs, ds) ∈ s.rel) (kk : P.nx Γ (s.put q (.lst vs.reverse) [(vs.reverse, ds.reverse)])) :
    WpW (uw K) W (tDrop (tBM0 K "list" rReverse to)) Γ s P := fun B0 H0 B H σ D E M =>
  ho B0 H0 B H σ E.1 _ fun u B1 H1 s1 e => by
    cases e
    have E1 := E.step s1
    refine ⟨.inl ⟨rfl, vs, cell_sl E1.1 hc⟩, q, vs, rfl, rfl, (E1.1.wd.1 _ hc).1, ?_⟩
    exact M.nx _ _ _ _ _ kk s1.bb (envW_putu E1 hc fun x hx => by simp at hx; subst hx; exact dpa_rev (E1.1.wd.2 _ hr))
/-- a slot's own list is a cell from now on | a cell is a slot's own list from now on -/
theorem ww_give (hi : Γ[i]? = some (.own ds)) (k : ∀ p vs, p ∉ s.foot → WpW (uw K) W ts (Γ.set i (.val (.ref p))) (s.add [(p, .lst vs)] [(vs, ds)]) P) : WpW (uw K) W ts Γ s P := fun B0 H0 B H σ D E M => by
  obtain ⟨p, vs, e1, e2, e3, e4, e5⟩ := E.1.own hi
  have nf := E.1.off i p ds hi e1
  refine k p vs nf B0 H0 B H σ D ⟨⟨E.1.stp, ⟨fun c hc => ?_, fun x hx => ?_⟩, by simpa using E.1.len, fun m x e h1 h2 => ?_, fun m n p' ds' es' hmn h1 h2 h3 h4 => ?_, fun m p' ds' h1 h3 => ?_⟩, fun a m => ?_⟩ M
  · have hc : c ∈ (p, HO.lst vs) :: s.cells := hc
    rcases List.mem_cons.mp hc with rfl | hc
    · exact ⟨e4, e2⟩
    · exact E.1.wd.1 c hc
  · have hx : x ∈ (vs, ds) :: s.rel := hx
    rcases List.mem_cons.mp hx with rfl | hx
    · exact e5
    · exact E.1.wd.2 x hx
  · rcases get_set h2 with ⟨rfl, rfl⟩ | ⟨ne, h2⟩
    · rw [e1] at h1; cases h1; rfl
    · have := E.1.get m x e h1 h2
      cases e <;> exact this
  · rcases get_set h1 with ⟨_, z⟩ | ⟨n1, h1⟩
    · cases z
    · rcases get_set h2 with ⟨_, z⟩ | ⟨n2, h2⟩
      · cases z
      · exact E.1.dis m n p' ds' es' hmn h1 h2 h3 h4
  · rcases get_set h1 with ⟨_, z⟩ | ⟨n1, g1⟩
    · cases z
    · intro z
      have z : p' ∈ p :: s.foot := z
      rcases List.mem_cons.mp z with e | z
      · subst e; exact E.1.dis m i p' ds' ds n1 g1 hi h3 e1
      · exact E.1.off m p' ds' g1 h3 z
  · have m : a ∈ p :: s.foot := m
    rcases List.mem_cons.mp m with rfl | m
    · exact e3
    · exact E.2 a m
theorem ww_take (hi : Γ[i]? = some (.val (.ref q))) (hn : q ∉ s.foot) (k : WpW (uw K) W ts (Γ.set i (.own ds)) s P) : WpW (uw K) W ts Γ (s.add [(q, .lst vs)] [(vs, ds)]) P := fun B0 H0 B H σ D E M => by
  have e1 := E.1.val hi
  have w1 := E.1.wd.1 (q, HO.lst vs) List.mem_cons_self
  have e5 := E.1.wd.2 (vs, ds) List.mem_cons_self
  have hm : q ∈ (s.add [(q, .lst vs)] [(vs, ds)]).foot := List.mem_cons_self
  have e3 := E.2 q hm
  have no : ∀ (m : Nat) (p' : Addr) (ds' : List PyData), Γ[m]? = some (.own ds') → σ[m]? = some (some (.ref p')) → p' ≠ q := fun m p' ds' h1 h3 e => by
    subst e
    exact E.1.off m p' ds' h1 h3 hm
  refine k B0 H0 B H σ D ⟨⟨E.1.stp, ⟨fun c hc => E.1.wd.1 c (List.mem_cons_of_mem _ hc), fun x hx => E.1.wd.2 x (List.mem_cons_of_mem _ hx)⟩, by simpa using E.1.len, fun m x e h1 h2 => ?_, fun m n p' ds' es' hmn h1 h2 h3 h4 => ?_, fun m p' ds' h1 h3 => ?_⟩, fun a m => E.2 a (List.mem_cons_of_mem _ m)⟩ M
  · rcases get_set h2 with ⟨rfl, rfl⟩ | ⟨ne, h2⟩
    · rw [e1] at h1; cases h1
      exact ⟨q, vs, rfl, w1.2, e3, w1.1, e5⟩
    · have := E.1.get m x e h1 h2
      cases e <;> exact this
  · rcases get_set h1 with ⟨e, _⟩ | ⟨n1, h1⟩
    · subst e
      rw [e1] at h3; cases h3
      rcases get_set h2 with ⟨z, _⟩ | ⟨n2, g2⟩
      · exact absurd z.symm hmn
      · exact no n q es' g2 h4 rfl
    · skip
      rcases get_set h2 with ⟨e, _⟩ | ⟨n2, g2⟩
      · subst e
        rw [e1] at h4; cases h4
        exact no m q ds' (by assumption) h3 rfl
      · exact E.1.dis m n p' ds' es' hmn h1 g2 h3 h4
  · rcases get_set h1 with ⟨rfl, _⟩ | ⟨n1, h1⟩
    · rw [e1] at h3; cases h3; exact hn
    · exact fun z => E.1.off m p' ds' h1 h3 (List.mem_cons_of_mem _ z)
/-- a for over a list of values in a cell -/
theorem ww_forV {wi : TI} (I : Nat → List Ent → US → Prop) (hw : wi = iAny K te) (ht : EvE ((uw K).g s) te Γ (.val (.ref q))) (hc : ∀ i Γ' s', I i Γ' s' → (q, HO.lst ws) ∈ s'.cells) (h0 : I 0 Γ s)
    (hs : ∀ i x Γ' s', ws[i]? = some x → I i Γ' s' → WpW (uw K) W tb (Γ'.set j (.val x)) s' { P with nx := I (i + 1), ct := I (i + 1), bk := P.nx }) (hd : ∀ Γ' s', I ws.length Γ' s' → P.nx Γ' s') : WpW (uw K) W (tFor wi (gName j) tb) Γ s P := fun B0 H0 B H σ D E M => by
  subst hw
  refine .inl <| ht B0 H0 B H σ E.1 _ fun u B1 H1 s1 e => ?_
  cases e
  refine ⟨q, rfl, ⟨ws, cell_sl (E.step s1).1 (hc _ _ _ h0)⟩, ?_⟩
  refine ⟨fun i m σ' H' => m = ws.length - i ∧ i ≤ ws.length ∧ ∃ Γ' s' B', I i Γ' s' ∧ Ex B1 B' ∧ EnvW ((uw K).g s') B0 H0 B' H' σ' Γ', ⟨ws.length, by simp, Nat.zero_le _, Γ, s, B1, h0, Ex.rfl', E.step s1⟩, ?_⟩
  rintro i m σ' H' ⟨rfl, hle, Γ', s', B', hI, e1, E'⟩
  have hsl : SqL K H' q ws := SqL.of (E'.1.wd.1 _ (hc _ _ _ hI)).1
  by_cases hlt : i < ws.length
  · refine .inr ⟨⟨ws, ws[i], hsl, List.getElem?_eq_getElem hlt⟩, fun σ3 H3 => ∃ Γ3 s3 B3, I (i + 1) Γ3 s3 ∧ Ex B1 B3 ∧ EnvW ((uw K).g s3) B0 H0 B3 H3 σ3 Γ3, fun σ3 H3 ⟨Γ3, s3, B3, a1, a2, a3⟩ => ⟨ws.length - (i + 1), by omega, rfl, hlt, Γ3, s3, B3, a1, a2, a3⟩, fun x H'' hy => ?_⟩
    obtain ⟨rfl, hy⟩ := hy
    have hx := hy ws hsl
    refine hs i x Γ' s' hx hI B0 H0 B' H'' _ _ ⟨E'.1.set_val j _, E'.2⟩ ⟨fun Γ3 s3' B3 H3 σ3 a1 a2 a3 => ⟨Γ3, s3', B3, a1, e1.trans a2, a3⟩, fun Γ3 s3' B3 H3 σ3 a1 a2 a3 => M.nx _ _ _ _ _ a1 ((s1.bb.trans e1).trans a2) a3,
      fun Γ3 s3' B3 H3 σ3 a1 a2 a3 => ⟨Γ3, s3', B3, a1, e1.trans a2, a3⟩, fun d s3' v B3 H3 a1 a2 => M.rt _ _ _ _ _ a1 ((s1.bb.trans e1).trans a2), fun c Γ3 s3' B3 H3 σ3 a1 a2 a3 => M.er _ _ _ _ _ _ a1 ((s1.bb.trans e1).trans a2) a3⟩
  · have e : i = ws.length := by omega
    subst e
    exact .inl ⟨⟨ws, hsl, Nat.le_refl _⟩, M.nx _ _ _ _ _ (hd _ _ hI) (s1.bb.trans e1) E'⟩
/-- if not e, e changes the surroundings -/
theorem ww_ifNot {tu tz : TS} (h : EvW (uw K) te Γ s fun e s2 => ∃ b, e = .dat (.bool b) ∧ (b = false → WpW (uw K) W tu Γ s2 P) ∧ (b = true → WpW (uw K) W tz Γ s2 P)) : WpW (uw K) W (tIfS (tNot (tTest te)) tu tz) Γ s P := fun B0 H0 B H σ D E M =>
  h B0 H0 B H σ E _ fun e s2 v B2 H2 n x E2 dv => by
    obtain ⟨b, rfl, h1, h2⟩ := n
    cases dv
    refine ⟨b, rfl, ?_⟩
    cases b with
    | true => exact h2 rfl B0 H0 B2 H2 σ D E2 (M.up x)
    | false => exact h1 rfl B0 H0 B2 H2 σ D E2 (M.up x)
/-- a value that is data -/
theorem ww_toDat {n : Nat} (hi : Γ[i]? = some (.val v)) (hr : (vs, ds) ∈ s.rel) (hv : vs[n]? = some v) (hd : ds[n]? = some d) (k : WpW (uw K) W ts (Γ.set i (.dat d)) s P) : WpW (uw K) W ts Γ s P := fun B0 H0 B H σ D E M => by
  have e1 := E.1.val hi
  obtain ⟨v', f1, f2⟩ := dpa_get (E.1.wd.2 _ hr) hd
  rw [hv] at f1; cases f1
  have := E.1.set_dat i f2
  have es : σ.set i (some v) = σ := by
    refine List.ext_getElem? fun m => ?_
    by_cases hm : m = i
    · subst hm
      have hl := (List.getElem?_eq_some_iff.mp e1).1
      rw [List.getElem?_set_self hl, e1]
    · rw [List.getElem?_set_ne (Ne.symm hm)]
  rw [es] at this
  exact k B0 H0 B H σ D ⟨this, E.2⟩ M
/-- a list in a cell, as data -/
theorem dp_cell {G : Gd} {B H : Hp} (wd : G.Wd B H) (x : Ex B H) (h : LsC G q vs ds) : Dp G.K H (.ref q) (.list ds) := .lst (SqL.of (wd.1 _ h.c).1) (x.dpa (h.d B wd.2))
theorem ed_cne {e : PyData} {tx : TE} (ho : EvE ((uw K).g s) to Γ (.val (.ref q))) (hc : LsC ((uw K).g s) q vs ds) (he : EvD ((uw K).g s) tx Γ e) (h1 : Side (SeqAt.shaped (.list ds) = true)) (h2 : Side (SeqAt.shaped e = true)) : EvD ((uw K).g s) (tOp (rNeA K) to tx) Γ (.bool (!PyData.eqv (.list ds) e)) := fun B0 H0 B H σ E Q k =>
  ho B0 H0 B H σ E _ fun u B1 H1 s1 e' => by
    cases e'
    refine he B0 H0 B1 H1 σ (E.step s1) _ fun x B2 H2 s2 d2 => ?_
    have E2 := (E.step s1).step s2
    exact .inr ⟨_, _, dp_cell E2.wd E2.stp.bh hc, E2.stp.bh.dp d2, h1.out, h2.out, k _ B2 H2 (s1.trans s2) (.bl _)⟩
end
end Pd

namespace Pd
open PySem L2
/-! ### defs that are called only where no repr is under way -/
structure FnG (P : Program) (wo : World) (K : PySem.W.Frag) (mg : Str → Option Value) (base : Heap) (k : Nat) (f : Addr) (fd : FuncData) (ps : List Str) (sp : Sp) : Prop where
  few : ∀ xs H Q E, sp xs H Q E → xs.length = ps.length
  go : ∀ (A : Around) (out : List Env) (s : Shared) (H : Hp) (as : Args) (us : List Value) (xs : List V) (Q : VK) (E : XK), A.guards = some [] → Room k A →
    Env0 P wo K mg base A out s H → BindsTo s fd as (ps.zip us) → Vals xs us → sp xs H Q E → codeAny (model P wo) A (.call (.ref f) as) (CR CX0 out P wo H s Q E) s
theorem fn_ofG {P : Program} {wo : World} {K : PySem.W.Frag} {mg : Str → Option Value} {base : Heap} {k : Nat} {f : Addr} {nm qu : Str} {pa : Arguments} {bo : List Stmt} {sc : Scope} {dV kV doc pm cdv ct oc : Value} {an od : Option Addr} {osl : Array (Option Value)} {N ps : List Str} {sp : Sp}
    (at_ : K.lookup f = some ⟨oc, od, .func (PySem.W.fnOf nm qu pa bo sc dV kV doc pm an cdv ct), osl⟩) (cd : PySem.W.codeIn K cdv qu = true) (S : FnScope N ps sc) (few : ∀ xs H Q E, sp xs H Q E → xs.length = ps.length)
    (hb : ∀ (A : Around) (out : List Env) (s : Shared) (H : Hp) (xs : List V) (Q : VK) (E : XK), A.guards = some [] → Room k (A.deeper (PyProof.Rows.envOfC qu sc s.heap.objs.size f cdv)) → sp xs H Q E →
      ∃ t, PSs (cxOf CX0 P wo K mg base N qu sc f cdv A out s H E) bo t ∧ t { nx := fun _ H' => Q .non H', rt := Q } (start N xs) H) : FnG P wo K mg base (k + 1) f (PySem.W.fnOf nm qu pa bo sc dV kV doc pm an cdv ct) ps sp := by
  constructor
  · exact few
  intro A out s H as us xs Q E hg hr ev bi va told
  have many := few _ _ _ _ told
  have kin : K.In s.heap := ev.mod.kin.keeps fun b o z => (ev.bs b o z).1
  have nolim : s.heap.NoLimit := ev.mod.nolimit.keeps fun b o z => (ev.bs b o z).1
  have kinds : ∀ y ∈ ps.zip us, sc.names.lookup y.1 = some .local ∨ (sc.names.lookup y.1 = some .cell ∧ ((PySem.cellsFrom (s.heap.objs.size + 1) sc.names []).lookup y.1).isSome = true) := by
    rintro ⟨n, v⟩ hy
    have hn := (List.of_mem_zip hy).1
    rcases S.par n hn with z | z
    · exact Or.inl z
    · exact Or.inr ⟨z, PySem.W.cellsFrom_some _ _ _ (Or.inl z)⟩
  apply PySem.codeAny_call_function hr.depth (kin _ _ at_) rfl S.co S.gen rfl (PySem.W.codeRec_of kin cd)
  apply bi
  apply PySem.wpAny_newFunctionEnv_cells S.kind kinds
  intro env he s1 made
  subst he
  refine ⟨nolim.keeps made.toInCall.keep, ?_⟩
  apply codeAny_func
  have ⟨t, pt, qt⟩ := hb A out s H xs Q E hg (hr.deeper _) told
  have J0 := inv_start (CX := CX0) (E := E) S hr.hd ev many va made
  apply wpAny_mono (pt.run [] s1 (start N xs) H _ J0 qt)
  · intro fl s' he
    match fl, he with
    | .ret u, ⟨v, σ', H', J, rv, q⟩ => exact ⟨v, H', J.os, J.bare, J.base, J.hok, rv, q⟩
    | .next, ⟨σ', H', J, q⟩ => exact ⟨.non, H', J.os, J.bare, J.base, J.hok, rfl, q⟩
    | .brk, ⟨_, _, _, q⟩ => exact q.elim
    | .cont, ⟨_, _, _, q⟩ => exact q.elim
  · intro e s' he
    exact he
structure FnBG (P : Program) (w : World) (K : PySem.W.Frag) (mg : Str → Option Value) (base : Heap) (k : Nat) (x : Str) (ps : List Str) (sp : Sp) : Prop where
  ex : ∃ f fd, mg x = some (.ref f) ∧ PySem.W.keepIn K (.ref f) = true ∧ Binds K fd ps [] ∧ FnG P w K mg base k f fd ps sp
theorem FnT.okG {P : Program} {w : World} {K : PySem.W.Frag} {mg : Str → Option Value} {base : Heap} {k : Nat} {x qual : Str} {ps : List Str} {sp : Sp} {st : Stmt} (T : FnT K mg x qual st)
    (h : ∀ (kV doc pm : Value) (an : Option Addr) (cdv ct : Value) (us : List Value), us.length = ps.length → bindArgs (PySem.W.fnOf x qual (defArgs st) (defBody st) (defScope st) .none kV doc pm an cdv ct) ⟨us, []⟩ = pure (ps.zip us))
    (g : ∀ f fd, Fun K x qual st f fd → FnG P w K mg base k f fd ps sp) : FnBG P w K mg base k x ps sp := by
  obtain ⟨f, fd, e, F⟩ := T.ex
  exact ⟨f, fd, e, F.kp, F.binds h, g f fd F⟩
section
variable {X : Cx} {k : Nat} {x : Str} {ps : List Str} {sp : Sp} {E : XK} {p pos : Pos} {e : Expr} {es : List Expr} {t : TA}
theorem pe_callG (B : FnBG X.prog X.w X.K X.mg X.base k x ps sp) (hr : Room k X.A) (hgd : X.A.guards = some []) (hg : Gl X x) (hx : Passes CX0 X E) (ha : PA X (e :: es) t) (hdb : (x == ("__debug__" : Str)) = false := by decide)
    (he : starEach (e :: es) X.env = (false, eval e X.env) :: starEach es X.env := by rfl) (hpl : (backTo pos (starEach es X.env)).any (·.1) = false := by rfl) :
    PE X (.Call (.Name x p) (e :: es) [] pos) (tCall sp [] E t) := by
  obtain ⟨f, fd, h1, h2, h3, h4⟩ := B.ex
  refine ⟨fun pins s σ H Q I h => ?_⟩
  refine wpAny_Call_Name_kw (ld_glob I hg h1 ?_ hdb)
  refine PySem.W.callWith_K (h₀ := X.base) I.ok.mod.kin h2 (thn (ha.run pos pins s σ H _ I h) fun us s1 z => ?_) he hpl
  obtain ⟨vs, H1, I1, r, q⟩ := z
  refine ⟨I1.kIn, ?_⟩
  have r2 : Vals (vs ++ []) (us ++ []) := r.append .nil
  have hl : (us ++ []).length = ps.length := by rw [← r2.length]; exact h4.few _ _ _ _ q
  apply wpAny_call
  refine codeAny_mono (h4.go X.A X.stack s1 H1 ⟨us, []⟩ (us ++ []) (vs ++ []) Q E hgd hr I1.env0 (h3 s1 us I1.kIn hl) r2 q) fun z s' hq => ?_
  match z, hq with
  | .error e, hq => exact hx pins σ H1 s1 e s' I1 hq
  | .ok (.ret u), hq => exact I1.after hq
  | .ok .next, hq => exact hq.elim
  | .ok .brk, hq => exact hq.elim
  | .ok .cont, hq => exact hq.elim
end
section
variable {P : Program} {wo : World} {K : PySem.W.Frag} {mg : Str → Option Value} {base : Heap} {S : Type} {w : Wl K S}
theorem fn_okWG {x qual : Str} {st : Stmt} {f : Addr} {fd : FuncData} {N ps : List Str} {k : Nat} {R : List Ent → S → (Out S → Prop) → Prop} (F : Fun K x qual st f fd) (Sc : FnScope N ps (defScope st)) (len : ∀ es s O, R es s O → es.length = ps.length)
    (hb : ∀ (cdv : Value) (A : Around) (outer : List Env) (s : Shared) (H : Hp) (E : XK), A.guards = some [] → Room k (A.deeper (PyProof.Rows.envOfC qual (defScope st) s.heap.objs.size f cdv)) →
      ∃ t, PSs (cxOf CX0 P wo K mg base N qual (defScope st) f cdv A outer s H E).nox (defBody st) t ∧ ∀ es s0 O, R es s0 O → WpW w WNo t (entryE N es) s0 { nx := fun _ s2 => O (.ok (.dat .none) s2), rt := fun e s2 => O (.ok e s2) }) : FnG P wo K mg base (k + 1) f fd ps (spW w R) := by
  obtain ⟨oc, od, kV, doc, pm, an, cdv, ct, osl, rfl, lk, hcd⟩ := F.ex
  refine fn_ofG lk hcd Sc (fun vs H Q E h => ?_) fun A outer s H vs Q E hg hr h => ?_
  · obtain ⟨B, es, s0, O, e, hd, wd, hR, _⟩ := h
    rw [hd.len]; exact len es s0 O hR
  · obtain ⟨B, es, s0, O, e, hd, wd, hR, q, _⟩ := h
    obtain ⟨t, ht, hw⟩ := hb cdv A outer s H E hg hr
    refine ⟨t, ht.nox, hw es s0 O hR B _ B H _ _ (entry_envW e wd hd) ⟨fun Γ2 s2 B2 H2 σ2 a b c => ?_, fun _ _ _ _ _ a => a.elim, fun _ _ _ _ _ a => a.elim, fun e' s2 v B2 H2 a b st wd2 hf dv => ?_, fun _ _ _ _ _ _ a => a.elim⟩⟩
    · exact q (.dat .none) s2 .non B2 H2 a (stW_of c.1.stp c.2) c.1.wd .non
    · exact q e' s2 v B2 H2 a (stW_of st hf) wd2 dv
end
/-! ### pop(i), x.f[i] = .., tuples and lists that are made and changed, max of a list -/
theorem kpe_popAt {X : Cx} {K : PySem.W.Frag} {o e : Expr} {to te : TE} {apos cpos : Pos} (hK : X.K = K) (ho : PE X o to) (he : PE X e te) (hbase : attributeBase o "pop" X.env (eval o X.env) = eval o X.env := by rfl)
    (hfew : ((backTo cpos (starEach [e] X.env)).all (fun x => !x.1) && (backToKw cpos (keywordEach [] X.env)).all (fun x => x.1.isSome)
      && decide ([e].length + ([] : List Keyword).length + (if ([] : List Keyword).isEmpty then 0 else 1) < 30)) = true := by rfl)
    (hline : (apos.endLine == cpos.line) = true := by rfl) (hs : starEach [e] X.env = (false, eval e X.env) :: starEach [] X.env := by rfl) (hplain : (backTo cpos (starEach [] X.env)).any (·.1) = false := by rfl) :
    PE X (.Call (.Attribute o "pop" apos) [e] [] cpos) (tBM K "list" rPopAt to (tCons te tNil)) := hK ▸ pe_bm PySem.F.plainAttrs_list PySem.F.slot_list_pop PySem.F.type_list_pop mt_popAt ho (pa_cons he pa_nil hs) hbase hfew hline hs hplain
theorem dpa_erase {K : PySem.W.Frag} {B : Hp} : ∀ {ds : List PyData} {vs : List V} (n : Nat), DpAll K B vs ds → DpAll K B (vs.eraseIdx n) (ds.eraseIdx n)
  | [], _, _, h => by cases h; exact .nil
  | _ :: _, _, 0, h => by cases h with | cons h1 h2 => exact h2
  | _ :: _, _, n + 1, h => by cases h with | cons h1 h2 => exact .cons h1 (dpa_erase n h2)
def rMaxX (K : PySem.W.Frag) : List V → Hp → VK → Prop := fun xs H Q => rMax2 xs H Q ∨ L2.rMax K xs H Q
theorem kc_maxX {X : Cx} {K : PySem.W.Frag} (h : X.K = K) (hc : X.calm = true) : CallR X (.builtin "max") (rMaxX K) := h ▸ CallR.or (call_maxI hc) (cr_max hc)
theorem in_cell {s : US} {q : Addr} {o : HO} (h : (q, o) ∈ s.cells) : q ∈ s.foot := List.mem_map.mpr ⟨_, h, rfl⟩
section
variable {K : PySem.W.Frag} {W : WX} {s : US} {Γ : List Ent} {P : PostW US} {te to tk : TE} {ta : TA} {tt : TT} {d f : PyData} {ds rs : List PyData} {q l t : Addr} {ws us vs : List V} {i j : Nat} {v fv : V} {k : Int} {N : Ent → US → Prop} {b : Bool}
theorem cq_maxX2 {G : Gd} {i j : Int} : CaD G (rMaxX G.K) [.int i, .int j] (.int (if j > i then j else i)) := fun B H vs e dv Q k => .inl (ca_max B H vs e dv Q k)
theorem cq_maxL {G : Gd} {ns : List Int} {m : Int} (h1 : m ∈ ns) (h2 : ∀ y ∈ ns, y ≤ m) : CaD G (rMaxX G.K) [.list (ns.map .int)] (.int m) := fun B H vs e dv Q k => by
  cases dv with
  | cons a b =>
    cases b
    cases a with
    | lst g a =>
      have := dpa_ints_inv a
      subst this
      refine .inr ⟨_, ns, rfl, e.sl g, List.length_pos_of_mem h1, fun m' g1 g2 => ?_⟩
      have : m' = m := Int.le_antisymm (h2 m' g1) (g2 m h1)
      subst this
      exact k _ B H (Stp.refl e) (.int _)
/-- o.pop(e), what it gives is dropped -/
theorem ww_popAt (ho : EvE ((uw K).g s) to Γ (.val (.ref q))) (hc : (q, HO.lst vs) ∈ s.cells) (hr : (vs, ds) ∈ s.rel) (h : EvD ((uw K).g s) te Γ (.int (j : Int))) (hj : j < ds.length) (hz : j < 100000)
    (kk : P.nx Γ (s.put q (.lst (vs.eraseIdx j)) [(vs.eraseIdx j, ds.eraseIdx j)])) : WpW (uw K) W (tDrop (tBM K "list" rPopAt to (tCons te tNil))) Γ s P := fun B0 H0 B H σ D E M =>
  ho B0 H0 B H σ E.1 _ fun u B1 H1 s1 e => by
    cases e
    have E1 := E.step s1
    refine ⟨.inl ⟨rfl, vs, cell_sl E1.1 hc⟩, h B0 H0 B1 H1 σ E1.1 _ fun v B2 H2 s2 d2 => ?_⟩
    cases d2
    have E2 := E1.step s2
    have hd := E2.1.wd.2 _ hr
    have hl : j < vs.length := by rw [dpa_len hd]; exact hj
    refine ⟨q, vs, (j : Int), j, vs[j], rfl, rfl, (E2.1.wd.1 _ hc).1, by omega, by omega, (ixN_seq (ixN_at hl)).1, List.getElem?_eq_getElem hl, ?_⟩
    exact M.nx _ _ _ _ _ kk (s1.bb.trans s2.bb) (envW_putu E2 hc fun x hx => by simp at hx; subst hx; exact dpa_erase j hd)
/-- o[k] = e, o a list of data in a cell -/
theorem ww_setD (h : EvD ((uw K).g s) te Γ d) (ho : EvE ((uw K).g s) to Γ (.val (.ref q))) (hk : EvD ((uw K).g s) tk Γ (.int k)) (hc : (q, HO.lst vs) ∈ s.cells) (hr : (vs, ds) ∈ s.rel) (hj : ixN ds.length k = some j)
    (kk : ∀ v, P.nx Γ (s.put q (.lst (vs.set j v)) [(vs.set j v, ds.set j d)])) : WpW (uw K) W (tAsg te (gSub to tk rSetL)) Γ s P := fun B0 H0 B H σ D E M =>
  h B0 H0 B H σ E.1 _ fun v B1 H1 s1 d1 => by
    have E1 := E.step s1
    refine ho B0 H0 B1 H1 σ E1.1 _ fun u B2 H2 s2 e => ?_
    cases e
    have E2 := E1.step s2
    refine hk B0 H0 B2 H2 σ E2.1 _ fun u B3 H3 s3 d3 => ?_
    cases d3
    have E3 := E2.step s3
    have hd := E3.1.wd.2 _ hr
    refine ⟨q, vs, k, j, rfl, rfl, (E3.1.wd.1 _ hc).1, by rw [dpa_len hd]; exact hj, ?_⟩
    exact M.nx _ _ _ _ _ (kk v) ((s1.bb.trans s2.bb).trans s3.bb) (envW_putu E3 hc fun x hx => by simp at hx; subst hx; exact dpa_set j hd ((s2.trans s3).bb.dp d1))
/-- (.., ..), a cell from now on -/
theorem ew_tupV (h : EvAW (uw K) ta Γ s fun es s2 => ∃ us : List V, es = us.map .val ∧ us.length ≤ 100000 ∧ ∀ q, q ∉ s2.foot → N (.val (.ref q)) (s2.add [(q, .tup us)] [])) : EvW (uw K) (tTup ta) Γ s N := fun B0 H0 B H σ E Q kk =>
  h B0 H0 B H σ E _ fun es s1 vs B1 H1 n x1 E1 d1 => by
    obtain ⟨us, rfl, hl, n⟩ := n
    have e : ∀ {us vs : List V}, EntVs K B1 vs (us.map .val) → vs = us := by
      intro us
      induction us with
      | nil => intro vs h; cases h; rfl
      | cons u us ih => intro vs h; cases h with | cons h1 h2 => rw [ih h2]; cases h1; rfl
    have := e d1
    subst this
    refine ⟨Evl.sz_of hl, fun p hp => ?_⟩
    exact kk _ _ _ B1 _ (n p (envW_nofoot E1 hp)) x1 (envW_addu E1 hp fun x hx => by cases hx) rfl
/-- o.clear(), o a list in a cell -/
theorem ww_clr (ho : EvE ((uw K).g s) to Γ (.val (.ref q))) (hc : (q, HO.lst vs) ∈ s.cells) (kk : P.nx Γ (s.put q (.lst []) [([], [])])) : WpW (uw K) W (tDrop (tBM0 K "list" rClear to)) Γ s P := fun B0 H0 B H σ D E M =>
  ho B0 H0 B H σ E.1 _ fun u B1 H1 s1 e => by
    cases e
    have E1 := E.step s1
    refine ⟨.inl ⟨rfl, vs, cell_sl E1.1 hc⟩, q, vs, rfl, rfl, (E1.1.wd.1 _ hc).1, ?_⟩
    exact M.nx _ _ _ _ _ kk s1.bb (envW_putu E1 hc fun x hx => by simp at hx; subst hx; exact .nil)
/-- a cell's list + a list -/
theorem ef_addC {G : Gd} {es : List PyData} (ho : EvE G to Γ (.val (.ref q))) (hc : LsC G q vs ds) (he : EvD G te Γ (.list es)) (hz : ds.length + es.length ≤ 100000) : EvF G (tOp (rAddA G.K) to te) Γ (ds ++ es) := fun B0 H0 B H σ E Q k =>
  ho B0 H0 B H σ E _ fun u B1 H1 s1 e => by
    cases e
    refine he B0 H0 B1 H1 σ (E.step s1) _ fun v B2 H2 s2 d2 => ?_
    have E2 := (E.step s1).step s2
    have hd := hc.d B2 E2.wd.2
    cases d2 with
    | lst g a => exact .inr (.inr (.inl ⟨_, _, _, _, rfl, rfl, cell_sl E2 hc.c, s2.bh.sl g, Evl.sz_of (by rw [dpa_len hd, dpa_len a]; exact hz), fun p hp => k p _ B2 H2 (s1.trans s2) hp (dpa_app hd a)⟩))
/-- the tuple of a flat thing and a list, both in cells, is read like data -/
def sTup (s : US) (l : Addr) (vs : List V) (rs : List PyData) (t : Addr) (fv : V) : US := (s.add [(l, .lst vs)] [(vs, rs)]).add [(t, .tup [fv, .ref l])] []
theorem et_lend (hi : Γ[i]? = some (.val (.ref t))) (hf : ∀ B, Dp K B fv f) (hl : l ∉ s.foot) (ht : t ∉ s.foot) (hne : t ≠ l) (h : EvT ((uw K).g s) tt (Γ.set i (.dat (.tuple [f, .list rs]))) b) : EvT ((uw K).g (sTup s l vs rs t fv)) tt Γ b := fun B0 H0 B H σ E Q k => by
  have ct : (t, HO.tup [fv, .ref l]) ∈ (sTup s l vs rs t fv).cells := List.mem_cons_self
  have cl : (l, HO.lst vs) ∈ (sTup s l vs rs t fv).cells := List.mem_cons_of_mem _ List.mem_cons_self
  have rl : (vs, rs) ∈ (sTup s l vs rs t fv).rel := List.mem_cons_self
  have w1 := E.wd.1 _ ct
  have w2 := E.wd.1 _ cl
  have w3 := E.wd.2 _ rl
  have e1 := E.val hi
  have nt : t ∈ (sTup s l vs rs t fv).foot := in_cell ct
  have nl : l ∈ (sTup s l vs rs t fv).foot := in_cell cl
  have x1 : Ex B (upd B l (.lst vs)) := Ex.new w2.2
  have hbt : (upd B l (.lst vs)) t = none := by rw [upd_ne hne]; exact w1.2
  have x2 : Ex (upd B l (.lst vs)) (upd (upd B l (.lst vs)) t (.tup [fv, .ref l])) := Ex.new hbt
  have xb := x1.trans x2
  have gl : (upd (upd B l (.lst vs)) t (.tup [fv, .ref l])) l = some (.lst vs) := by rw [upd_ne (Ne.symm hne)]; exact upd_same
  have gt : (upd (upd B l (.lst vs)) t (.tup [fv, .ref l])) t = some (.tup [fv, .ref l]) := upd_same
  have go : ∀ a, a ≠ t → a ≠ l → (upd (upd B l (.lst vs)) t (.tup [fv, .ref l])) a = B a := fun a n1 n2 => by rw [upd_ne n1, upd_ne n2]
  generalize (upd (upd B l (.lst vs)) t (.tup [fv, .ref l])) = B1 at *
  have dt : Dp K B1 (.ref t) (.tuple [f, .list rs]) := .tup (SqT.of gt) (.cons (hf B1) (.cons (.lst (SqL.of gl) (xb.dpa w3)) .nil))
  have os : ∀ (m : Nat) (p : Addr) (es : List PyData), Γ[m]? = some (.own es) → σ[m]? = some (some (.ref p)) → p ≠ t ∧ p ≠ l := fun m p es g1 g2 => by
    have := E.off m p es g1 g2
    exact ⟨fun e => this (e ▸ nt), fun e => this (e ▸ nl)⟩
  refine h B0 (fun a => if a = t ∨ a = l then none else H0 a) B1 H σ ⟨⟨E.stp.bb.trans xb, fun a o z => ?_, fun a o z => ?_, fun a o z1 z2 => ?_⟩, ⟨fun c hc => ?_, fun x hx => xb.dpa (E.wd.2 x (List.mem_cons_of_mem _ hx))⟩, by simpa using E.len, fun m x e h1 h2 => ?_, fun m n p es es' hmn h1 h2 => ?_, fun m p es h1 h3 => ?_⟩ Q fun B2 H2 st => ?_
  · by_cases a1 : a = t
    · subst a1; rw [gt] at z; cases z; exact w1.1
    · by_cases a2 : a = l
      · subst a2; rw [gl] at z; cases z; exact w2.1
      · rw [go a a1 a2] at z; exact E.stp.bh a o z
  · have z : (if a = t ∨ a = l then none else H0 a) = some o := z
    split at z
    · cases z
    · exact E.stp.hh a o z
  · have z1 : (if a = t ∨ a = l then none else H0 a) = some o := z1
    split at z1
    · cases z1
    · rename_i n
      rw [not_or] at n
      rw [go a n.1 n.2]; exact E.stp.hid a o z1 z2
  · have w := E.wd.1 c (List.mem_cons_of_mem _ (List.mem_cons_of_mem _ hc))
    refine ⟨w.1, ?_⟩
    have hcf : c.1 ∈ s.foot := List.mem_map_of_mem hc
    rw [go c.1 (fun e => ht (e ▸ hcf)) (fun e => hl (e ▸ hcf))]; exact w.2
  · rcases get_set h2 with ⟨rfl, rfl⟩ | ⟨ne, h2⟩
    · rw [e1] at h1; cases h1; exact ⟨_, rfl, dt⟩
    · have z := E.get m x e h1 h2
      cases e with
      | no => trivial
      | val v => exact z
      | dat d => obtain ⟨v, z1, z2⟩ := z; exact ⟨v, z1, xb.dp z2⟩
      | own es =>
        obtain ⟨p, ws, z1, z2, z3, z4, z5⟩ := z
        subst z1
        obtain ⟨n1, n2⟩ := os m p es h2 h1
        refine ⟨p, ws, rfl, by rw [go p n1 n2]; exact z2, ?_, z4, xb.dpa z5⟩
        show (if p = t ∨ p = l then none else H0 p) = none
        split
        · rfl
        · exact z3
  · rcases get_set h1 with ⟨_, z⟩ | ⟨n1, h1⟩
    · cases z
    · rcases get_set h2 with ⟨_, z⟩ | ⟨n2, h2⟩
      · cases z
      · exact E.dis m n p es es' hmn h1 h2
  · rcases get_set h1 with ⟨_, z⟩ | ⟨n1, h1⟩
    · cases z
    · exact fun z => E.off m p es h1 h3 (List.mem_cons_of_mem _ (List.mem_cons_of_mem _ z))
  · refine k (fun a => if a = t ∨ a = l then none else B2 a) H2 ⟨fun a o z => ?_, fun a o z => ?_, st.hh, fun a o z1 z2 => ?_⟩
    · have n1 : a ≠ t := ne_of_none z w1.2
      have n2 : a ≠ l := ne_of_none z w2.2
      show (if a = t ∨ a = l then none else B2 a) = some o
      rw [if_neg (by rw [not_or]; exact ⟨n1, n2⟩)]
      exact st.bb a o (xb a o z)
    · have z : (if a = t ∨ a = l then none else B2 a) = some o := z
      split at z
      · cases z
      · exact st.bh a o z
    · show (if a = t ∨ a = l then none else B2 a) = none
      split
      · rfl
      · rename_i n
        rw [not_or] at n
        exact st.hid a o z1 (by rw [go a n.1 n.2]; exact z2)
end
section
variable {K : PySem.W.Frag} {S : Type} {w : Wl K S} {W : WX} {tb : TS} {tt : TT} {Γ : List Ent} {s : S} {P : PostW S} {G : Gd}
theorem ee_non : EvE G (tC .non) Γ (.val .non) := fun B0 H0 B H σ E Q k => k .non B H (Stp.refl E.stp.bh) rfl
/-- a while whose turns change the surroundings -/
theorem ww_while (I : Nat → List Ent → S → Prop) (m : Nat) (h0 : I m Γ s)
    (hs : ∀ m Γ' s', I m Γ' s' → ∃ b, EvT (w.g s') tt Γ' b ∧ (b = true → WpW w W tb Γ' s' { P with nx := fun Γ2 s2 => ∃ m', m' < m ∧ I m' Γ2 s2, ct := fun Γ2 s2 => ∃ m', m' < m ∧ I m' Γ2 s2, bk := P.nx }) ∧ (b = false → P.nx Γ' s')) : WpW w W (tWhile tt tb) Γ s P := fun B0 H0 B H σ D E M => by
  refine ⟨fun m σ' H' => ∃ Γ' s' B', I m Γ' s' ∧ Ex B B' ∧ EnvW (w.g s') B0 H0 B' H' σ' Γ', ⟨m, Γ, s, B, h0, Ex.rfl', E⟩, ?_⟩
  rintro m σ' H' ⟨Γ', s', B', hI, e1, E'⟩
  obtain ⟨b, hb, h1, h2⟩ := hs m Γ' s' hI
  refine hb B0 H0 B' H' σ' E'.1 _ fun B2 H2 st => ?_
  have e2 := e1.trans st.bb
  cases b with
  | true =>
    refine ⟨fun σ3 H3 => ∃ m', m' < m ∧ ∃ Γ3 s3 B3, I m' Γ3 s3 ∧ Ex B B3 ∧ EnvW (w.g s3) B0 H0 B3 H3 σ3 Γ3, fun σ3 H3 h => h, ?_⟩
    exact h1 rfl B0 H0 B2 H2 σ' _ (E'.step st) ⟨fun Γ3 s3 B3 H3 σ3 ⟨m', a0, a1⟩ a2 a3 => ⟨m', a0, Γ3, s3, B3, a1, e2.trans a2, a3⟩, fun Γ3 s3 B3 H3 σ3 a1 a2 a3 => M.nx _ _ _ _ _ a1 (e2.trans a2) a3, fun Γ3 s3 B3 H3 σ3 ⟨m', a0, a1⟩ a2 a3 => ⟨m', a0, Γ3, s3, B3, a1, e2.trans a2, a3⟩,
      fun e s3 v B3 H3 a1 a2 => M.rt _ _ _ _ _ a1 (e2.trans a2), fun c Γ3 s3 B3 H3 σ3 a1 a2 a3 => M.er _ _ _ _ _ _ a1 (e2.trans a2) a3⟩
  | false => exact M.nx _ _ _ _ _ (h2 rfl) e2 (E'.step st)
end
/-! ### tests that change the surroundings -/
def EvTW {K : PySem.W.Frag} {S : Type} (w : Wl K S) (tt : TT) (Γ : List Ent) (s : S) (N : Bool → S → Prop) : Prop :=
  ∀ (B0 H0 B H : Hp) (σ : L2.St), EnvW (w.g s) B0 H0 B H σ Γ → ∀ Q : Bool → Hp → Prop, (∀ b s2 B2 H2, N b s2 → Ex B B2 → EnvW (w.g s2) B0 H0 B2 H2 σ Γ → Q b H2) → tt σ H Q
section
variable {K : PySem.W.Frag} {S : Type} {w : Wl K S} {W : WX} {tt tv : TT} {te ta tb : TE} {tu tz : TS} {Γ : List Ent} {s : S} {N : Bool → S → Prop} {M : Ent → S → Prop} {P : PostW S} {b : Bool} {r : R2}
theorem etw_pure (h : EvT (w.g s) tt Γ b) (k : N b s) : EvTW w tt Γ s N := fun B0 H0 B H σ E Q q => h B0 H0 B H σ E.1 _ fun B2 H2 st => q b s B2 H2 k st.bb (E.step st)
theorem etw_test (h : EvW w te Γ s fun e s2 => ∃ b, e = .dat (.bool b) ∧ N b s2) : EvTW w (tTest te) Γ s N := fun B0 H0 B H σ E Q q => h B0 H0 B H σ E _ fun e s2 v B2 H2 n x E2 dv => by
  obtain ⟨b, rfl, n⟩ := n
  cases dv
  exact ⟨b, rfl, q b s2 B2 H2 n x E2⟩
theorem etw_not (h : EvTW w tt Γ s fun b s2 => N (!b) s2) : EvTW w (tNot tt) Γ s N := fun B0 H0 B H σ E Q q => h B0 H0 B H σ E _ fun b s2 B2 H2 n x E2 => q (!b) s2 B2 H2 n x E2
theorem etw_or (h : EvTW w tt Γ s fun a s2 => (a = true → N true s2) ∧ (a = false → EvTW w tv Γ s2 N)) : EvTW w (tOr tt tv) Γ s N := fun B0 H0 B H σ E Q q => h B0 H0 B H σ E _ fun a s2 B2 H2 n x E2 => by
  cases a with
  | true => exact q true s2 B2 H2 (n.1 rfl) x E2
  | false => exact n.2 rfl B0 H0 B2 H2 σ E2 Q fun b s3 B3 H3 n3 x3 E3 => q b s3 B3 H3 n3 (x.trans x3) E3
theorem etw_and (h : EvTW w tt Γ s fun a s2 => (a = true → EvTW w tv Γ s2 N) ∧ (a = false → N false s2)) : EvTW w (tAnd tt tv) Γ s N := fun B0 H0 B H σ E Q q => h B0 H0 B H σ E _ fun a s2 B2 H2 n x E2 => by
  cases a with
  | false => exact q false s2 B2 H2 (n.2 rfl) x E2
  | true => exact n.1 rfl B0 H0 B2 H2 σ E2 Q fun b s3 B3 H3 n3 x3 E3 => q b s3 B3 H3 n3 (x.trans x3) E3
theorem ww_ifW (h : EvTW w tt Γ s fun b s2 => (b = true → WpW w W tu Γ s2 P) ∧ (b = false → WpW w W tz Γ s2 P)) : WpW w W (tIfS tt tu tz) Γ s P := fun B0 H0 B H σ D E M => h B0 H0 B H σ E _ fun b s2 B2 H2 n x E2 => by
  cases b with
  | true => exact n.1 rfl B0 H0 B2 H2 σ D E2 (M.up x)
  | false => exact n.2 rfl B0 H0 B2 H2 σ D E2 (M.up x)
theorem ew_op (h : EvW w ta Γ s fun e s2 => ∃ x y z, e = .dat x ∧ EvD (w.g s2) tb Γ y ∧ OpD (w.g s2) r x y z ∧ M (.dat z) s2) : EvW w (tOp r ta tb) Γ s M := fun B0 H0 B H σ E Q q => h B0 H0 B H σ E _ fun e s2 v B2 H2 n x2 E2 dv => by
  obtain ⟨x, y, z, rfl, hb, ho, n⟩ := n
  refine hb B0 H0 B2 H2 σ E2.1 _ fun u B3 H3 s3 d3 => ?_
  have E3 := E2.step s3
  exact ho B3 H3 v u E3.1.stp.bh (s3.bb.dp dv) d3 _ fun c B4 H4 s4 d4 => q _ s2 c B4 H4 n (x2.trans (s3.trans s4).bb) (E3.step s4) d4
theorem ew_orV (h : EvW w ta Γ s fun e s2 => ∃ a, e = .dat (.bool a) ∧ (a = true → M (.dat (.bool true)) s2) ∧ (a = false → EvW w tb Γ s2 M)) : EvW w (tOrV ta tb) Γ s M := fun B0 H0 B H σ E Q q => h B0 H0 B H σ E _ fun e s2 v B2 H2 n x2 E2 dv => by
  obtain ⟨a, rfl, n1, n2⟩ := n
  cases dv
  refine ⟨a, rfl, ?_⟩
  cases a with
  | true => exact q _ s2 _ B2 H2 (n1 rfl) x2 E2 (.bl true)
  | false => exact n2 rfl B0 H0 B2 H2 σ E2 Q fun e s3 v B3 H3 n3 x3 E3 d3 => q e s3 v B3 H3 n3 (x2.trans x3) E3 d3
theorem ew_andV (h : EvW w ta Γ s fun e s2 => ∃ a, e = .dat (.bool a) ∧ (a = false → M (.dat (.bool false)) s2) ∧ (a = true → EvW w tb Γ s2 M)) : EvW w (tAndV ta tb) Γ s M := fun B0 H0 B H σ E Q q => h B0 H0 B H σ E _ fun e s2 v B2 H2 n x2 E2 dv => by
  obtain ⟨a, rfl, n1, n2⟩ := n
  cases dv
  refine ⟨a, rfl, ?_⟩
  cases a with
  | false => exact q _ s2 _ B2 H2 (n1 rfl) x2 E2 (.bl false)
  | true => exact n2 rfl B0 H0 B2 H2 σ E2 Q fun e s3 v B3 H3 n3 x3 E3 d3 => q e s3 v B3 H3 n3 (x2.trans x3) E3 d3
end
end Pd

namespace K11
open PySem L2 Pd
def topS (i : Nat) : Stmt := PySem.Challenge.pw_freehour_k11_whole_why_no_earlier.main.body.getD i (.Pass ⟨0, 0, 0, 0⟩)

def isWhole (d : PyData) : Bool := isInt d && !isBool d
def isBetween (d : PyData) (lo hi : Int) : Bool := match d with
  | .int i => decide (lo ≤ i) && decide (i ≤ hi)
  | _ => false
def MD : List Int := [31, 28, 31, 30, 31, 30, 31, 31, 30, 31, 30, 31]
def monthDays (y m : Int) : Int := if m = 2 ∧ y % 4 = 0 then 29 else MD.getD (m - 1).toNat 0
theorem atI_MD {m : Int} (h1 : 1 ≤ m) (h2 : m ≤ 12) : atI [PyData.int 31, .int 28, .int 31, .int 30, .int 31, .int 30, .int 31, .int 31, .int 30, .int 31, .int 30, .int 31] (m - 1) = some (.int (MD.getD (m - 1).toNat 0)) := atI_ints (ns := MD) (by omega) (by show m - 1 < 12; omega)
def cumT : List Int := [0, 31, 59, 90, 120, 151, 181, 212, 243, 273, 304, 334, 365]
def cum (y m : Int) : Int := cumT.getD (m - 1).toNat 0 + (if 2 < m ∧ y % 4 = 0 then 1 else 0)
theorem months {m : Int} (h1 : 1 ≤ m) (h2 : m ≤ 12) : m = 1 ∨ m = 2 ∨ m = 3 ∨ m = 4 ∨ m = 5 ∨ m = 6 ∨ m = 7 ∨ m = 8 ∨ m = 9 ∨ m = 10 ∨ m = 11 ∨ m = 12 := by omega
theorem cum_step (y : Int) {m : Int} (h1 : 1 ≤ m) (h2 : m ≤ 12) : cum y (m + 1) = cum y m + monthDays y m := by
  by_cases hy : y % 4 = 0 <;> rcases months h1 h2 with h | h | h | h | h | h | h | h | h | h | h | h <;> subst h <;> simp [cum, cumT, monthDays, MD, hy]
theorem cum_one (y : Int) : cum y 1 = 0 := by simp [cum, cumT]
theorem cum_end (y : Int) : cum y 13 = 365 + (if y % 4 = 0 then 1 else 0) := by simp [cum, cumT]
theorem monthDays_pos (y : Int) {m : Int} (h1 : 1 ≤ m) (h2 : m ≤ 12) : 28 ≤ monthDays y m ∧ monthDays y m ≤ 31 := by
  by_cases hy : y % 4 = 0 <;> rcases months h1 h2 with h | h | h | h | h | h | h | h | h | h | h | h <;> subst h <;> simp [monthDays, MD, hy]
theorem cum_le (y : Int) {m : Int} (h1 : 1 ≤ m) : ∀ k : Nat, m + k ≤ 13 → cum y m ≤ cum y (m + k)
  | 0, _ => by simp
  | k + 1, h => by
    have e : m + ((k + 1 : Nat) : Int) = (m + (k : Int)) + 1 := by omega
    have h0 := cum_le y h1 k (by omega)
    have h3 := cum_step y (m := m + (k : Int)) (by omega) (by omega)
    have h4 := monthDays_pos y (m := m + (k : Int)) (by omega) (by omega)
    rw [e]; omega
theorem cum_mono (y : Int) {m n : Int} (h1 : 1 ≤ m) (h : m ≤ n) (h2 : n ≤ 13) : cum y m ≤ cum y n := by
  have := cum_le y h1 (n - m).toNat (by omega)
  have e : m + (((n - m).toNat : Nat) : Int) = n := by omega
  rwa [e] at this
/-- the walk through the months: fuel, year, rest, month -/
def dateGo : Nat → Int → Int → Int → Int × Int
  | 0, _, r, m => (m, r)
  | n + 1, y, r, m => if monthDays y m ≤ r then dateGo n y (r - monthDays y m) (m + 1) else (m, r)
theorem dateGo_spec (y : Int) : ∀ (n : Nat) (r m : Int), m + n = 13 → 1 ≤ m → 0 ≤ r → r + cum y m < cum y 13 →
    1 ≤ (dateGo n y r m).1 ∧ (dateGo n y r m).1 ≤ 12 ∧ 0 ≤ (dateGo n y r m).2 ∧ (dateGo n y r m).2 < monthDays y (dateGo n y r m).1 ∧ (dateGo n y r m).2 + cum y (dateGo n y r m).1 = r + cum y m
  | 0, r, m, e, h1, h2, h3 => by
    have : m = 13 := by omega
    subst this
    omega
  | n + 1, r, m, e, h1, h2, h3 => by
    unfold dateGo
    have hs := cum_step y h1 (by omega)
    by_cases h : monthDays y m ≤ r
    · rw [if_pos h]
      have := dateGo_spec y n (r - monthDays y m) (m + 1) (by omega) (by omega) (by omega) (by omega)
      rw [hs] at this
      omega
    · rw [if_neg h]
      exact ⟨h1, by show m ≤ 12; omega, h2, by show r < monthDays y m; omega, rfl⟩
def yr (d : Int) : Int := if 366 ≤ d % 1461 then d / 1461 * 4 + 1 + (d % 1461 - 366) / 365 else d / 1461 * 4
def yd (d : Int) : Int := if 366 ≤ d % 1461 then (d % 1461 - 366) % 365 else d % 1461
def mn (d : Int) : Int := (dateGo 12 (yr d) (yd d) 1).1
def dn (d : Int) : Int := (dateGo 12 (yr d) (yd d) 1).2 + 1
def ybase (y : Int) : Int := y / 4 * 1461 + y % 4 * 365 + (if 0 < y % 4 then 1 else 0)
def dayOf (y m n : Int) : Int := ybase y + cum y m + n - 1
theorem yd_spec (d : Int) : 0 ≤ yd d ∧ yd d < cum (yr d) 13 ∧ ybase (yr d) + yd d = d := by
  rw [cum_end]
  unfold yd yr ybase
  by_cases h : 366 ≤ d % 1461
  · simp only [if_pos h]
    have h4 : (d / 1461 * 4 + 1 + (d % 1461 - 366) / 365) % 4 = 1 + (d % 1461 - 366) / 365 := by omega
    have h5 : (d / 1461 * 4 + 1 + (d % 1461 - 366) / 365) / 4 = d / 1461 := by omega
    rw [h4, h5]
    have : ¬ (1 + (d % 1461 - 366) / 365 = 0) := by omega
    rw [if_neg this, if_pos (by omega)]
    omega
  · simp only [if_neg h]
    have h4 : d / 1461 * 4 % 4 = 0 := by omega
    have h5 : d / 1461 * 4 / 4 = d / 1461 := by omega
    rw [h4, h5]
    simp
    omega
theorem yr_of {y k : Int} (h0 : 0 ≤ k) (h1 : k < cum y 13) : yr (ybase y + k) = y ∧ yd (ybase y + k) = k := by
  rw [cum_end] at h1
  by_cases h : y % 4 = 0
  · have hb : ybase y = y / 4 * 1461 := by unfold ybase; rw [h]; simp
    rw [hb]
    rw [if_pos h] at h1
    have e1 : (y / 4 * 1461 + k) % 1461 = k := by omega
    have e2 : (y / 4 * 1461 + k) / 1461 = y / 4 := by omega
    unfold yr yd
    rw [e1, e2]
    have : ¬ 366 ≤ k := by omega
    rw [if_neg this, if_neg this]
    omega
  · have hb : ybase y = y / 4 * 1461 + y % 4 * 365 + 1 := by unfold ybase; rw [if_pos (by omega)]
    rw [hb]
    rw [if_neg h] at h1
    have e1 : (y / 4 * 1461 + y % 4 * 365 + 1 + k) % 1461 = y % 4 * 365 + 1 + k := by omega
    have e2 : (y / 4 * 1461 + y % 4 * 365 + 1 + k) / 1461 = y / 4 := by omega
    unfold yr yd
    rw [e1, e2, if_pos (by omega), if_pos (by omega)]
    omega
theorem mn_spec (d : Int) : 1 ≤ mn d ∧ mn d ≤ 12 ∧ 1 ≤ dn d ∧ dn d ≤ monthDays (yr d) (mn d) ∧ dn d - 1 + cum (yr d) (mn d) = yd d := by
  have h := yd_spec d
  have := dateGo_spec (yr d) 12 (yd d) 1 (by omega) (by omega) h.1 (by rw [cum_one]; omega)
  rw [cum_one] at this
  unfold mn dn
  omega
theorem dayOf_date (d : Int) : dayOf (yr d) (mn d) (dn d) = d := by
  have h1 := yd_spec d
  have h2 := mn_spec d
  unfold dayOf
  omega
theorem mn_unique {y m m' k : Int} (h1 : 1 ≤ m) (h2 : m ≤ 12) (h1' : 1 ≤ m') (h2' : m' ≤ 12) (a : cum y m ≤ k) (b : k < cum y (m + 1)) (a' : cum y m' ≤ k) (b' : k < cum y (m' + 1)) : m = m' := by
  rcases Int.lt_trichotomy m m' with h | h | h
  · have := cum_mono y (m := m + 1) (n := m') (by omega) (by omega) (by omega); omega
  · exact h
  · have := cum_mono y (m := m' + 1) (n := m) (by omega) (by omega) (by omega); omega
theorem date_dayOf {y m n : Int} (h1 : 1 ≤ m) (h2 : m ≤ 12) (h3 : 1 ≤ n) (h4 : n ≤ monthDays y m) : yr (dayOf y m n) = y ∧ mn (dayOf y m n) = m ∧ dn (dayOf y m n) = n := by
  have e : dayOf y m n = ybase y + (cum y m + n - 1) := by unfold dayOf; omega
  have hs := cum_step y h1 h2
  have c1 := cum_mono y (m := 1) (n := m) (by omega) h1 (by omega)
  have c2 := cum_mono y (m := m + 1) (n := 13) (by omega) (by omega) (by omega)
  rw [cum_one] at c1
  obtain ⟨e1, e2⟩ := yr_of (y := y) (k := cum y m + n - 1) (by omega) (by omega)
  rw [← e] at e1 e2
  have sp := mn_spec (dayOf y m n)
  rw [e1, e2] at sp
  have hs' := cum_step y sp.1 sp.2.1
  have em : mn (dayOf y m n) = m := mn_unique (y := y) sp.1 sp.2.1 h1 h2 (k := cum y m + n - 1) (by omega) (by omega) (by omega) (by omega)
  refine ⟨e1, em, ?_⟩
  rw [em] at sp
  omega

def cell (ns : List Int) (k : Int) : Int := ns.getD k.toNat 0

theorem ybase_succ (y : Int) : ybase (y + 1) = ybase y + cum y 13 := by
  rw [cum_end]; unfold ybase
  split <;> split <;> split <;> omega
/-- the place in the month, by walking four years -/
theorem inMonth_step {y m r : Int} (h1 : 1 ≤ m) (h2 : m ≤ 12) : dayOf (y + m / 12) (m % 12 + 1) (r - monthDays y m + 1) = dayOf y m (r + 1) := by
  have hs := cum_step y h1 h2
  rcases Int.lt_or_le m 12 with h | h
  · have e1 : m / 12 = 0 := by omega
    have e2 : m % 12 = m := by omega
    rw [e1, e2, Int.add_zero]
    unfold dayOf; rw [hs]; omega
  · obtain rfl : m = 12 := by omega
    have hb := ybase_succ y
    have h1 := cum_one (y + 1)
    show dayOf (y + 1) 1 (r - monthDays y 12 + 1) = _
    unfold dayOf
    rw [hb, h1]
    have e : (12 : Int) + 1 = 13 := rfl
    rw [e] at hs; rw [hs]; omega
theorem monthDays_shift (y q m : Int) : monthDays (y + 4 * q) m = monthDays y m := by
  have : (y + 4 * q) % 4 = y % 4 := by omega
  unfold monthDays; rw [this]
theorem cum_shift (y q m : Int) : cum (y + 4 * q) m = cum y m := by
  have : (y + 4 * q) % 4 = y % 4 := by omega
  unfold cum; rw [this]
theorem dayOf_shift (y q m n : Int) : dayOf (y + 4 * q) m n = dayOf y m n + 1461 * q := by
  unfold dayOf ybase
  rw [cum_shift]
  have h1 : (y + 4 * q) / 4 = y / 4 + q := by omega
  have h2 : (y + 4 * q) % 4 = y % 4 := by omega
  rw [h1, h2]
  omega
theorem inMonth_end {d y m r : Int} (h1 : 1 ≤ m) (h2 : m ≤ 12) (h3 : 0 ≤ r) (h4 : r < monthDays y m) (h : dayOf y m (r + 1) = d % 1461) : r + 1 = dn d ∧ r - monthDays y m = dn d - 1 - monthDays (yr d) (mn d) := by
  have e : d = dayOf (y + 4 * (d / 1461)) m (r + 1) := by rw [dayOf_shift, h]; omega
  obtain ⟨b1, b2, b3⟩ := date_dayOf (y := y + 4 * (d / 1461)) (m := m) (n := r + 1) h1 h2 (by omega) (by rw [monthDays_shift]; omega)
  rw [← e] at b1 b2 b3
  rw [b1, b2, b3, monthDays_shift]
  omega

inductive Rule where
  | once (h n : Int) | every (h n s : Int) | week (ds : List Int) (h n : Int) | month (d h n : Int)
  | fr (t : Int) (r : Rule) | un (t : Int) (r : Rule) | al (t : Int) (r : Rule) | bu (ds : List Int) (r : Rule)
@[simp, reducible] def toD : Rule → PyData
  | .once h n => .tuple [.str "once", .int h, .int n]
  | .every h n s => .tuple [.str "every", .int h, .int n, .int s]
  | .week ds h n => .tuple [.str "week", .tuple (ds.map .int), .int h, .int n]
  | .month d h n => .tuple [.str "month", .int d, .int h, .int n]
  | .fr t r => .tuple [.str "from", .int t, toD r]
  | .un t r => .tuple [.str "until", .int t, toD r]
  | .al t r => .tuple [.str "also", .int t, toD r]
  | .bu ds r => .tuple [.str "but", .tuple (ds.map .int), toD r]
@[simp] def depth : Rule → Nat
  | .fr _ r => depth r + 1 | .un _ r => depth r + 1 | .al _ r => depth r + 1 | .bu _ r => depth r + 1 | _ => 0
@[simp] def core : Rule → Rule
  | .fr _ r => core r | .un _ r => core r | .al _ r => core r | .bu _ r => core r | r => r
@[simp] def plain : Rule → Bool
  | .fr _ _ => false | .un _ _ => false | .al _ _ => false | .bu _ _ => false | _ => true
@[simp] def size : Rule → Int
  | .once _ n => n | .every _ n _ => n | .week _ _ n => n | .month _ _ n => n
  | .fr _ r => size r | .un _ r => size r | .al _ r => size r | .bu _ r => size r
@[simp] def Ok : Rule → Prop
  | .every _ _ s => 0 < s
  | .fr _ r => Ok r | .un _ r => Ok r | .al _ r => Ok r | .bu _ r => Ok r | _ => True
theorem plain_core : ∀ r, plain (core r) = true
  | .once .. => rfl | .every .. => rfl | .week .. => rfl | .month .. => rfl
  | .fr _ r => plain_core r | .un _ r => plain_core r | .al _ r => plain_core r | .bu _ r => plain_core r
theorem size_core : ∀ r, size (core r) = size r
  | .once .. => rfl | .every .. => rfl | .week .. => rfl | .month .. => rfl
  | .fr _ r => size_core r | .un _ r => size_core r | .al _ r => size_core r | .bu _ r => size_core r
/-- whether a span begins (the hour is from 0 on) -/
@[simp] def beg : Rule → Int → Bool
  | .once h _, x => decide (x = h)
  | .every h _ s, x => decide (h ≤ x) && decide ((x - h) % s = 0)
  | .week ds h _, x => decide (x % 24 = h) && decide (x / 24 % 7 ∈ ds)
  | .month d h _, x => decide (x % 24 = h) && (decide (d = dn (x / 24)) || decide (d = dn (x / 24) - 1 - monthDays (yr (x / 24)) (mn (x / 24))))
  | .fr t r, x => beg r x && decide (t ≤ x)
  | .un t r, x => beg r x && decide (x < t)
  | .al t r, x => beg r x || decide (x = t)
  | .bu ds r, x => beg r x && !decide (x / 24 ∈ ds)
def begins (r : Rule) (x : Int) : Bool := decide (0 ≤ x) && beg r x
theorem dn_sides (d : Int) : 1 ≤ dn d ∧ dn d - 1 - monthDays (yr d) (mn d) < 0 := by
  have := mn_spec d; omega
theorem beq_comm_int (a b : Int) : decide (a = b) = decide (b = a) := decide_eq_decide.mpr ⟨Eq.symm, Eq.symm⟩

def wstep (s : List Int × Int) (k : Nat) : List Int × Int := if s.2 % 2 = 1 then (s.1 ++ [(k : Int)], s.2 / 2) else (s.1, s.2 / 2)
def wd (b : Int) : List Int := ((List.range 7).foldl wstep ([], b)).1
theorem wd_ne {b : Int} (h1 : 1 ≤ b) (h2 : b ≤ 127) : wd b ≠ [] := by
  have h : ∀ n : Fin 127, wd (1 + (n.1 : Int)) ≠ [] := by decide +kernel
  have := h ⟨(b - 1).toNat, by omega⟩
  rwa [show (1 : Int) + (((b - 1).toNat : Nat) : Int) = b by omega] at this
def monthDay (c : Int) : Int :=
  let d := if c / 62 % 2 = 1 then ([-1, 0, 30, 29, 28, -31, -30, -29, -28, 27] : List Int).getD (c / 124 % 10).toNat 0 else c % 62 - 31
  d + (if decide (0 ≤ d) = true then 1 else 0)
def plainBy (c0 c1 c2 far most : Int) : Rule :=
  if c0 % 4 = 0 then .once (far + c1 % 60) (1 + c0 / 4 % most)
  else if c0 % 4 = 1 then .every (far + c1 % 60) (1 + c0 / 4 % most) (1 + c2 % 30)
  else if c0 % 4 = 2 then .week (wd (1 + c2 % 127)) (c1 % 24) (1 + c0 / 4 % most)
  else .month (monthDay c2) (c1 % 24) (1 + c0 / 4 % most)
/-- what is asked of the rules that are built here -/
@[simp] def Fine : Rule → Prop
  | .every _ _ s => 0 < s
  | .week ds _ _ => ds ≠ []
  | .fr _ r => Fine r | .un _ r => Fine r | .al _ r => Fine r | .bu ds r => ds ≠ [] ∧ Fine r | _ => True
theorem Fine.ok : ∀ {r : Rule}, Fine r → Ok r
  | .once .., h => trivial | .every .., h => h | .week .., h => trivial | .month .., h => trivial
  | .fr _ r, h => Fine.ok (r := r) h | .un _ r, h => Fine.ok (r := r) h | .al _ r, h => Fine.ok (r := r) h | .bu _ r, h => Fine.ok (r := r) h.2
theorem Fine.core : ∀ {r : Rule}, Fine r → Fine (core r)
  | .once .., h => trivial | .every .., h => h | .week .., h => h | .month .., h => trivial
  | .fr _ r, h => Fine.core (r := r) h | .un _ r, h => Fine.core (r := r) h | .al _ r, h => Fine.core (r := r) h | .bu _ r, h => Fine.core (r := r) h.2
theorem plainBy_fine (c0 c1 c2 far most : Int) : Fine (plainBy c0 c1 c2 far most) := by
  unfold plainBy
  split
  · trivial
  split
  · show 0 < 1 + c2 % 30; omega
  split
  · exact wd_ne (by omega) (by omega)
  · trivial
theorem plainBy_plain (c0 c1 c2 far most : Int) : plain (plainBy c0 c1 c2 far most) = true := by
  unfold plainBy; split <;> (try split) <;> (try split) <;> rfl
theorem plainBy_size (c0 c1 c2 far most : Int) : size (plainBy c0 c1 c2 far most) = 1 + c0 / 4 % most := by
  unfold plainBy; split <;> (try split) <;> (try split) <;> rfl

@[simp] def heads : Rule → List Rule
  | .fr t r => .fr t r :: heads r | .un t r => .un t r :: heads r | .al t r => .al t r :: heads r | .bu ds r => .bu ds r :: heads r | r => [r]
theorem heads_ne : ∀ r, heads r ≠ []
  | .once .. | .every .. | .week .. | .month .. | .fr .. | .un .. | .al .. | .bu .. => by simp
theorem heads_last : ∀ r, (heads r).getLast? = some (core r)
  | .once .. | .every .. | .week .. | .month .. => by simp
  | .fr _ r => by have := heads_last r; have := heads_ne r; simp_all [List.getLast?_cons]
  | .un _ r => by have := heads_last r; have := heads_ne r; simp_all [List.getLast?_cons]
  | .al _ r => by have := heads_last r; have := heads_ne r; simp_all [List.getLast?_cons]
  | .bu _ r => by have := heads_last r; have := heads_ne r; simp_all [List.getLast?_cons]
theorem heads_len : ∀ r, (heads r).length = depth r + 1
  | .once .. | .every .. | .week .. | .month .. => by simp
  | .fr _ r | .un _ r | .al _ r | .bu _ r => by simp [heads_len r]
/-- what one that bears lets by -/
def lets (x : Int) (b : Bool) : Rule → Bool
  | .fr t _ => b && decide (t ≤ x)
  | .un t _ => b && decide (x < t)
  | .al t _ => b || decide (x = t)
  | .bu ds _ => b && !decide (x / 24 ∈ ds)
  | _ => b
theorem begun_fold (x : Int) : ∀ r, (heads r).dropLast.reverse.foldl (lets x) (beg (core r) x) = beg r x
  | .once .. | .every .. | .week .. | .month .. => by simp
  | .fr _ r | .un _ r | .al _ r | .bu _ r => by
    have h := begun_fold x r
    simp [List.dropLast_cons_of_ne_nil (heads_ne r), List.foldl_append, h, lets]
theorem heads_bear : ∀ r, ∀ q ∈ (heads r).dropLast, plain q = false
  | .once .. | .every .. | .week .. | .month .. => by simp
  | .fr _ r | .un _ r | .al _ r | .bu _ r => by
    have h := heads_bear r
    simp [List.dropLast_cons_of_ne_nil (heads_ne r)]
    exact h
theorem Ok.core : ∀ {r : Rule}, Ok r → Ok (core r)
  | .once .., h => trivial | .every .., h => h | .week .., h => trivial | .month .., h => trivial
  | .fr _ r, h => Ok.core (r := r) h | .un _ r, h => Ok.core (r := r) h | .al _ r, h => Ok.core (r := r) h | .bu _ r, h => Ok.core (r := r) h
theorem atI_last {xs : List Rule} {q : Rule} (h : xs.getLast? = some q) : atI (xs.map toD) (-1) = some (toD q) := by
  obtain ⟨ys, rfl⟩ := List.getLast?_eq_some_iff.mp h
  unfold atI
  rw [List.length_map, List.length_append, List.length_singleton]
  have e : ixN (ys.length + 1) (-1) = some ys.length := by unfold ixN; simp; omega
  rw [e]; simp

@[simp] def isT : Rule → Bool
  | .once .. => true | .every .. => true | .fr .. => true | .un .. => true | .al .. => true | _ => false
@[simp] def tOf : Rule → Int
  | .once h _ => h | .every h _ _ => h | .fr t _ => t | .un t _ => t | .al t _ => t | _ => 0

def isTime (x : PyData) : Bool := isBetween x 0 (1000000000000 - 1)
def isLen (x : PyData) : Bool := isBetween x 1 48
theorem isBetween_int {x : PyData} {lo hi : Int} (h : isBetween x lo hi = true) : ∃ i, x = .int i ∧ lo ≤ i ∧ i ≤ hi := by
  cases x <;> simp [isBetween] at h
  exact ⟨_, rfl, h⟩
def intOf : PyData → Int
  | .int i => i
  | _ => 0
def rowGo (below : Int) : Int → List PyData → Bool
  | _, [] => true
  | last, x :: xs => isBetween x (last + 1) (below - 1) && rowGo below (intOf x) xs
def rowB (x : PyData) (below most : Int) : Bool := match x with
  | .tuple ds => decide (1 ≤ (ds.length : Int)) && decide ((ds.length : Int) ≤ most) && rowGo below (-1) ds
  | _ => false
def plainB (w : Str) (a b : PyData) : List PyData → Bool
  | [] => decide (w = "once") && (isTime a && isLen b)
  | [c] => if w = "once" then false else if w = "every" then isTime a && (isLen b && isBetween c 1 1000000)
      else if isBetween b 0 23 && isLen c then (if w = "week" then rowB a 7 7 else decide (w = "month") && (isBetween a (-31) 31 && !decide (intOf a = 0))) else false
  | _ => false
def BEARD : List PyData := [.str "from", .str "until", .str "also", .str "but"]
def ruleB : Nat → PyData → Bool
  | n + 1, .tuple (.str w :: a :: b :: rest) => if inD (.str w) BEARD = true then (match rest with
      | [] => (if w = "but" then rowB a 100000000000 20 else isTime a) && ruleB n b
      | _ => false) else plainB w a b rest
  | _, _ => false

def isDig (c : Nat) : Bool := decide (48 ≤ c) && decide (c ≤ 57)
def figsOk (f : List Nat) : Bool := decide (1 ≤ f.length) && decide (f.length ≤ 13) && !(decide (f.head? = some 48) && decide (1 < f.length)) && f.all isDig
/-- the figures of a word -/
def figs (l : List Nat) : List Nat := match l with
  | [] => []
  | c :: r => if c = 45 ∧ ¬ r = [48] then r else c :: r
def numOf (l : List Nat) : Option Int :=
  if figsOk (figs l) = true then some (if figs l = l then ((NumText.digitsVal (figs l) : Nat) : Int) else 0 - ((NumText.digitsVal (figs l) : Nat) : Int)) else none
def numR (C : Addr) (l : List Nat) : Res := match numOf l with
  | some i => .ok (.int i)
  | none => .err C
theorem numR_ok {C : Addr} {l : List Nat} {i : Int} (h : numOf l = some i) : numR C l = .ok (.int i) := by unfold numR; rw [h]
theorem numR_err {C : Addr} {l : List Nat} (h : figsOk (figs l) = false) : numR C l = .err C := by unfold numR numOf; rw [h]; rfl
theorem fig_mem {c : Nat} : c ∈ ("0123456789" : Str).cps.toList ↔ isDig c = true := by
  have e : ("0123456789" : Str).cps.toList = [48, 49, 50, 51, 52, 53, 54, 55, 56, 57] := by decide +kernel
  rw [e]
  simp [isDig]
  omega
theorem minus_eq {c : Nat} : ((⟨#[c]⟩ : Str) = "-") ↔ c = 45 := by
  have e : ("-" : Str) = ⟨#[45]⟩ := by decide +kernel
  rw [e]; exact sign_eq
theorem zero_eq {c : Nat} : ((⟨#[c]⟩ : Str) = "0") ↔ c = 48 := by
  have e : ("0" : Str) = ⟨#[48]⟩ := by decide +kernel
  rw [e]; exact sign_eq
theorem mzero_eq {l : List Nat} : ((⟨l.toArray⟩ : Str) = "-0") ↔ l = [45, 48] := by
  have e : ("-0" : Str) = ⟨[45, 48].toArray⟩ := by decide +kernel
  rw [e]
  constructor
  · intro h
    have := congrArg (fun x : Str => x.cps.toList) h
    simpa using this
  · intro h; rw [h]
theorem arr_eq {l m : List Nat} : ((⟨l.toArray⟩ : Str) = ⟨m.toArray⟩) ↔ l = m := ⟨fun h => by have := congrArg (fun x : Str => x.cps.toList) h; simpa using this, fun h => by rw [h]⟩
theorem figsOk_cons {c : Nat} {r : List Nat} : figsOk (c :: r) = true ↔ r.length + 1 ≤ 13 ∧ ¬ (c = 48 ∧ 1 < r.length + 1) ∧ (c :: r).all isDig = true := by
  unfold figsOk
  rw [List.length_cons]
  simp only [Bool.and_eq_true, decide_eq_true_eq, Bool.not_eq_true', decide_eq_false_iff_not, List.head?_cons, Option.some.injEq]
  constructor
  · rintro ⟨⟨⟨h1, h2⟩, h3⟩, h4⟩; exact ⟨h2, (fun z => (by rw [decide_eq_true z.1, decide_eq_true z.2] at h3; cases h3)), h4⟩
  · rintro ⟨h2, h3, h4⟩; exact ⟨⟨⟨by omega, h2⟩, by rw [← Bool.decide_and]; exact decide_eq_false h3⟩, h4⟩
theorem fig_int {f : List Nat} (h : figsOk f = true) : PySem.intText? ⟨f.toArray⟩ = some ((NumText.digitsVal f : Nat) : Int) ∧ f.length ≤ 13 := by
  unfold figsOk at h
  simp only [Bool.and_eq_true, decide_eq_true_eq] at h
  obtain ⟨⟨⟨h1, h2⟩, -⟩, h4⟩ := h
  refine ⟨?_, h2⟩
  have hd : NumText.AllDigits f := fun c hc => by
    have := List.all_eq_true.mp h4 c hc
    unfold isDig at this
    simpa using this
  have := intText_digits (x := ⟨f.toArray⟩) (by simpa using hd) (by intro z; simp at z; rw [z] at h1; simp at h1) (by show f.toArray.size ≤ 4300; simp; omega)
  simpa using this
open TL in
theorem tl_neg (n : Nat) : tl (Str.ofString (toString (Int.negSucc n))) = 45 :: numL (n + 1) := by
  have h := tl_num (n + 1)
  have e2 : toString (((n + 1 : Nat)) : Int) = Nat.repr (n + 1) := rfl
  rw [e2] at h
  have e : toString (Int.negSucc n) = "-" ++ Nat.repr (n + 1) := rfl
  rw [e, ← h, tl_ofString, tl_ofString, String.toList_append]
  rfl
open TL in
theorem numL_head (n : Nat) : 0 < n → (numL n).head? ≠ some 48 := by
  induction n using Nat.strongRecOn with
  | ind n ih =>
    intro h0
    by_cases h : n < 10
    · rw [numL_lt h]; simp; omega
    · rw [numL_step (by omega)]
      have h1 := ih (n / 10) (by omega) (by omega)
      rw [List.head?_append]
      cases hh : (numL (n / 10)).head? with
      | none => exact absurd (List.head?_eq_none_iff.mp hh) (numL_ne _)
      | some c => rw [hh] at h1; simpa using h1
open TL in
theorem figsOk_num {n : Nat} (h : n < 10 ^ 13) : figsOk (numL n) = true := by
  have hl := numL_len (k := 13) (by decide) h
  have hd : (numL n).all isDig = true := List.all_eq_true.mpr fun c hc => by
    have := numL_digits n c hc
    simp [isDig]; omega
  cases hn : numL n with
  | nil => exact absurd hn (numL_ne n)
  | cons c r =>
    rw [hn] at hl hd
    refine figsOk_cons.mpr ⟨hl, fun z => ?_, hd⟩
    rcases Nat.eq_zero_or_pos n with h0 | h0
    · subst h0
      rw [numL_lt (by decide)] at hn
      cases hn
      exact absurd z.2 (by decide)
    · have := numL_head n h0
      rw [hn] at this
      exact this (by rw [List.head?_cons, z.1])
open TL in
theorem figs_dig {l : List Nat} (h : ∀ c ∈ l, c ≠ 45) : figs l = l := by
  cases l with
  | nil => rfl
  | cons c r => exact if_neg fun z => h c List.mem_cons_self z.1
open TL in
theorem numOf_num {i : Int} (h1 : -(10 ^ 13) < i) (h2 : i < 10 ^ 13) : numOf (tl (Str.ofString (toString i))) = some i := by
  cases i with
  | ofNat n =>
    have h2 : n < 10 ^ 13 := by have := h2; simp at this; omega
    have e : tl (Str.ofString (toString (Int.ofNat n))) = numL n := tl_num n
    rw [e]
    have hf : figs (numL n) = numL n := figs_dig fun c hc => by have := numL_digits n c hc; omega
    unfold numOf
    rw [hf, if_pos (figsOk_num h2), if_pos rfl, numL_val]
    rfl
  | negSucc n =>
    have h1 : n + 1 < 10 ^ 13 := by have := h1; rw [Int.negSucc_eq] at this; simp at this; omega
    rw [tl_neg]
    have hz : ¬ numL (n + 1) = [48] := fun z => by
      have := numL_head (n + 1) (by omega)
      rw [z] at this; exact this rfl
    have hf : figs (45 :: numL (n + 1)) = numL (n + 1) := if_pos ⟨rfl, hz⟩
    unfold numOf
    rw [hf, if_pos (figsOk_num h1), if_neg (fun z => by have := congrArg List.length z; simp at this), numL_val, Int.negSucc_eq]
    congr 1
@[reducible] def numS (i : Int) : Str := Str.ofString (toString i)
def Small (i : Int) : Prop := -(10 ^ 13) < i ∧ i < 10 ^ 13
theorem Small.log {i : Int} (h : Small i) : i.natAbs.log2 < 1920 := by
  have h1 : i.natAbs < 2 ^ 1920 := Nat.lt_of_lt_of_le (m := 10 ^ 13) (by have := h.1; have := h.2; omega) (Nat.le_trans (show 10 ^ 13 ≤ 2 ^ 64 by decide) (Nat.pow_le_pow_right (by decide) (by decide)))
  by_cases h0 : i.natAbs = 0
  · rw [h0]; decide
  · exact (Nat.log2_lt h0).mpr h1
theorem numS_of {i : Int} (h : Small i) : numOf (TL.tl (numS i)) = some i := numOf_num h.1 h.2
theorem numS_len {i : Int} (h : Small i) : (numS i).length ≤ 14 := by
  rw [TL.len_tl]
  cases i with
  | ofNat n =>
    have e : TL.tl (numS (Int.ofNat n)) = TL.numL n := TL.tl_num n
    rw [e]
    exact Nat.le_trans (TL.numL_len (k := 13) (by decide) (by have := h.2; simp at this; omega)) (by decide)
  | negSucc n =>
    have e : TL.tl (numS (Int.negSucc n)) = 45 :: TL.numL (n + 1) := tl_neg n
    rw [e, List.length_cons]
    have := TL.numL_len (n := n + 1) (k := 13) (by decide) (by have := h.1; rw [Int.negSucc_eq] at this; simp at this; omega)
    omega
theorem sum_len : ∀ {l : List Int}, (∀ i ∈ l, Small i) → ((l.map numS).map (·.length)).sum ≤ 14 * l.length
  | [], _ => by simp
  | i :: l, h => by
    have h1 := numS_len (h i List.mem_cons_self)
    have h2 := sum_len (l := l) fun j hj => h j (List.mem_cons_of_mem _ hj)
    simp only [List.map_cons, List.sum_cons, List.length_cons]
    omega
/-- a part of a rule -/
@[reducible] def toP : Int ⊕ List Int → PyData
  | .inl i => .int i
  | .inr ds => .tuple (ds.map .int)
def daysS (ds : List Int) : Str := Txt.join "," (ds.map numS)
@[reducible] def partS : Int ⊕ List Int → Str
  | .inl i => numS i
  | .inr ds => daysS ds
def PartOk : Int ⊕ List Int → Prop
  | .inl i => Small i
  | .inr ds => (∀ d ∈ ds, Small d) ∧ ds.length ≤ 100
theorem numS_free {i : Int} {s : Nat} (h : s < 45 ∨ 57 < s) : s ∉ TL.tl (numS i) := by
  cases i with
  | ofNat n =>
    have e : TL.tl (numS (Int.ofNat n)) = TL.numL n := TL.tl_num n
    rw [e]; exact TL.numL_free (by omega)
  | negSucc n =>
    have e : TL.tl (numS (Int.negSucc n)) = 45 :: TL.numL (n + 1) := tl_neg n
    rw [e]
    intro z
    rcases List.mem_cons.mp z with z | z
    · omega
    · exact TL.numL_free (by omega) z
theorem joinL_len (S : List Nat) : ∀ ps : List (List Nat), (TL.joinL S ps).length ≤ (ps.map (·.length)).sum + ps.length * S.length
  | [] => by simp [TL.joinL]
  | [p] => by simp [TL.joinL]
  | p :: q :: r => by
    have h := joinL_len S (q :: r)
    have e : TL.joinL S (p :: q :: r) = p ++ S ++ TL.joinL S (q :: r) := by simp [TL.joinL]
    rw [e]
    simp only [List.length_append, List.map_cons, List.sum_cons, List.length_cons] at *
    rw [Nat.add_mul (r.length + 1) 1]
    omega
theorem join_len (y : Str) (parts : List Str) : (Txt.join y parts).length ≤ (parts.map (·.length)).sum + parts.length * y.length := by
  rw [TL.join_eq, TL.len_tl, TL.tl_join, TL.len_tl y]
  have := joinL_len (TL.tl y) (parts.map TL.tl)
  rw [List.map_map, List.length_map] at this
  have e : (parts.map ((·.length) ∘ TL.tl)) = parts.map (·.length) := List.map_congr_left fun x _ => (TL.len_tl x).symm
  rw [e] at this
  exact this
theorem daysS_split {ds : List Int} (h : ds ≠ []) : Txt.split (daysS ds) "," = ds.map numS :=
  TL.split_join (s := 44) (S := []) (by decide +kernel) (by decide +kernel) (fun z => h (List.map_eq_nil_iff.mp z)) fun p hp => by
    obtain ⟨d, -, rfl⟩ := List.mem_map.mp hp
    exact numS_free (by omega)
theorem daysS_len {ds : List Int} (h : ∀ d ∈ ds, Small d) (hl : ds.length ≤ 100) : (daysS ds).length ≤ 1500 := by
  have h1 := sum_len h
  have h2 := join_len "," (ds.map numS)
  rw [List.length_map] at h2
  have e : ("," : Str).length = 1 := by decide +kernel
  rw [e] at h2
  unfold daysS
  omega
theorem mk_tl' (x : Str) : (⟨(TL.tl x).toArray⟩ : Str) = x := by cases x; rfl
def DaysOk (ds : List Int) : Prop := ds ≠ [] ∧ (∀ d ∈ ds, Small d) ∧ ds.length ≤ 100
def SmallR : Rule → Prop
  | .once h n => Small h ∧ Small n
  | .every h n s => Small h ∧ Small n ∧ Small s
  | .week ds h n => DaysOk ds ∧ Small h ∧ Small n
  | .month d h n => Small d ∧ Small h ∧ Small n
  | .fr t r => Small t ∧ SmallR r | .un t r => Small t ∧ SmallR r | .al t r => Small t ∧ SmallR r | .bu ds r => DaysOk ds ∧ SmallR r
def wordsOf : Rule → List Str
  | .once h n => ["once", numS h, numS n]
  | .every h n s => ["every", numS h, numS n, numS s]
  | .week ds h n => ["week", daysS ds, numS h, numS n]
  | .month d h n => ["month", numS d, numS h, numS n]
  | .fr t r => "from" :: numS t :: wordsOf r
  | .un t r => "until" :: numS t :: wordsOf r
  | .al t r => "also" :: numS t :: wordsOf r
  | .bu ds r => "but" :: daysS ds :: wordsOf r
def textOf (r : Rule) : Str := Txt.join " " (wordsOf r)
theorem wordsOf_ne : ∀ r, wordsOf r ≠ []
  | .once .. | .every .. | .week .. | .month .. | .fr .. | .un .. | .al .. | .bu .. => by simp [wordsOf]
theorem daysS_free {ds : List Int} (h : ds ≠ []) : 32 ∉ TL.tl (daysS ds) := by
  have key : ∀ ps : List (List Nat), (∀ p ∈ ps, 32 ∉ p) → 32 ∉ TL.joinL [44] ps := by
    intro ps
    induction ps with
    | nil => intro _; simp [TL.joinL]
    | cons p r ih =>
      intro hp
      cases r with
      | nil => simpa [TL.joinL] using hp p List.mem_cons_self
      | cons q r =>
        have h1 := hp p List.mem_cons_self
        have h2 := ih fun z hz => hp z (List.mem_cons_of_mem _ hz)
        simp [TL.joinL, h1, h2]
  have e : TL.tl ("," : Str) = [44] := by decide +kernel
  unfold daysS
  rw [TL.join_eq, TL.tl_join, e]
  refine key _ fun p hp => ?_
  obtain ⟨x, hx, rfl⟩ := List.mem_map.mp hp
  obtain ⟨d, -, rfl⟩ := List.mem_map.mp hx
  exact numS_free (by omega)
theorem words_free : ∀ r, SmallR r → ∀ p ∈ wordsOf r, 32 ∉ TL.tl p
  | .once h n, _ => by
    intro p hp; simp [wordsOf] at hp
    rcases hp with rfl | rfl | rfl
    · decide +kernel
    all_goals exact numS_free (by omega)
  | .every h n s, _ => by
    intro p hp; simp [wordsOf] at hp
    rcases hp with rfl | rfl | rfl | rfl
    · decide +kernel
    all_goals exact numS_free (by omega)
  | .week ds h n, hs => by
    intro p hp; simp [wordsOf] at hp
    rcases hp with rfl | rfl | rfl | rfl
    · decide +kernel
    · exact daysS_free hs.1.1
    all_goals exact numS_free (by omega)
  | .month d h n, _ => by
    intro p hp; simp [wordsOf] at hp
    rcases hp with rfl | rfl | rfl | rfl
    · decide +kernel
    all_goals exact numS_free (by omega)
  | .fr t r, hs => by
    intro p hp; simp [wordsOf] at hp
    rcases hp with rfl | rfl | hp
    · decide +kernel
    · exact numS_free (by omega)
    · exact words_free r hs.2 p hp
  | .un t r, hs => by
    intro p hp; simp [wordsOf] at hp
    rcases hp with rfl | rfl | hp
    · decide +kernel
    · exact numS_free (by omega)
    · exact words_free r hs.2 p hp
  | .al t r, hs => by
    intro p hp; simp [wordsOf] at hp
    rcases hp with rfl | rfl | hp
    · decide +kernel
    · exact numS_free (by omega)
    · exact words_free r hs.2 p hp
  | .bu ds r, hs => by
    intro p hp; simp [wordsOf] at hp
    rcases hp with rfl | rfl | hp
    · decide +kernel
    · exact daysS_free hs.1.1
    · exact words_free r hs.2 p hp
theorem text_split {r : Rule} (h : SmallR r) : Txt.split (textOf r) " " = wordsOf r :=
  TL.split_join (s := 32) (S := []) (by decide +kernel) (by decide +kernel) (wordsOf_ne r) (words_free r h)
theorem words_len : ∀ r, SmallR r → ((wordsOf r).map (·.length)).sum ≤ 1600 * (depth r + 1) ∧ (wordsOf r).length ≤ 2 * depth r + 4
  | .once h n, hs => by
    have := numS_len hs.1; have := numS_len hs.2
    have e : ("once" : Str).length = 4 := by decide +kernel
    simp [wordsOf, e]; omega
  | .every h n s, hs => by
    have := numS_len hs.1; have := numS_len hs.2.1; have := numS_len hs.2.2
    have e : ("every" : Str).length = 5 := by decide +kernel
    simp [wordsOf, e]; omega
  | .week ds h n, hs => by
    have := daysS_len hs.1.2.1 hs.1.2.2; have := numS_len hs.2.1; have := numS_len hs.2.2
    have e : ("week" : Str).length = 4 := by decide +kernel
    simp [wordsOf, e]; omega
  | .month d h n, hs => by
    have := numS_len hs.1; have := numS_len hs.2.1; have := numS_len hs.2.2
    have e : ("month" : Str).length = 5 := by decide +kernel
    simp [wordsOf, e]; omega
  | .fr t r, hs => by
    have := numS_len hs.1; have h2 := words_len r hs.2
    have e : ("from" : Str).length = 4 := by decide +kernel
    simp [wordsOf, e]; omega
  | .un t r, hs => by
    have := numS_len hs.1; have h2 := words_len r hs.2
    have e : ("until" : Str).length = 5 := by decide +kernel
    simp [wordsOf, e]; omega
  | .al t r, hs => by
    have := numS_len hs.1; have h2 := words_len r hs.2
    have e : ("also" : Str).length = 4 := by decide +kernel
    simp [wordsOf, e]; omega
  | .bu ds r, hs => by
    have := daysS_len hs.1.2.1 hs.1.2.2; have h2 := words_len r hs.2
    have e : ("but" : Str).length = 3 := by decide +kernel
    simp [wordsOf, e]; omega
abbrev Part3 := Str ⊕ (Int ⊕ List Int)
/-- a part as the law takes it -/
@[reducible] def toP3 : Str ⊕ (Int ⊕ List Int) → PyData
  | .inl x => .str x
  | .inr q => toP q
@[reducible] def partS3 : Str ⊕ (Int ⊕ List Int) → Str
  | .inl x => x
  | .inr q => partS q
def PartOk3 : Str ⊕ (Int ⊕ List Int) → Prop
  | .inl _ => True
  | .inr q => PartOk q
/-- of one that bears, its own words -/
def partsOf : Rule → List (Str ⊕ (Int ⊕ List Int))
  | .once h n => [.inl "once", .inr (.inl h), .inr (.inl n)]
  | .every h n s => [.inl "every", .inr (.inl h), .inr (.inl n), .inr (.inl s)]
  | .week ds h n => [.inl "week", .inr (.inr ds), .inr (.inl h), .inr (.inl n)]
  | .month d h n => [.inl "month", .inr (.inl d), .inr (.inl h), .inr (.inl n)]
  | .fr t _ => [.inl "from", .inr (.inl t)] | .un t _ => [.inl "until", .inr (.inl t)] | .al t _ => [.inl "also", .inr (.inl t)] | .bu ds _ => [.inl "but", .inr (.inr ds)]
theorem parts_ok : ∀ r, SmallR r → ∀ p ∈ partsOf r, PartOk3 p
  | .once .., h => by intro p hp; simp [partsOf] at hp; rcases hp with rfl | rfl | rfl <;> first | exact trivial | exact h.1 | exact h.2
  | .every .., h => by intro p hp; simp [partsOf] at hp; rcases hp with rfl | rfl | rfl | rfl <;> first | exact trivial | exact h.1 | exact h.2.1 | exact h.2.2
  | .week .., h => by intro p hp; simp [partsOf] at hp; rcases hp with rfl | rfl | rfl | rfl <;> first | exact trivial | exact h.1.2 | exact h.2.1 | exact h.2.2
  | .month .., h => by intro p hp; simp [partsOf] at hp; rcases hp with rfl | rfl | rfl | rfl <;> first | exact trivial | exact h.1 | exact h.2.1 | exact h.2.2
  | .fr .., h => by intro p hp; simp [partsOf] at hp; rcases hp with rfl | rfl <;> first | exact trivial | exact h.1
  | .un .., h => by intro p hp; simp [partsOf] at hp; rcases hp with rfl | rfl <;> first | exact trivial | exact h.1
  | .al .., h => by intro p hp; simp [partsOf] at hp; rcases hp with rfl | rfl <;> first | exact trivial | exact h.1
  | .bu .., h => by intro p hp; simp [partsOf] at hp; rcases hp with rfl | rfl <;> first | exact trivial | exact h.1.2
def headW (q : Rule) : List Str := (partsOf q).map partS3
theorem heads_words : ∀ r, (heads r).flatMap headW = wordsOf r
  | .once .. | .every .. | .week .. | .month .. => by simp [heads, headW, partsOf, wordsOf]
  | .fr _ r | .un _ r | .al _ r | .bu _ r => by simp [heads, headW, partsOf, wordsOf, heads_words r]
theorem heads_small : ∀ r, SmallR r → ∀ q ∈ heads r, SmallR q
  | .once .., h | .every .., h | .week .., h | .month .., h => by simpa [heads] using h
  | .fr _ r, h | .un _ r, h | .al _ r, h | .bu _ r, h => by
    simp only [heads, List.mem_cons, forall_eq_or_imp]
    exact ⟨h, heads_small r h.2⟩
def rebuild (hs : List (Str × PyData)) (x : PyData) : PyData := hs.foldr (fun h acc => .tuple [.str h.1, h.2, acc]) x

def timeOf (c : Int) : Int := ([c / 3 % 200, c / 3 % 1000000000000, 1000000000000 - 1 - c / 3 % 3] : List Int).getD (c % 3).toNat 0
theorem timeOf_in (c : Int) : 0 ≤ timeOf c ∧ timeOf c < 1000000000000 := by
  have h3 : c % 3 = 0 ∨ c % 3 = 1 ∨ c % 3 = 2 := by omega
  unfold timeOf
  rcases h3 with h | h | h <;> rw [h] <;> simp <;> omega
def InT (i : Int) : Prop := 0 ≤ i ∧ i < 1000000000000
def InL (n : Int) : Prop := 1 ≤ n ∧ n ≤ 48
/-- within the bounds -/
def GoodR : Rule → Prop
  | .once h n => InT h ∧ InL n
  | .every h n s => InT h ∧ InL n ∧ 1 ≤ s ∧ s ≤ 1000000
  | .week ds h n => (rowB (.tuple (ds.map .int)) 7 7 = true ∧ DaysOk ds) ∧ (0 ≤ h ∧ h ≤ 23) ∧ InL n
  | .month d h n => ((-31 ≤ d ∧ d ≤ 31) ∧ d ≠ 0) ∧ (0 ≤ h ∧ h ≤ 23) ∧ InL n
  | .fr t r => InT t ∧ GoodR r | .un t r => InT t ∧ GoodR r | .al t r => InT t ∧ GoodR r
  | .bu ds r => (rowB (.tuple (ds.map .int)) 100000000000 20 = true ∧ DaysOk ds) ∧ GoodR r
theorem small_of {i : Int} (h1 : -1000000000000 ≤ i) (h2 : i ≤ 1000000000000) : Small i := ⟨by show -(10000000000000 : Int) < i; omega, by show i < (10000000000000 : Int); omega⟩
theorem GoodR.small : ∀ {r : Rule}, GoodR r → SmallR r
  | .once .., h => ⟨small_of (by have := h.1.1; omega) (by have := h.1.2; omega), small_of (by have := h.2.1; omega) (by have := h.2.2; omega)⟩
  | .every .., h => ⟨small_of (by have := h.1.1; omega) (by have := h.1.2; omega), small_of (by have := h.2.1.1; omega) (by have := h.2.1.2; omega), small_of (by have := h.2.2.1; omega) (by have := h.2.2.2; omega)⟩
  | .week .., h => ⟨h.1.2, small_of (by have := h.2.1.1; omega) (by have := h.2.1.2; omega), small_of (by have := h.2.2.1; omega) (by have := h.2.2.2; omega)⟩
  | .month .., h => ⟨small_of (by have := h.1.1.1; omega) (by have := h.1.1.2; omega), small_of (by have := h.2.1.1; omega) (by have := h.2.1.2; omega), small_of (by have := h.2.2.1; omega) (by have := h.2.2.2; omega)⟩
  | .fr .., h | .un .., h | .al .., h => ⟨small_of (by have := h.1.1; omega) (by have := h.1.2; omega), GoodR.small h.2⟩
  | .bu .., h => ⟨h.1.2, GoodR.small h.2⟩
theorem bearW (w : Str) (h : inD (.str w) BEARD = true) (n : Nat) (a b : PyData) : ruleB (n + 1) (.tuple [.str w, a, b]) = ((if w = "but" then rowB a 100000000000 20 else isTime a) && ruleB n b) := by
  show (if inD (.str w) BEARD = true then _ else _) = _
  rw [if_pos h]
theorem plainW (w : Str) (h : ¬ inD (.str w) BEARD = true) (n : Nat) (a b : PyData) (rest : List PyData) : ruleB (n + 1) (.tuple (.str w :: a :: b :: rest)) = plainB w a b rest := by
  show (if inD (.str w) BEARD = true then _ else _) = _
  rw [if_neg h]
theorem time_ok {i : Int} (h : InT i) : isTime (.int i) = true := by simp only [isTime, isBetween]; rw [← Bool.decide_and]; exact decide_eq_true ⟨h.1, by have := h.2; omega⟩
theorem len_ok {i : Int} (h : InL i) : isLen (.int i) = true := by simp only [isLen, isBetween]; rw [← Bool.decide_and]; exact decide_eq_true ⟨h.1, h.2⟩
theorem betw_ok {i lo hi : Int} (h1 : lo ≤ i) (h2 : i ≤ hi) : isBetween (.int i) lo hi = true := by simp only [isBetween]; rw [← Bool.decide_and]; exact decide_eq_true ⟨h1, h2⟩
theorem ruleB_good : ∀ {r : Rule} (n : Nat), GoodR r → depth r < n → ruleB n (toD r) = true
  | .once h m, n + 1, g, _ => by
    show ruleB (n + 1) (.tuple (.str "once" :: .int h :: .int m :: [])) = true
    rw [plainW "once" (by decide +kernel)]
    simp [plainB, time_ok g.1, len_ok g.2]
  | .every h m s, n + 1, g, _ => by
    show ruleB (n + 1) (.tuple (.str "every" :: .int h :: .int m :: [.int s])) = true
    rw [plainW "every" (by decide +kernel)]
    have e : ¬ ("every" : Str) = "once" := by decide +kernel
    simp [plainB, time_ok g.1, len_ok g.2.1, betw_ok g.2.2.1 g.2.2.2, e]
  | .week ds h m, n + 1, g, _ => by
    show ruleB (n + 1) (.tuple (.str "week" :: .tuple (ds.map .int) :: .int h :: [.int m])) = true
    rw [plainW "week" (by decide +kernel)]
    have e : ¬ ("week" : Str) = "once" := by decide +kernel
    have e2 : ¬ ("week" : Str) = "every" := by decide +kernel
    simp [plainB, g.1.1, len_ok g.2.2, betw_ok g.2.1.1 g.2.1.2, e, e2]
  | .month d h m, n + 1, g, _ => by
    show ruleB (n + 1) (.tuple (.str "month" :: .int d :: .int h :: [.int m])) = true
    rw [plainW "month" (by decide +kernel)]
    have e : ¬ ("month" : Str) = "once" := by decide +kernel
    have e2 : ¬ ("month" : Str) = "every" := by decide +kernel
    have e3 : ¬ ("month" : Str) = "week" := by decide +kernel
    simp [plainB, len_ok g.2.2, betw_ok g.2.1.1 g.2.1.2, betw_ok g.1.1.1 g.1.1.2, e, e2, e3, intOf, g.1.2]
  | .fr t r, n + 1, g, hd => by
    have e : ¬ ("from" : Str) = "but" := by decide +kernel
    have hd : depth r < n := Nat.lt_of_succ_lt_succ hd
    rw [show toD (.fr t r) = .tuple [.str "from", .int t, toD r] from rfl, bearW "from" (by decide +kernel), if_neg e, time_ok g.1, ruleB_good n g.2 hd]; rfl
  | .un t r, n + 1, g, hd => by
    have e : ¬ ("until" : Str) = "but" := by decide +kernel
    have hd : depth r < n := Nat.lt_of_succ_lt_succ hd
    rw [show toD (.un t r) = .tuple [.str "until", .int t, toD r] from rfl, bearW "until" (by decide +kernel), if_neg e, time_ok g.1, ruleB_good n g.2 hd]; rfl
  | .al t r, n + 1, g, hd => by
    have e : ¬ ("also" : Str) = "but" := by decide +kernel
    have hd : depth r < n := Nat.lt_of_succ_lt_succ hd
    rw [show toD (.al t r) = .tuple [.str "also", .int t, toD r] from rfl, bearW "also" (by decide +kernel), if_neg e, time_ok g.1, ruleB_good n g.2 hd]; rfl
  | .bu ds r, n + 1, g, hd => by
    have hd : depth r < n := Nat.lt_of_succ_lt_succ hd
    rw [show toD (.bu ds r) = .tuple [.str "but", .tuple (ds.map .int), toD r] from rfl, bearW "but" (by decide +kernel), if_pos rfl, g.1.1, ruleB_good n g.2 hd]; rfl
theorem wd_good {b : Int} (h1 : 1 ≤ b) (h2 : b ≤ 127) : rowB (.tuple ((wd b).map .int)) 7 7 = true ∧ (∀ d ∈ wd b, 0 ≤ d ∧ d ≤ 6) ∧ (wd b).length ≤ 7 := by
  have h : ∀ n : Fin 127, rowB (.tuple ((wd (1 + (n.1 : Int))).map .int)) 7 7 = true ∧ (∀ d ∈ wd (1 + (n.1 : Int)), 0 ≤ d ∧ d ≤ 6) ∧ (wd (1 + (n.1 : Int))).length ≤ 7 := by decide +kernel
  have := h ⟨(b - 1).toNat, by omega⟩
  rwa [show (1 : Int) + (((b - 1).toNat : Nat) : Int) = b by omega] at this
theorem rowGo_steps (below s : Int) (hs : 1 ≤ s) : ∀ (m : Nat) (d last : Int), last < d → d + (m : Int) * s ≤ below → rowGo below last (((List.range m).map fun k : Nat => d + (0 + (k : Int)) * s).map .int) = true
  | 0, _, _, _, _ => rfl
  | m + 1, d, last, h1, h2 => by
    have h2 : d + ((m : Int) + 1) * s ≤ below := by simpa using h2
    rw [Int.add_mul, Int.one_mul] at h2
    have hm : 0 ≤ (m : Int) * s := Int.mul_nonneg (by omega) (by omega)
    have ih := rowGo_steps below s hs m (d + s) d (by omega) (by omega)
    rw [List.range_succ_eq_map, List.map_cons, List.map_map (l := List.range m), List.map_cons]
    have e : ((fun k : Nat => d + (0 + (k : Int)) * s) ∘ Nat.succ) = fun k : Nat => (d + s) + (0 + (k : Int)) * s := by
      funext k
      show d + (0 + ((k + 1 : Nat) : Int)) * s = _
      rw [show (0 + ((k + 1 : Nat) : Int)) = (0 + (k : Int)) + 1 by omega, Int.add_mul]; omega
    rw [e]
    have e0 : d + (0 + ((0 : Nat) : Int)) * s = d := by simp
    rw [e0]
    show (isBetween (.int d) (last + 1) (below - 1) && rowGo below (intOf (.int d)) _) = true
    rw [betw_ok (by omega) (by omega)]
    exact ih

def covers (r : Rule) (x : Int) : Bool := (List.range (size r).toNat).any fun k : Nat => begins r (x - (0 + (k : Int)))
def startsL (r : Rule) (s e : Int) : List Int := ((List.range (e - s).toNat).filter fun k : Nat => begins r (s + (k : Int))).map fun k : Nat => s + (k : Int)
theorem startsL_len (r : Rule) (s e : Int) : (startsL r s e).length ≤ (e - s).toNat := by
  unfold startsL
  rw [List.length_map]
  exact Nat.le_trans (List.length_filter_le _ _) (by rw [List.length_range]; exact Nat.le_refl _)
theorem foldl_any {α : Type} (f : α → Bool) : ∀ (zs : List α) (b : Bool), zs.foldl (fun s k => if f k = true then true else s) b = (b || zs.any f)
  | [], b => by simp
  | z :: zs, b => by rw [List.foldl_cons, foldl_any f zs, List.any_cons]; cases h : f z <;> simp

structure Pers where
  name : Str
  fr : List Rule
  bz : List Rule
  t : Addr
  f : Addr
  u : Addr
  fv : List V
  uv : List V
structure Meet where
  num : Int
  at_ : Int
  hrs : Int
  who : List Str
@[reducible] def Meet.d (m : Meet) : PyData := .tuple [.int m.num, .int m.at_, .int m.hrs, .tuple (m.who.map .str)]
structure Meet.ok (m : Meet) : Prop where
  lo : 0 ≤ m.at_
  hi : m.at_ + m.hrs ≤ 1000000000000
  h1 : 1 ≤ m.hrs
  h2 : m.hrs ≤ 48
structure Bk where
  a : Addr
  dx : Addr
  kd : Addr
  bk : Addr
  ps : List Pers
  mv : List V
  mt : List Meet
  given : Int
def Bk.fs (b : Bk) : List (Str × V) := [("known", .ref b.kd), ("booked", .ref b.bk), ("given", .int b.given)]
def Bk.kvs (b : Bk) : List (Key × V) := b.ps.map fun p => (.inr p.name, .ref p.t)
def Pers.adr (p : Pers) : List Addr := [p.t, p.f, p.u]
def Bk.adr (b : Bk) : List Addr := b.a :: b.kd :: b.bk :: b.ps.flatMap Pers.adr
structure LsU (s : US) (q : Addr) (vs : List V) (ds : List PyData) : Prop where
  c : (q, HO.lst vs) ∈ s.cells
  r : (vs, ds) ∈ s.rel
theorem LsU.ls {K : PySem.W.Frag} {s : US} {q : Addr} {vs : List V} {ds : List PyData} (h : LsU s q vs ds) : LsC ((uw K).g s) q vs ds := u_ls h.c h.r
structure RuOk (rs : List Rule) : Prop where
  few : rs.length ≤ 20
  good : ∀ r ∈ rs, GoodR r ∧ depth r < 8
structure BkAt (C : Addr) (s : US) (b : Bk) : Prop where
  ob : (b.a, HO.ins C b.dx b.fs) ∈ s.cells
  kn : (b.kd, HO.dK b.kvs) ∈ s.cells
  bo : LsU s b.bk b.mv (b.mt.map Meet.d)
  pt : ∀ p ∈ b.ps, (p.t, HO.tup [.ref p.f, .ref p.u]) ∈ s.cells
  pf : ∀ p ∈ b.ps, LsU s p.f p.fv (p.fr.map toD)
  pu : ∀ p ∈ b.ps, LsU s p.u p.uv (p.bz.map toD)
  nd : b.adr.Nodup
  nn : (b.ps.map (·.name)).Nodup
  few : b.ps.length ≤ 1000 ∧ b.mt.length ≤ 1000
  ok : ∀ p ∈ b.ps, RuOk p.fr ∧ RuOk p.bz
  mok : ∀ m ∈ b.mt, m.ok
theorem BkAt.nom {b : Bk} {m : Str} (h : ¬ (m = "known" ∨ m = "booked" ∨ m = "given")) : b.fs.lookup m = none := by
  simp only [not_or] at h
  unfold Bk.fs
  have e1 : (m == ("known" : Str)) = false := by simpa using h.1
  have e2 : (m == ("booked" : Str)) = false := by simpa using h.2.1
  have e3 : (m == ("given" : Str)) = false := by simpa using h.2.2
  simp [List.lookup, e1, e2, e3]
theorem f_known {b : Bk} : b.fs.lookup ("known" : Str) = some (.ref b.kd) := by rfl
theorem f_booked {b : Bk} : b.fs.lookup ("booked" : Str) = some (.ref b.bk) := by
  have e1 : (("booked" : Str) == ("known" : Str)) = false := by decide +kernel
  simp [Bk.fs, List.lookup, e1]
theorem f_given {b : Bk} : b.fs.lookup ("given" : Str) = some (.int b.given) := by
  have e1 : (("given" : Str) == ("known" : Str)) = false := by decide +kernel
  have e2 : (("given" : Str) == ("booked" : Str)) = false := by decide +kernel
  simp [Bk.fs, List.lookup, e1, e2]
theorem val_cons (x : Key × V) (xs : List (Key × V)) (k : Key) : valV (x :: xs) k = if x.1 = k then some x.2 else valV xs k := by
  unfold valV
  rw [List.find?_cons]
  by_cases h : x.1 = k
  · rw [if_pos h, decide_eq_true h]; rfl
  · rw [if_neg h, decide_eq_false h]
theorem kv_find {p : Pers} : ∀ {ps : List Pers}, (ps.map (·.name)).Nodup → p ∈ ps → valV (ps.map fun p => ((.inr p.name : Key), V.ref p.t)) (.inr p.name) = some (.ref p.t)
  | [], _, h => by cases h
  | q :: qs, nn, h => by
    rw [List.map_cons, List.nodup_cons] at nn
    rw [List.map_cons, val_cons]
    by_cases e : q.name = p.name
    · rw [if_pos (by rw [e])]
      rcases List.mem_cons.mp h with rfl | h
      · rfl
      · exact absurd (List.mem_map_of_mem h) (e ▸ nn.1)
    · rw [if_neg (fun z => e (Sum.inr.inj z))]
      rcases List.mem_cons.mp h with rfl | h
      · exact absurd rfl e
      · exact kv_find nn.2 h
theorem kv_none {n : Str} : ∀ {ps : List Pers}, n ∉ ps.map (·.name) → valV (ps.map fun p => ((.inr p.name : Key), V.ref p.t)) (.inr n) = none
  | [], _ => rfl
  | q :: qs, h => by
    rw [List.map_cons, List.mem_cons, not_or] at h
    rw [List.map_cons, val_cons, if_neg (fun z => h.1 (Sum.inr.inj z).symm)]
    exact kv_none h.2
section
variable {K : PySem.W.Frag} {s : US} {C : Addr} {b : Bk} {Γ : List Ent} {te tk : TE} {p : Pers}
theorem ee_known (hb : BkAt C s b) (c : Cls K C) (n : NoAttr K C "known") (h : EvE ((uw K).g s) te Γ (.val (.ref b.a))) : EvE ((uw K).g s) (tFld K te "known") Γ (.val (.ref b.kd)) := ee_fld h hb.ob c n f_known
theorem ee_booked (hb : BkAt C s b) (c : Cls K C) (n : NoAttr K C "booked") (h : EvE ((uw K).g s) te Γ (.val (.ref b.a))) : EvE ((uw K).g s) (tFld K te "booked") Γ (.val (.ref b.bk)) := ee_fld h hb.ob c n f_booked
theorem ee_pers (hb : BkAt C s b) (hp : p ∈ b.ps) (c : Cls K C) (n : NoAttr K C "known") (h : EvE ((uw K).g s) te Γ (.val (.ref b.a))) (hk : EvD ((uw K).g s) tk Γ (.str p.name)) : EvE ((uw K).g s) (tDGet (tFld K te "known") tk) Γ (.val (.ref p.t)) :=
  ee_dget (ee_known hb c n h) hb.kn hk (kv_find hb.nn hp)
theorem ee_fr (hb : BkAt C s b) (hp : p ∈ b.ps) (h : EvE ((uw K).g s) te Γ (.val (.ref p.t))) : EvE ((uw K).g s) (tOp (rIx K) te (tC (.int 0))) Γ (.val (.ref p.f)) := ee_tix h (hb.pt p hp) ev_int (by rfl)
theorem ee_bz (hb : BkAt C s b) (hp : p ∈ b.ps) (h : EvE ((uw K).g s) te Γ (.val (.ref p.t))) : EvE ((uw K).g s) (tOp (rIx K) te (tC (.int 1))) Γ (.val (.ref p.u)) := ee_tix h (hb.pt p hp) ev_int (by rfl)
end
def freeB (p : Pers) (x : Int) : Bool := p.fr.any (fun r => covers r x) && !p.bz.any (fun r => covers r x)
def inM (m : Meet) (n : Str) (x : Int) : Bool := decide (n ∈ m.who) && (decide (m.at_ ≤ x) && decide (x < m.at_ + m.hrs))
def openB (mt : List Meet) (p : Pers) (x wo : Int) : Bool := freeB p x && !(mt.any fun m => !decide (m.num = wo) && inM m p.name x)
theorem GoodR.cov {r : Rule} : GoodR r → Ok r ∧ 0 ≤ size r ∧ size r ≤ 1000 := by
  induction r with
  | once h n => intro g; exact ⟨trivial, by have := g.2.1; simp; omega, by have := g.2.2; simp; omega⟩
  | every h n s => intro g; exact ⟨by have := g.2.2.1; simp; omega, by have := g.2.1.1; simp; omega, by have := g.2.1.2; simp; omega⟩
  | week ds h n => intro g; exact ⟨trivial, by have := g.2.2.1; simp; omega, by have := g.2.2.2; simp; omega⟩
  | month d h n => intro g; exact ⟨trivial, by have := g.2.2.1; simp; omega, by have := g.2.2.2; simp; omega⟩
  | fr t r ih => intro g; exact ih g.2
  | un t r ih => intro g; exact ih g.2
  | al t r ih => intro g; exact ih g.2
  | bu ds r ih => intro g; exact ih g.2
def NmsD (ps : List Pers) : List PyData := (ps.map (·.name)).map .str
def NmIs (d : PyData) (ps : List Pers) : Prop := d = .list (NmsD ps) ∨ d = .tuple (NmsD ps)
theorem it_nms {G : Gd} {te : TE} {Γ : List Ent} {d : PyData} {ps : List Pers} (h : NmIs d ps) (ht : EvD G te Γ d) : ItD G (iAny G.K te) Γ (NmsD ps) := by
  rcases h with rfl | rfl
  · exact it_any_list ht
  · exact it_any_tup ht
def AllOpen (mt : List Meet) (ps : List Pers) (x h wo : Int) : Prop := ∀ k : Int, 0 ≤ k → k < h → ∀ p ∈ ps, openB mt p (x + k) wo = true
def BlkR (mt : List Meet) (ps : List Pers) (x h wo : Int) (d : PyData) : Prop := (d = .none ∧ AllOpen mt ps x h wo) ∨ ∃ p ∈ ps, ∃ k : Int, 0 ≤ k ∧ k < h ∧ d = .tuple [.str p.name, .int (x + k)] ∧ openB mt p (x + k) wo = false
def RowsAt (mt : List Meet) (ps : List Pers) (h last wo : Int) : Int → List PyData → Int → Prop
  | x, [], y => x = y
  | x, r :: rs, y => ∃ p ∈ ps, ∃ z : Int, x ≤ z ∧ z < x + h ∧ x ≤ last ∧ openB mt p z wo = false ∧ r = .tuple [.int x, .int (if last < z then last else z), .str p.name, .int z] ∧ RowsAt mt ps h last wo (z + 1) rs y
theorem RowsAt.snoc {mt : List Meet} {ps : List Pers} {h last wo : Int} {r : PyData} {y : Int} {p : Pers} {z : Int} (hp : p ∈ ps) (h1 : y ≤ z) (h2 : z < y + h) (h3 : y ≤ last) (h4 : openB mt p z wo = false) (h5 : r = .tuple [.int y, .int (if last < z then last else z), .str p.name, .int z]) :
    ∀ {rs : List PyData} {x : Int}, RowsAt mt ps h last wo x rs y → RowsAt mt ps h last wo x (rs ++ [r]) (z + 1)
  | [], x, e => by
    obtain rfl : x = y := e
    exact ⟨p, hp, z, h1, h2, h3, h4, h5, rfl⟩
  | q :: rs, x, ⟨p', hp', z', a1, a2, a3, a4, a5, a6⟩ => ⟨p', hp', z', a1, a2, a3, a4, a5, RowsAt.snoc hp h1 h2 h3 h4 h5 a6⟩
theorem RowsAt.len {mt : List Meet} {ps : List Pers} {h last wo : Int} {y : Int} : ∀ {rs : List PyData} {x : Int}, RowsAt mt ps h last wo x rs y → (rs.length : Int) ≤ y - x ∧ (y = x ∨ y ≤ last + h)
  | [], x, e => by
    obtain rfl : x = y := e
    simp
  | q :: rs, x, ⟨p', hp', z', a1, a2, a3, a4, a5, a6⟩ => by
    have := a6.len
    rw [List.length_cons]
    omega
/-- who is told of a row isn't free then: no meeting begins ahead of the end -/
theorem RowsAt.none {mt : List Meet} {ps : List Pers} {h last wo : Int} {y : Int} : ∀ {rs : List PyData} {x : Int}, RowsAt mt ps h last wo x rs y → ∀ v, x ≤ v → v < y → ¬ AllOpen mt ps v h wo
  | [], x, e, v, h1, h2 => by
    obtain rfl : x = y := e
    omega
  | q :: rs, x, ⟨p, hp, z, a1, a2, a3, a4, a5, a6⟩, v, h1, h2 => fun ha => by
    by_cases hv : v ≤ z
    · have := ha (z - v) (by omega) (by omega) p hp
      rw [show v + (z - v) = z by omega, a4] at this
      cases this
    · exact a6.none v (by omega) h2 ha
structure Found (mt : List Meet) (ps : List Pers) (h st en wo : Int) (f : PyData) (rs : List PyData) : Prop where
  ex : ∃ y, RowsAt mt ps h (en - h) wo st rs y ∧ ((y ≤ en - h ∧ AllOpen mt ps y h wo ∧ f = .int y) ∨ (en - h < y ∧ f = .none))
/-! changes of a book -/
theorem LsU.keep {s s2 : US} {own : List Addr} {q : Addr} {vs : List V} {ds : List PyData} (h : LsU s q vs ds) (k : Keeps s s2 own) (n : q ∉ own) : LsU s2 q vs ds := ⟨k.cell _ h.c n, k.rel _ h.r⟩
theorem in_foot {s : US} {q : Addr} {o : HO} (h : (q, o) ∈ s.cells) : q ∈ s.foot := List.mem_map.mpr ⟨_, h, rfl⟩
theorem BkAt.foot {C : Addr} {s : US} {b : Bk} (hb : BkAt C s b) : ∀ x ∈ b.adr, x ∈ s.foot := fun x hx => by
  unfold Bk.adr at hx
  simp only [List.mem_cons, List.mem_flatMap] at hx
  rcases hx with rfl | rfl | rfl | ⟨p, hp, hx⟩
  · exact in_foot hb.ob
  · exact in_foot hb.kn
  · exact in_foot hb.bo.c
  · simp only [Pers.adr, List.mem_cons, List.not_mem_nil, or_false] at hx
    rcases hx with rfl | rfl | rfl
    · exact in_foot (hb.pt p hp)
    · exact in_foot (hb.pf p hp).c
    · exact in_foot (hb.pu p hp).c
/-- another book's own: nothing changes -/
theorem BkAt.keep {C : Addr} {s s2 : US} {b : Bk} {own : List Addr} (hb : BkAt C s b) (k : Keeps s s2 own) (n : ∀ x ∈ b.adr, x ∉ own) : BkAt C s2 b := by
  have n1 : b.a ∉ own := n _ (by simp [Bk.adr])
  have n2 : b.kd ∉ own := n _ (by simp [Bk.adr])
  have n3 : b.bk ∉ own := n _ (by simp [Bk.adr])
  have n4 : ∀ p ∈ b.ps, p.t ∉ own ∧ p.f ∉ own ∧ p.u ∉ own := fun p hp => by
    have : ∀ x ∈ p.adr, x ∉ own := fun x hx => n x (by unfold Bk.adr; simp only [List.mem_cons, List.mem_flatMap]; exact .inr (.inr (.inr ⟨p, hp, hx⟩)))
    exact ⟨this _ (by simp [Pers.adr]), this _ (by simp [Pers.adr]), this _ (by simp [Pers.adr])⟩
  exact ⟨k.cell _ hb.ob n1, k.cell _ hb.kn n2, hb.bo.keep k n3, fun p hp => k.cell _ (hb.pt p hp) (n4 p hp).1, fun p hp => (hb.pf p hp).keep k (n4 p hp).2.1, fun p hp => (hb.pu p hp).keep k (n4 p hp).2.2, hb.nd, hb.nn, hb.few, hb.ok, hb.mok⟩
def LsE (s : US) (e : Ent) (ds : List PyData) : Prop := e = .dat (.list ds) ∨ ∃ q vs, e = .val (.ref q) ∧ LsU s q vs ds
section
variable {K : PySem.W.Frag} {s : US} {Γ : List Ent} {e : Ent} {ds : List PyData} {i : Nat}
theorem le_len (h : LsE s e ds) (hi : Γ[i]? = some e) : EvD ((uw K).g s) (tCB (Pd.rLen K) (tCons (tVar i) tNil)) Γ (.int (ds.length : Int)) := by
  rcases h with rfl | ⟨q, vs, rfl, h⟩
  · exact ev_cb (ea_cons (ev_var hi) ea_nil) ca_len_list
  · exact ed_llen (ee_val hi) (h.ls (K := K))
theorem le_it (h : LsE s e ds) (hi : Γ[i]? = some e) : ItD ((uw K).g s) (iAny K (tVar i)) Γ ds := by
  rcases h with rfl | ⟨q, vs, rfl, h⟩
  · exact it_any_list (ev_var hi)
  · exact it_cell (ee_val hi) (h.ls (K := K))
theorem le_list (h : LsE s e ds) (hi : Γ[i]? = some e) : EvF ((uw K).g s) (tCB (rListOf K) (tCons (tVar i) tNil)) Γ ds := by
  rcases h with rfl | ⟨q, vs, rfl, h⟩
  · exact w_list_list (ea_cons (ev_var hi) ea_nil)
  · exact ef_llist (ee_val hi) (h.ls (K := K))
theorem LsE.keep {s2 : US} {own : List Addr} (h : LsE s e ds) (k : Keeps s s2 own) (n : own = []) : LsE s2 e ds := by
  rcases h with rfl | ⟨q, vs, rfl, h⟩
  · exact .inl rfl
  · exact .inr ⟨q, vs, rfl, h.keep k (by rw [n]; simp)⟩
end
def LETS : List Nat := ("abcdefghijklmnopqrstuvwxyz" : Str).cps.toList
def nameB : PyData → Bool
  | .str t => (decide (1 ≤ (t.length : Int)) && decide ((t.length : Int) ≤ 12)) && t.cps.toList.all fun c => decide (c ∈ LETS)
  | _ => false
def Bk.come (b : Bk) (p : Pers) : Bk := { b with ps := b.ps ++ [p] }
def Pers.more (p : Pers) (r : Rule) (v : V) : Pers := { p with bz := p.bz ++ [r], uv := p.uv ++ [v] }
def Bk.busy (b : Bk) (n : Str) (r : Rule) (v : V) : Bk := { b with ps := b.ps.map fun q => if q.name = n then q.more r v else q }
def Bk.meet (b : Bk) (y h : Int) (who : List Str) (v : V) : Bk := { b with given := b.given + 1, mv := b.mv ++ [v], mt := b.mt ++ [⟨b.given + 1, y, h, who⟩] }
theorem BkAt.come {C : Addr} {s : US} {b : Bk} (hb : BkAt C s b) {n : Str} {fr : List Rule} {t f u : Addr} {fv : List V} (hn : n ∉ b.ps.map (·.name)) (hr : RuOk fr) (hl : b.ps.length < 1000) (nf : f ∉ s.foot) (nu : u ∉ s.foot) (nt : t ∉ s.foot) (fu : f ≠ u) (ft : f ≠ t) (ut : u ≠ t) :
    let s2 := ((((s.add [(f, .lst fv)] [(fv, fr.map toD)]).add [(u, .lst [])] [([], [])]).add [(t, .tup [.ref f, .ref u])] []).put b.kd (.dK (putK b.kvs (.inr n) (.ref t))) [])
    BkAt C s2 (b.come ⟨n, fr, [], t, f, u, fv, []⟩) ∧ Keeps s s2 [b.kd] := by
  intro s2
  have ks : Keeps s (((s.add [(f, .lst fv)] [(fv, fr.map toD)]).add [(u, .lst [])] [([], [])]).add [(t, .tup [.ref f, .ref u])] []) [] := (add_keeps.trans add_keeps).trans add_keeps
  have kp : Keeps (((s.add [(f, .lst fv)] [(fv, fr.map toD)]).add [(u, .lst [])] [([], [])]).add [(t, .tup [.ref f, .ref u])] []) s2 [b.kd] := put_keeps
  have kk : Keeps s s2 [b.kd] := (ks.mono (by simp)).trans kp
  have kf : b.kd ∈ s.foot := in_foot hb.kn
  have m1 : f ∉ [b.kd] := by simp; intro e; exact nf (e ▸ kf)
  have m2 : u ∉ [b.kd] := by simp; intro e; exact nu (e ▸ kf)
  have m3 : t ∉ [b.kd] := by simp; intro e; exact nt (e ▸ kf)
  have c1 : (f, HO.lst fv) ∈ s2.cells := kp.cell _ (by simp [US.add]) m1
  have c2 : (u, HO.lst []) ∈ s2.cells := kp.cell _ (by simp [US.add]) m2
  have c3 : (t, HO.tup [.ref f, .ref u]) ∈ s2.cells := kp.cell _ (by simp [US.add]) m3
  have r1 : (fv, fr.map toD) ∈ s2.rel := kp.rel _ (by simp [US.add])
  have r2 : (([] : List V), ([] : List PyData)) ∈ s2.rel := kp.rel _ (by simp [US.add])
  have nd := hb.nd
  have ek : b.kvs = b.ps.map _ := rfl
  have nk : ∀ x ∈ b.adr, x ≠ b.kd → x ∉ [b.kd] := fun x _ h => by simpa using h
  have d0 := nd
  unfold Bk.adr at d0
  rw [List.nodup_cons, List.nodup_cons] at d0
  have da : b.a ∉ [b.kd] := by simpa using fun e => d0.1 (by rw [e]; simp)
  have dbk : b.bk ∉ [b.kd] := by simpa using fun e => d0.2.1 (by rw [← e]; simp)
  have dp : ∀ p ∈ b.ps, ∀ x ∈ p.adr, x ∉ [b.kd] := fun p hp x hx => by
    simp only [List.mem_singleton]
    intro e
    exact d0.2.1 (by rw [← e]; exact List.mem_cons_of_mem _ (List.mem_flatMap.mpr ⟨p, hp, hx⟩))
  refine ⟨⟨kk.cell _ hb.ob da, ?_, hb.bo.keep kk dbk, fun p hp => ?_, fun p hp => ?_, fun p hp => ?_, ?_, ?_, ⟨?_, hb.few.2⟩, fun p hp => ?_, hb.mok⟩, kk⟩
  · have e : (b.come ⟨n, fr, [], t, f, u, fv, []⟩).kvs = putK b.kvs (.inr n) (.ref t) := by
      rw [putK_new _ (by rw [ek]; exact kv_none hn)]
      show (b.ps ++ [_]).map _ = _
      rw [List.map_append]; rfl
    rw [e]
    exact put_mem (ks.cell _ hb.kn (by simp))
  · rcases List.mem_append.mp hp with hp | hp
    · exact kk.cell _ (hb.pt p hp) (dp p hp _ (by simp [Pers.adr]))
    · simp at hp; subst hp; exact c3
  · rcases List.mem_append.mp hp with hp | hp
    · exact (hb.pf p hp).keep kk (dp p hp _ (by simp [Pers.adr]))
    · simp at hp; subst hp; exact ⟨c1, r1⟩
  · rcases List.mem_append.mp hp with hp | hp
    · exact (hb.pu p hp).keep kk (dp p hp _ (by simp [Pers.adr]))
    · simp at hp; subst hp; exact ⟨c2, r2⟩
  · have e : (b.come ⟨n, fr, [], t, f, u, fv, []⟩).adr = b.adr ++ [t, f, u] := by
      unfold Bk.adr Bk.come
      rw [List.flatMap_append]; rfl
    rw [e, List.nodup_append]
    refine ⟨nd, by simp [fu, ft.symm, ut.symm], fun x hx y hy => ?_⟩
    have hf := hb.foot x hx
    simp only [List.mem_cons, List.not_mem_nil, or_false] at hy
    rcases hy with rfl | rfl | rfl
    · exact fun e => nt (e ▸ hf)
    · exact fun e => nf (e ▸ hf)
    · exact fun e => nu (e ▸ hf)
  · show ((b.ps ++ [_]).map _).Nodup
    rw [List.map_append, List.nodup_append]
    refine ⟨hb.nn, by simp, fun x hx y hy => ?_⟩
    simp at hy; subst hy
    exact fun e => hn (e ▸ hx)
  · show (b.ps ++ [_]).length ≤ 1000
    rw [List.length_append, List.length_singleton]; omega
  · rcases List.mem_append.mp hp with hp | hp
    · exact hb.ok p hp
    · simp at hp; subst hp; exact ⟨hr, ⟨by simp, by simp⟩⟩
theorem adr_dis {x : Addr} : ∀ {ps : List Pers}, (ps.flatMap Pers.adr).Nodup → ∀ {p q : Pers}, p ∈ ps → q ∈ ps → x ∈ p.adr → x ∈ q.adr → p = q
  | [], _, p, q, h, _, _, _ => by cases h
  | y :: ys, nd, p, q, hp, hq, x1, x2 => by
    rw [List.flatMap_cons, List.nodup_append] at nd
    rcases List.mem_cons.mp hp with e | hp
    · rcases List.mem_cons.mp hq with e2 | hq
      · rw [e, e2]
      · exact absurd rfl (nd.2.2 x (e ▸ x1) x (List.mem_flatMap.mpr ⟨q, hq, x2⟩))
    · rcases List.mem_cons.mp hq with e2 | hq
      · exact absurd rfl (nd.2.2 x (e2 ▸ x2) x (List.mem_flatMap.mpr ⟨p, hp, x1⟩))
      · exact adr_dis nd.2.1 hp hq x1 x2
theorem name_inj : ∀ {ps : List Pers}, (ps.map (·.name)).Nodup → ∀ {p q : Pers}, p ∈ ps → q ∈ ps → p.name = q.name → p = q
  | [], _, p, q, h, _, _ => by cases h
  | y :: ys, nd, p, q, hp, hq, e => by
    rw [List.map_cons, List.nodup_cons] at nd
    rcases List.mem_cons.mp hp with e1 | hp
    · rcases List.mem_cons.mp hq with e2 | hq
      · rw [e1, e2]
      · exact absurd (List.mem_map.mpr ⟨q, hq, by rw [← e, e1]⟩) nd.1
    · rcases List.mem_cons.mp hq with e2 | hq
      · exact absurd (List.mem_map.mpr ⟨p, hp, by rw [e, e2]⟩) nd.1
      · exact name_inj nd.2 hp hq e
theorem BkAt.dis {C : Addr} {s : US} {b : Bk} (hb : BkAt C s b) : (b.a ≠ b.kd ∧ b.a ≠ b.bk ∧ b.kd ≠ b.bk) ∧ (∀ p ∈ b.ps, ∀ x ∈ p.adr, x ≠ b.a ∧ x ≠ b.kd ∧ x ≠ b.bk) ∧ (b.ps.flatMap Pers.adr).Nodup := by
  have nd := hb.nd
  unfold Bk.adr at nd
  simp only [List.nodup_cons, List.mem_cons, not_or] at nd
  obtain ⟨⟨h1, h2, h3⟩, ⟨h4, h5⟩, h6, h7⟩ := nd
  refine ⟨⟨h1, h2, h4⟩, fun p hp x hx => ?_, h7⟩
  have hm : x ∈ b.ps.flatMap Pers.adr := List.mem_flatMap.mpr ⟨p, hp, hx⟩
  exact ⟨fun e => h3 (e ▸ hm), fun e => h5 (e ▸ hm), fun e => h6 (e ▸ hm)⟩
theorem busy_get {b : Bk} {n : Str} {r : Rule} {v : V} {q : Pers} (h : q ∈ (b.busy n r v).ps) : ∃ p ∈ b.ps, q = if p.name = n then p.more r v else p := by
  obtain ⟨p, hp, e⟩ := List.mem_map.mp h
  exact ⟨p, hp, e.symm⟩
theorem BkAt.busy {C : Addr} {s : US} {b : Bk} (hb : BkAt C s b) {p : Pers} (hp : p ∈ b.ps) {r : Rule} (v : V) (hg : GoodR r ∧ depth r < 8) (hl : p.bz.length < 20) :
    let s2 := s.put p.u (.lst (p.uv ++ [v])) [(p.uv ++ [v], p.bz.map toD ++ [toD r])]
    BkAt C s2 (b.busy p.name r v) ∧ Keeps s s2 [p.u] := by
  intro s2
  obtain ⟨⟨d1, d2, d3⟩, d4, d5⟩ := hb.dis
  have kk : Keeps s s2 [p.u] := put_keeps
  obtain ⟨e1, e2, e3⟩ := d4 p hp p.u (by simp [Pers.adr])
  have nm : ∀ q : Pers, (if q.name = p.name then q.more r v else q).name = q.name ∧ (if q.name = p.name then q.more r v else q).adr = q.adr ∧ (if q.name = p.name then q.more r v else q).t = q.t := fun q => by split <;> exact ⟨rfl, rfl, rfl⟩
  have ekv : (b.busy p.name r v).kvs = b.kvs := by
    unfold Bk.kvs Bk.busy
    simp only [List.map_map]
    refine List.map_congr_left fun q _ => ?_
    simp only [Function.comp_apply, (nm q).1, (nm q).2.2]
  have eadr : (b.busy p.name r v).adr = b.adr := by
    unfold Bk.adr Bk.busy
    simp only [List.flatMap_map, (nm _).2.1]
  have eq_of : ∀ q ∈ b.ps, q.name = p.name → q = p := fun q hq e => name_inj hb.nn hq hp e
  have nu : ∀ q ∈ b.ps, q ≠ p → q.u ∉ [p.u] := fun q hq ne => by
    simp only [List.mem_singleton]
    intro e
    exact ne (adr_dis d5 hq hp (x := q.u) (by simp [Pers.adr]) (by rw [e]; simp [Pers.adr]))
  have ndp : p.adr.Nodup := by
    have : ∀ {ps : List Pers}, (ps.flatMap Pers.adr).Nodup → p ∈ ps → p.adr.Nodup := by
      intro ps
      induction ps with
      | nil => intro _ h; cases h
      | cons y ys ih =>
        intro nd h
        rw [List.flatMap_cons, List.nodup_append] at nd
        rcases List.mem_cons.mp h with rfl | h
        · exact nd.1
        · exact ih nd.2.1 h
    exact this d5 hp
  have ntu : p.t ≠ p.u ∧ p.f ≠ p.u := by
    simp [Pers.adr] at ndp
    exact ⟨ndp.1.2, ndp.2⟩
  have no : ∀ q ∈ b.ps, q.t ∉ [p.u] ∧ q.f ∉ [p.u] := fun q hq => by
    by_cases e : q = p
    · subst e; simpa using ntu
    · simp only [List.mem_singleton]
      exact ⟨fun z => e (adr_dis d5 hq hp (x := q.t) (by simp [Pers.adr]) (by rw [z]; simp [Pers.adr])), fun z => e (adr_dis d5 hq hp (x := q.f) (by simp [Pers.adr]) (by rw [z]; simp [Pers.adr]))⟩
  refine ⟨⟨kk.cell _ hb.ob (by simpa using fun z => e1 z.symm), ?_, hb.bo.keep kk (by simpa using fun z => e3 z.symm), fun q hq => ?_, fun q hq => ?_, fun q hq => ?_, ?_, ?_, ⟨?_, hb.few.2⟩, fun q hq => ?_, hb.mok⟩, kk⟩
  · rw [ekv]; exact kk.cell _ hb.kn (by simpa using fun z => e2 z.symm)
  · obtain ⟨q0, hq0, rfl⟩ := busy_get hq
    have := kk.cell _ (hb.pt q0 hq0) (no q0 hq0).1
    split <;> exact this
  · obtain ⟨q0, hq0, rfl⟩ := busy_get hq
    have := (hb.pf q0 hq0).keep kk (no q0 hq0).2
    split <;> exact this
  · obtain ⟨q0, hq0, rfl⟩ := busy_get hq
    by_cases e : q0.name = p.name
    · obtain rfl := eq_of q0 hq0 e
      rw [if_pos rfl]
      refine ⟨put_mem (hb.pu q0 hq0).c, ?_⟩
      show (_, List.map toD (q0.bz ++ [r])) ∈ _
      rw [List.map_append]
      exact List.mem_cons_self
    · rw [if_neg e]
      exact (hb.pu q0 hq0).keep kk (nu q0 hq0 fun z => e (by rw [z]))
  · rw [eadr]; exact hb.nd
  · have e : ((b.busy p.name r v).ps.map (·.name)) = b.ps.map (·.name) := by
      unfold Bk.busy
      simp only [List.map_map]
      exact List.map_congr_left fun q _ => (nm q).1
    rw [e]; exact hb.nn
  · show (b.ps.map _).length ≤ 1000
    rw [List.length_map]; exact hb.few.1
  · obtain ⟨q0, hq0, rfl⟩ := busy_get hq
    by_cases e : q0.name = p.name
    · obtain rfl := eq_of q0 hq0 e
      rw [if_pos rfl]
      refine ⟨(hb.ok q0 hq0).1, ?_, fun x hx => ?_⟩
      · show (q0.bz ++ [r]).length ≤ 20
        rw [List.length_append, List.length_singleton]; omega
      · rcases List.mem_append.mp hx with hx | hx
        · exact (hb.ok q0 hq0).2.good x hx
        · simp at hx; subst hx; exact hg
    · rw [if_neg e]; exact hb.ok q0 hq0
theorem BkAt.given {C : Addr} {s : US} {b : Bk} (hb : BkAt C s b) (z : Int) :
    let s2 := s.put b.a (.ins C b.dx (putF "given" (.int z) b.fs)) []
    BkAt C s2 { b with given := z } ∧ Keeps s s2 [b.a] := by
  intro s2
  obtain ⟨⟨d1, d2, d3⟩, d4, d5⟩ := hb.dis
  have kk : Keeps s s2 [b.a] := put_keeps
  have np : ∀ p ∈ b.ps, ∀ x ∈ p.adr, x ∉ [b.a] := fun p hp x hx => by simpa using (d4 p hp x hx).1
  have efs : putF "given" (.int z) b.fs = Bk.fs { b with given := z } := by
    have n1 : ¬ (("known" : Str) = "given") := by decide +kernel
    have n2 : ¬ (("booked" : Str) = "given") := by decide +kernel
    simp [putF, Bk.fs, n1, n2]
  refine ⟨⟨?_, kk.cell _ hb.kn (by simpa using Ne.symm d1), hb.bo.keep kk (by simpa using Ne.symm d2), fun p hp => kk.cell _ (hb.pt p hp) (np p hp _ (by simp [Pers.adr])), fun p hp => (hb.pf p hp).keep kk (np p hp _ (by simp [Pers.adr])), fun p hp => (hb.pu p hp).keep kk (np p hp _ (by simp [Pers.adr])), hb.nd, hb.nn, hb.few, hb.ok, hb.mok⟩, kk⟩
  rw [← efs]; exact put_mem hb.ob
def Bk.more (b : Bk) (m : Meet) (v : V) : Bk := { b with mv := b.mv ++ [v], mt := b.mt ++ [m] }
theorem BkAt.more {C : Addr} {s : US} {b : Bk} (hb : BkAt C s b) (m : Meet) (hm : m.ok) (hl : b.mt.length < 1000) (v : V) :
    let s2 := s.put b.bk (.lst (b.mv ++ [v])) [(b.mv ++ [v], b.mt.map Meet.d ++ [m.d])]
    BkAt C s2 (b.more m v) ∧ Keeps s s2 [b.bk] := by
  intro s2
  obtain ⟨⟨d1, d2, d3⟩, d4, d5⟩ := hb.dis
  have kk : Keeps s s2 [b.bk] := put_keeps
  have np : ∀ p ∈ b.ps, ∀ x ∈ p.adr, x ∉ [b.bk] := fun p hp x hx => by simpa using (d4 p hp x hx).2.2
  refine ⟨⟨kk.cell _ hb.ob (by show b.a ∉ [b.bk]; simpa using d2), kk.cell _ hb.kn (by show b.kd ∉ [b.bk]; simpa using d3), ⟨put_mem hb.bo.c, ?_⟩, fun p hp => kk.cell _ (hb.pt p hp) (np p hp _ (by simp [Pers.adr])), fun p hp => (hb.pf p hp).keep kk (np p hp _ (by simp [Pers.adr])), fun p hp => (hb.pu p hp).keep kk (np p hp _ (by simp [Pers.adr])), hb.nd, hb.nn, ⟨hb.few.1, ?_⟩, hb.ok, fun x hx => ?_⟩, kk⟩
  · show (b.mv ++ [v], (b.mt ++ [m]).map Meet.d) ∈ _
    rw [List.map_append]
    exact List.mem_cons_self
  · show (b.mt ++ [m]).length ≤ 1000
    rw [List.length_append, List.length_singleton]; omega
  · rcases List.mem_append.mp hx with hx | hx
    · exact hb.mok x hx
    · simp at hx; subst hx; exact hm

def letN (i : Int) : Nat := LETS.getD i.toNat 0
def nmS (f : Nat → Int) (n : Nat) : Str := ⟨((List.range n).map fun t => letN (f t)).toArray⟩
def nmA (sh : Int) (t : Nat) : Int := (sh / 6 + (0 + (t : Int)) * (1 + sh / 150 % 5)) % 25
def nmB (sh c k : Int) (t : Nat) : Int := if (0 + (t : Int)) = sh / 2 % 12 then sh / 24 % 2 * 13 + k else (c / 288 + (0 + (t : Int)) * (1 + c % 5)) % 26
def nmC (sh c : Int) : Int := if sh % 2 = 1 then sh / 48 else c
def nameOf (sh c k : Int) : Str := if sh % 6 = 4 then nmS (nmA sh) (k + 1).toNat else nmS (nmB sh (nmC sh c) k) (sh / 2 % 12 + 1 + nmC sh c / 24 % (12 - sh / 2 % 12)).toNat
theorem lets_len : LETS.length = 26 := by decide +kernel
theorem letN_mem {i : Int} (h1 : 0 ≤ i) (h2 : i < 26) : letN i ∈ LETS := by
  unfold letN
  rw [List.getD_eq_getElem?_getD, List.getElem?_eq_getElem (by rw [lets_len]; omega)]
  exact List.getElem_mem _
theorem letN_at {i : Int} (h1 : 0 ≤ i) (h2 : i < 26) : atI LETS i = some (letN i) := by
  have e : i = ((i.toNat : Nat) : Int) := by omega
  have hl : i.toNat < LETS.length := by rw [lets_len]; omega
  unfold letN
  rw [List.getD_eq_getElem?_getD, List.getElem?_eq_getElem hl]
  have h : atI LETS ((i.toNat : Nat) : Int) = some LETS[i.toNat] := atI_nat (List.getElem?_eq_getElem hl)
  rw [← e] at h
  exact h
theorem letN_inj {i j : Int} (h1 : 0 ≤ i) (h2 : i < 26) (h3 : 0 ≤ j) (h4 : j < 26) (e : letN i = letN j) : i = j := by
  have nd : ∀ a b : Fin 26, letN (a.1 : Int) = letN (b.1 : Int) → a = b := by decide +kernel
  have := nd ⟨i.toNat, by omega⟩ ⟨j.toNat, by omega⟩ (by
    show letN ((i.toNat : Nat) : Int) = letN ((j.toNat : Nat) : Int)
    rw [show ((i.toNat : Nat) : Int) = i by omega, show ((j.toNat : Nat) : Int) = j by omega]; exact e)
  have := congrArg Fin.val this
  simp only at this
  omega
theorem nmS_len (f : Nat → Int) (n : Nat) : (nmS f n).length = n := by
  show ((List.range n).map fun t => letN (f t)).toArray.size = n
  rw [List.size_toArray, List.length_map, List.length_range]
theorem nmS_succ (f : Nat → Int) (n : Nat) : nmS f n ++ (⟨#[letN (f n)]⟩ : Str) = nmS f (n + 1) := by
  show (⟨((List.range n).map fun t => letN (f t)).toArray ++ #[letN (f n)]⟩ : Str) = ⟨_⟩
  congr 1
  rw [List.range_succ, List.map_append]
  simp
theorem nmS_good {f : Nat → Int} {n : Nat} (h1 : 1 ≤ n) (h2 : n ≤ 12) (hf : ∀ t, t < n → 0 ≤ f t ∧ f t < 26) : nameB (.str (nmS f n)) = true := by
  show ((decide (1 ≤ ((nmS f n).length : Int)) && decide (((nmS f n).length : Int) ≤ 12)) && (nmS f n).cps.toList.all fun c => decide (c ∈ LETS)) = true
  rw [nmS_len, decide_eq_true (by omega), decide_eq_true (by omega)]
  refine List.all_eq_true.mpr fun c hc => ?_
  have hc : c ∈ (List.range n).map fun t => letN (f t) := hc
  obtain ⟨t, ht, rfl⟩ := List.mem_map.mp hc
  exact decide_eq_true (letN_mem (hf t (List.mem_range.mp ht)).1 (hf t (List.mem_range.mp ht)).2)
theorem nmA_in (sh : Int) (t : Nat) : 0 ≤ nmA sh t ∧ nmA sh t < 26 := by unfold nmA; omega
theorem nmB_in (sh c : Int) {k : Int} (t : Nat) (h1 : 0 ≤ k) (h2 : k ≤ 12) : 0 ≤ nmB sh c k t ∧ nmB sh c k t < 26 := by unfold nmB; split <;> omega
theorem nlen (sh c : Int) : 1 ≤ sh / 2 % 12 + 1 + c / 24 % (12 - sh / 2 % 12) ∧ sh / 2 % 12 + 1 + c / 24 % (12 - sh / 2 % 12) ≤ 12 := by
  have h1 : 0 ≤ sh / 2 % 12 ∧ sh / 2 % 12 < 12 := by omega
  have h2 := Int.emod_nonneg (c / 24) (show 12 - sh / 2 % 12 ≠ 0 by omega)
  have h3 := Int.emod_lt_of_pos (c / 24) (show 0 < 12 - sh / 2 % 12 by omega)
  omega
theorem nameOf_good (sh c : Int) {k : Int} (h1 : 0 ≤ k) (h2 : k ≤ 11) : nameB (.str (nameOf sh c k)) = true ∧ (nameOf sh c k).length ≤ 12 := by
  unfold nameOf
  split
  · exact ⟨nmS_good (by omega) (by omega) fun t _ => nmA_in sh t, by rw [nmS_len]; omega⟩
  · have := nlen sh (nmC sh c)
    exact ⟨nmS_good (by omega) (by omega) fun t _ => nmB_in sh _ t h1 (by omega), by rw [nmS_len]; omega⟩
theorem nmS_at {f g : Nat → Int} {n m t : Nat} (e : nmS f n = nmS g m) (hn : t < n) (hm : t < m) : letN (f t) = letN (g t) := by
  have e : ((List.range n).map fun t => letN (f t)).toArray = ((List.range m).map fun t => letN (g t)).toArray := congrArg Str.cps e
  have e : ((List.range n).map fun t => letN (f t)) = ((List.range m).map fun t => letN (g t)) := congrArg Array.toList e
  have := congrArg (fun l => l[t]?) e
  simp only [List.getElem?_map, List.getElem?_range hn, List.getElem?_range hm, Option.map_some, Option.some.injEq] at this
  exact this
theorem nameOf_inj {sh c1 c2 k1 k2 : Int} (h1 : 0 ≤ k1) (h2 : k1 ≤ 11) (h3 : 0 ≤ k2) (h4 : k2 ≤ 11) (e : nameOf sh c1 k1 = nameOf sh c2 k2) : k1 = k2 := by
  unfold nameOf at e
  by_cases hs : sh % 6 = 4
  · rw [if_pos hs, if_pos hs] at e
    have := congrArg Str.length e
    rw [nmS_len, nmS_len] at this
    omega
  · rw [if_neg hs, if_neg hs] at e
    have n1 := nlen sh (nmC sh c1)
    have n2 := nlen sh (nmC sh c2)
    have hp : 0 ≤ sh / 2 % 12 := by omega
    have a1 := Int.emod_nonneg (nmC sh c1 / 24) (show 12 - sh / 2 % 12 ≠ 0 by omega)
    have a2 := Int.emod_nonneg (nmC sh c2 / 24) (show 12 - sh / 2 % 12 ≠ 0 by omega)
    have := nmS_at (t := (sh / 2 % 12).toNat) e (by omega) (by omega)
    unfold nmB at this
    rw [if_pos (by omega), if_pos (by omega)] at this
    have := letN_inj (by omega) (by omega) (by omega) (by omega) this
    omega
theorem plainBy_good {c0 c1 c2 far most : Int} (h1 : 0 ≤ far) (h2 : far ≤ 999999999800) (h3 : 1 ≤ most) (h4 : most ≤ 48) : GoodR (plainBy c0 c1 c2 far most) := by
  have m1 := Int.emod_nonneg (c0 / 4) (show most ≠ 0 by omega)
  have m2 := Int.emod_lt_of_pos (c0 / 4) (show 0 < most by omega)
  unfold plainBy
  split
  · exact ⟨⟨by omega, by omega⟩, by omega, by omega⟩
  split
  · exact ⟨⟨by omega, by omega⟩, ⟨by omega, by omega⟩, by omega, by omega⟩
  split
  · have := wd_good (b := 1 + c2 % 127) (by omega) (by omega)
    exact ⟨⟨this.1, wd_ne (by omega) (by omega), fun d hd => small_of (by have := this.2.1 d hd; omega) (by have := this.2.1 d hd; omega), by have := this.2.2; omega⟩, by omega, by omega, by omega⟩
  · refine ⟨⟨?_, ?_⟩, by omega, by omega, by omega⟩
    all_goals
      unfold monthDay
      by_cases hc : c2 / 62 % 2 = 1
      · simp only [if_pos hc]
        have h : ∀ n : Fin 10, let d := ([-1, 0, 30, 29, 28, -31, -30, -29, -28, 27] : List Int).getD n.1 0; (-31 ≤ d + (if decide (0 ≤ d) = true then 1 else 0) ∧ d + (if decide (0 ≤ d) = true then 1 else 0) ≤ 31) ∧ d + (if decide (0 ≤ d) = true then 1 else 0) ≠ 0 := by decide
        have := h ⟨(c2 / 124 % 10).toNat, by omega⟩
        first | exact this.1 | exact this.2
      · simp only [if_neg hc]
        by_cases h0 : 0 ≤ c2 % 62 - 31
        · rw [decide_eq_true h0]; simp; omega
        · rw [decide_eq_false h0]; simp; omega
theorem plainBy_depth (c0 c1 c2 far most : Int) : depth (plainBy c0 c1 c2 far most) = 0 := by
  unfold plainBy; split <;> (try split) <;> (try split) <;> rfl
def cw (ns : List Int) (k : Int) : Int := if ns = [] then 0 else ns.getD (k % (ns.length : Int)).toNat 0 + k / (ns.length : Int) * 31
def freeBy (c0 c1 c2 far : Int) : Rule :=
  if c0 / 20 % 8 = 1 then .every (far + c1 % 6) (24 + c0 / 160 % 25) (1 + c2 % 60)
  else if c0 % 4 < 2 then .every (far + c1 % 6) (1 + c0 / 4 % 5) (1 + c2 % 9)
  else if c0 % 4 = 2 then .week (wd (1 + c2 % 127)) (c1 % 24) (1 + c0 / 4 % 5 + 4)
  else plainBy c0 c1 c2 far 5
theorem freeBy_good {c0 c1 c2 far : Int} (h1 : 0 ≤ far) (h2 : far ≤ 999999999800) : GoodR (freeBy c0 c1 c2 far) ∧ depth (freeBy c0 c1 c2 far) = 0 := by
  unfold freeBy
  split
  · exact ⟨⟨⟨by omega, by omega⟩, ⟨by omega, by omega⟩, by omega, by omega⟩, rfl⟩
  split
  · exact ⟨⟨⟨by omega, by omega⟩, ⟨by omega, by omega⟩, by omega, by omega⟩, rfl⟩
  split
  · have := wd_good (b := 1 + c2 % 127) (by omega) (by omega)
    exact ⟨⟨⟨this.1, wd_ne (by omega) (by omega), fun d hd => small_of (by have := this.2.1 d hd; omega) (by have := this.2.1 d hd; omega), by have := this.2.2; omega⟩, by omega, by omega, by omega⟩, rfl⟩
  · exact ⟨plainBy_good h1 h2 (by decide) (by decide), plainBy_depth _ _ _ _ _⟩
def headBy (c far : Int) (r : Rule) : Rule :=
  if c % 4 = 0 then .fr (far + c / 4 % 70) r
  else if c % 4 = 1 then .un (far + c / 4 % 70) r
  else if c % 4 = 2 then .al (far + c / 4 % 70) r
  else .bu ((List.range (([1, 2, 5, 20] : List Int).getD (c / 280 % 4).toNat 0).toNat).map fun k : Nat => (far + c / 4 % 70) / 24 + (0 + (k : Int)) * (1 + c / 1120 % 3)) r
theorem headBy_good {c far : Int} {r : Rule} (f1 : 0 ≤ far) (f2 : far ≤ 999999999800) (g : GoodR r) : GoodR (headBy c far r) := by
  have hb : ∀ i : Nat, i < 4 → 1 ≤ ([1, 2, 5, 20] : List Int).getD i 0 ∧ ([1, 2, 5, 20] : List Int).getD i 0 ≤ 20 := by decide
  have hb := hb (c / 280 % 4).toNat (by omega)
  have hT : InT (far + c / 4 % 70) := ⟨by omega, by omega⟩
  unfold headBy
  split
  · exact ⟨hT, g⟩
  split
  · exact ⟨hT, g⟩
  split
  · exact ⟨hT, g⟩
  · generalize ([1, 2, 5, 20] : List Int).getD (c / 280 % 4).toNat 0 = M at *
    have hS : 1 + c / 1120 % 3 = 1 ∨ 1 + c / 1120 % 3 = 2 ∨ 1 + c / 1120 % 3 = 3 := by omega
    have hD : 0 ≤ (far + c / 4 % 70) / 24 ∧ (far + c / 4 % 70) / 24 + M * 3 ≤ 100000000000 := by omega
    refine ⟨?_, g⟩
    generalize (far + c / 4 % 70) / 24 = D at *
    generalize 1 + c / 1120 % 3 = S at *
    have hl : ((List.range M.toNat).map fun k : Nat => D + (0 + (k : Int)) * S).length = M.toNat := by rw [List.length_map, List.length_range]
    have hr := rowGo_steps 100000000000 S (by omega) M.toNat D (-1) (by omega) (by rcases hS with rfl | rfl | rfl <;> omega)
    refine ⟨?_, ?_, ?_, ?_⟩
    · show (decide (1 ≤ ((((List.range M.toNat).map fun k : Nat => D + (0 + (k : Int)) * S).map PyData.int).length : Int)) && decide (((((List.range M.toNat).map fun k : Nat => D + (0 + (k : Int)) * S).map PyData.int).length : Int) ≤ 20) && rowGo 100000000000 (-1) _) = true
      rw [hr, List.length_map, hl, decide_eq_true (by omega), decide_eq_true (by omega)]; rfl
    · intro z
      have z := congrArg List.length z
      rw [hl, List.length_nil] at z
      omega
    · intro d hd
      obtain ⟨k, hk, rfl⟩ := List.mem_map.mp hd
      have hk := List.mem_range.mp hk
      rcases hS with rfl | rfl | rfl <;> exact small_of (by omega) (by omega)
    · rw [hl]; omega
theorem headBy_size (c far : Int) (r : Rule) : size (headBy c far r) = size r ∧ depth (headBy c far r) = depth r + 1 := by
  unfold headBy; split <;> (try split) <;> (try split) <;> exact ⟨rfl, rfl⟩
structure One where
  name : Str
  fr : List Rule
  bz : List Rule
@[reducible] def oneD (o : One) : PyData := .list [.str o.name, .list (o.fr.map toD), .list (o.bz.map toD), .list []]
structure OneOk (o : One) : Prop where
  nm : nameB (.str o.name) = true
  nl : o.name.length ≤ 12
  fr : RuOk o.fr
  bz : RuOk o.bz
  f2 : o.fr.length ≤ 2
  b2 : o.bz.length ≤ 2
def Pers.one (p : Pers) : One := ⟨p.name, p.fr, p.bz⟩
def One.more (o : One) (r : Rule) : One := { o with bz := o.bz ++ [r] }
theorem busy_one {b : Bk} {n : Str} {r : Rule} {v : V} : (b.busy n r v).ps.map Pers.one = (b.ps.map Pers.one).map fun o => if o.name = n then o.more r else o := by
  unfold Bk.busy
  simp only [List.map_map]
  refine List.map_congr_left fun q _ => ?_
  show Pers.one (if q.name = n then _ else q) = if q.name = n then _ else _
  split <;> rfl
theorem more_last {os : List One} {o : One} {r : Rule} (h : o.name ∉ os.map One.name) : (os ++ [o]).map (fun x => if x.name = o.name then x.more r else x) = os ++ [o.more r] := by
  rw [List.map_append]
  congr 1
  · conv => rhs; rw [← List.map_id os]
    refine List.map_congr_left fun x hx => ?_
    rw [if_neg fun e => h (by rw [← e]; exact List.mem_map_of_mem hx)]; rfl
  · simp
theorem _root_.Pd.Keeps.new {s s1 s2 : US} {own : List Addr} (k1 : Keeps s s1 []) (k2 : Keeps s1 s2 own) (n : ∀ x ∈ own, x ∉ s.foot) : Keeps s s2 [] :=
  ⟨fun c hc _ => k2.cell c (k1.cell c hc (by simp)) fun m => n _ m (List.mem_map_of_mem hc), fun r hr => k2.rel r (k1.rel r hr)⟩
theorem _root_.Pd.Keeps.foot {s s1 : US} (k : Keeps s s1 []) : ∀ x ∈ s.foot, x ∈ s1.foot := fun x hx => by
  obtain ⟨c, hc, rfl⟩ := List.mem_map.mp hx
  exact List.mem_map_of_mem (k.cell c hc (by simp))
def freeO (o : One) (x : Int) : Bool := o.fr.any (fun r => covers r x) && !o.bz.any (fun r => covers r x)
theorem open_one (p : Pers) (x : Int) : openB [] p x 0 = freeO p.one x := by unfold openB; simp [freeB, freeO, Pers.one]
def rowO (o : One) (low : Int) (n : Nat) : List Bool := (List.range n).map fun k : Nat => freeO o (low + (k : Int))
def allO (os : List One) (x h : Int) : Bool := (List.range h.toNat).all fun k : Nat => os.all fun o => freeO o (x + (k : Int))
def firstD (os : List One) (h st en : Int) : PyData := match (List.range (en - st - h + 1).toNat).find? (fun k : Nat => allO os (st + (k : Int)) h) with
  | some k => .int (st + (k : Int))
  | none => .none
theorem allO_iff {ps : List Pers} {x h : Int} : allO (ps.map Pers.one) x h = true ↔ AllOpen [] ps x h 0 := by
  unfold allO AllOpen
  rw [List.all_eq_true]
  constructor
  · intro H k k1 k2 p hp
    have := H k.toNat (List.mem_range.mpr (by omega))
    rw [List.all_eq_true] at this
    rw [open_one]
    have h2 := this _ (List.mem_map_of_mem hp)
    rwa [show (k.toNat : Int) = k by omega] at h2
  · intro H k hk
    have hk := List.mem_range.mp hk
    rw [List.all_eq_true]
    intro o ho
    obtain ⟨p, hp, rfl⟩ := List.mem_map.mp ho
    rw [← open_one]
    exact H k (by omega) (by omega) p hp
theorem find_none {q : Nat → Bool} {n : Nat} (h : ∀ k, k < n → q k = false) : (List.range n).find? q = none := List.find?_eq_none.mpr fun k hk => by rw [h k (List.mem_range.mp hk)]; simp
theorem find_at {q : Nat → Bool} {n m : Nat} (hm : m < n) (h1 : q m = true) (h : ∀ k, k < m → q k = false) : (List.range n).find? q = some m := by
  rw [List.find?_range_eq_some]
  exact ⟨h1, List.mem_range.mpr hm, fun k hk => by rw [h k hk]; rfl⟩
theorem Found.first {ps : List Pers} {h st en : Int} {f : PyData} {rs : List PyData} (F : Found [] ps h st en 0 f rs) : f = firstD (ps.map Pers.one) h st en := by
  obtain ⟨y, hr, hy⟩ := F.ex
  have hle : st ≤ y := by have := hr.len.1; omega
  have hn : ∀ k : Nat, k < (y - st).toNat → allO (ps.map Pers.one) (st + (k : Int)) h = false := fun k hk => by
    rw [← Bool.not_eq_true]
    exact fun z => hr.none (st + (k : Int)) (by omega) (by omega) (allO_iff.mp z)
  unfold firstD
  rcases hy with ⟨h1, h2, rfl⟩ | ⟨h1, rfl⟩
  · rw [find_at (m := (y - st).toNat) (by omega) (by rw [show st + (((y - st).toNat : Nat) : Int) = y by omega]; exact allO_iff.mpr h2) hn]
    simp only [PyData.int.injEq]; omega
  · rw [find_none fun k hk => hn k (by omega)]
theorem set_range {n j : Nat} {f : Nat → PyData} {d : PyData} (hj : j < n) : ((List.range n).map f).set j d = (List.range n).map fun k => if k = j then d else f k := by
  refine List.ext_getElem? fun k => ?_
  rw [List.getElem?_set]
  by_cases hk : k < n
  · by_cases e : j = k
    · subst e
      rw [if_pos rfl, if_pos (by rw [List.length_map, List.length_range]; exact hk), List.getElem?_map, List.getElem?_range hk]
      simp
    · rw [if_neg e, List.getElem?_map, List.getElem?_map, List.getElem?_range hk]
      have e2 : ¬ k = j := fun z => e z.symm
      simp [e2]
  · have e : ¬ j = k := by omega
    rw [if_neg e, List.getElem?_eq_none (by rw [List.length_map, List.length_range]; omega), List.getElem?_eq_none (by rw [List.length_map, List.length_range]; omega)]
theorem rep_one (n : Nat) (d : PyData) : (List.replicate n [d]).flatten = (List.range n).map fun _ => d := by
  induction n with
  | zero => rfl
  | succ n ih => rw [List.replicate_succ, List.flatten_cons, ih, List.range_succ_eq_map, List.map_cons, List.map_map]; rfl
theorem cut_mem {ds : List PyData} {lo hi : Option Int} {d : PyData} (h : d ∈ cutD ds lo hi) : d ∈ ds := by
  unfold cutD at h
  exact List.mem_of_mem_drop (List.mem_of_mem_take h)
theorem cut_range {n i h : Nat} {b : Int} {g : Nat → PyData} (hb : b = (i : Int) + h) (hn : i + h ≤ n) (a : (0 : Int) + (i : Int) = i) : cutD ((List.range n).map g) (some (0 + (i : Int))) (some b) = (List.range h).map fun k => g (i + k) := by
  subst hb
  have hl : ((List.range n).map g).length = n := by rw [List.length_map, List.length_range]
  have e1 : HT.sIx n 0 (some (0 + (i : Int))) = i := by rw [Int.zero_add, HT.sIx_nat]; omega
  have e2 : HT.sIx n n (some ((i : Int) + h)) = i + h := by rw [← Int.natCast_add, HT.sIx_nat]; omega
  unfold cutD
  rw [hl, e1, e2, show i + h - i = h by omega]
  refine List.ext_getElem? fun k => ?_
  rw [List.getElem?_take]
  by_cases hk : k < h
  · rw [if_pos hk, List.getElem?_drop, List.getElem?_map, List.getElem?_range (by omega), List.getElem?_map, List.getElem?_range hk]; rfl
  · rw [if_neg hk, List.getElem?_eq_none (by rw [List.length_map, List.length_range]; omega)]
theorem cut_drop {α : Type} {f : α → PyData} {xs : List α} {i : Int} (h1 : 0 ≤ i) (h2 : i ≤ xs.length) : cutD (xs.map f) (some i) none = (xs.drop i.toNat).map f := by
  have e : HT.sIx (xs.map f).length 0 (some i) = i.toNat := by
    have : i = ((i.toNat : Nat) : Int) := by omega
    rw [this, HT.sIx_nat, List.length_map]; omega
  unfold cutD
  rw [e, HT.sIx_none, ← List.map_drop, List.take_of_length_le]
  rw [List.length_map, List.length_drop, List.length_map]; exact Nat.le_refl _
theorem lay_strs : ∀ {ns : List Str}, (∀ n ∈ ns, PyData.strOk n = true) → PyData.canLayAll0 (ns.map .str) = true
  | [], _ => rfl
  | n :: ns, h => by
    have h1 := h n List.mem_cons_self
    have h2 := lay_strs (ns := ns) fun m hm => h m (List.mem_cons_of_mem _ hm)
    simp [PyData.canLayAll0, PyData.canLay0, h1, h2]
theorem name_str {t : Str} (h : nameB (.str t) = true) : PyData.strOk t = true := by
  have h : ((decide (1 ≤ (t.length : Int)) && decide ((t.length : Int) ≤ 12)) && t.cps.toList.all fun c => decide (c ∈ LETS)) = true := h
  rw [Bool.and_eq_true, List.all_eq_true] at h
  have small : ∀ c ∈ LETS, c < 1114112 := by decide +kernel
  show (t.cps.all fun c => decide (c < 1114112)) = true
  rw [← Array.all_toList, List.all_eq_true]
  exact fun c hc => decide_eq_true (small c (of_decide_eq_true (h.2 c hc)))
theorem depth_strs : ∀ ns : List Str, PyData.depthAll (ns.map .str) = 0
  | [] => rfl
  | n :: ns => by simp [PyData.depthAll, PyData.depth, depth_strs ns]
theorem shaped_strs {ns : List Str} (h : ∀ n ∈ ns, PyData.strOk n = true) : SeqAt.shaped (.list (ns.map .str)) = true := by
  unfold SeqAt.shaped
  have e1 : PyData.canLay0 (.list (ns.map .str)) = true := by simpa only [PyData.canLay0] using lay_strs h
  have e2 : PyData.depth (.list (ns.map .str)) = 1 := by simp only [PyData.depth, depth_strs]
  rw [e1, e2]; rfl

/-! the law's people: rows in cells -/
structure PRow where
  name : Str
  fr : List Rule
  bz : List Rule
  mt : List (Int × Int)
  r : Addr
  f : Addr
  t : Addr
  m : Addr
  fv : List V
  tv : List V
  mv : List V
@[reducible] def pairD (x : Int × Int) : PyData := .tuple [.int x.1, .int x.2]
def PRow.adr (x : PRow) : List Addr := [x.r, x.f, x.t, x.m]
def PRow.cell (x : PRow) : List V := [.str x.name, .ref x.f, .ref x.t, .ref x.m]
def PRow.one (x : PRow) : One := ⟨x.name, x.fr, x.bz⟩
def PRow.key (x : PRow) : One × List Addr := (x.one, x.adr)
structure RowAt (s : US) (x : PRow) : Prop where
  c : (x.r, HO.lst x.cell) ∈ s.cells
  f : LsU s x.f x.fv (x.fr.map toD)
  t : LsU s x.t x.tv (x.bz.map toD)
  m : LsU s x.m x.mv (x.mt.map pairD)
def refsR (xs : List PRow) : List V := xs.map fun x => V.ref x.r
def peAdr (q : Addr) (xs : List PRow) : List Addr := q :: xs.flatMap PRow.adr
structure PeAt (s : US) (q : Addr) (xs : List PRow) : Prop where
  li : (q, HO.lst (refsR xs)) ∈ s.cells
  ro : ∀ x ∈ xs, RowAt s x
  nd : (peAdr q xs).Nodup
structure RowOk (x : PRow) : Prop where
  nm : nameB (.str x.name) = true
  nl : x.name.length ≤ 12
  fr : RuOk x.fr
  bz : RuOk x.bz
theorem RowAt.keep {s s2 : US} {x : PRow} {own : List Addr} (h : RowAt s x) (k : Keeps s s2 own) (n : ∀ a ∈ x.adr, a ∉ own) : RowAt s2 x :=
  ⟨k.cell _ h.c (n _ (by simp [PRow.adr])), h.f.keep k (n _ (by simp [PRow.adr])), h.t.keep k (n _ (by simp [PRow.adr])), h.m.keep k (n _ (by simp [PRow.adr]))⟩
theorem mem_pe {q : Addr} {xs : List PRow} {x : PRow} (hx : x ∈ xs) {a : Addr} (ha : a ∈ x.adr) : a ∈ peAdr q xs := List.mem_cons_of_mem _ (List.mem_flatMap.mpr ⟨x, hx, ha⟩)
theorem PeAt.keep {s s2 : US} {q : Addr} {xs : List PRow} {own : List Addr} (h : PeAt s q xs) (k : Keeps s s2 own) (n : ∀ a ∈ peAdr q xs, a ∉ own) : PeAt s2 q xs :=
  ⟨k.cell _ h.li (n q List.mem_cons_self), fun x hx => (h.ro x hx).keep k fun a ha => n a (mem_pe hx ha), h.nd⟩
theorem RowAt.foot {s : US} {x : PRow} (h : RowAt s x) : ∀ a ∈ x.adr, a ∈ s.foot := fun a ha => by
  simp only [PRow.adr, List.mem_cons, List.not_mem_nil, or_false] at ha
  rcases ha with rfl | rfl | rfl | rfl
  · exact in_foot h.c
  · exact in_foot h.f.c
  · exact in_foot h.t.c
  · exact in_foot h.m.c
theorem PeAt.foot {s : US} {q : Addr} {xs : List PRow} (h : PeAt s q xs) : ∀ a ∈ peAdr q xs, a ∈ s.foot := fun a ha => by
  rcases List.mem_cons.mp ha with rfl | ha
  · exact in_foot h.li
  · obtain ⟨x, hx, ha⟩ := List.mem_flatMap.mp ha
    exact (h.ro x hx).foot a ha
theorem row_dis {a : Addr} : ∀ {xs : List PRow}, (xs.flatMap PRow.adr).Nodup → ∀ {x y : PRow}, x ∈ xs → y ∈ xs → a ∈ x.adr → a ∈ y.adr → x = y
  | [], _, x, y, h, _, _, _ => by cases h
  | z :: zs, nd, x, y, hx, hy, a1, a2 => by
    rw [List.flatMap_cons, List.nodup_append] at nd
    rcases List.mem_cons.mp hx with e | hx
    · rcases List.mem_cons.mp hy with e2 | hy
      · rw [e, e2]
      · exact absurd rfl (nd.2.2 a (e ▸ a1) a (List.mem_flatMap.mpr ⟨y, hy, a2⟩))
    · rcases List.mem_cons.mp hy with e2 | hy
      · exact absurd rfl (nd.2.2 a (e2 ▸ a2) a (List.mem_flatMap.mpr ⟨x, hx, a1⟩))
      · exact row_dis nd.2.1 hx hy a1 a2
theorem row_nd {x : PRow} : ∀ {xs : List PRow}, (xs.flatMap PRow.adr).Nodup → x ∈ xs → x.adr.Nodup
  | [], _, h => by cases h
  | z :: zs, nd, hx => by
    rw [List.flatMap_cons, List.nodup_append] at nd
    rcases List.mem_cons.mp hx with rfl | hx
    · exact nd.1
    · exact row_nd nd.2.1 hx
def putR (x y : PRow) (xs : List PRow) : List PRow := xs.map fun z => if z.r = x.r then y else z
theorem putR_mem {x y z : PRow} {xs : List PRow} (h : z ∈ putR x y xs) : z = y ∨ (z ∈ xs ∧ z.r ≠ x.r) := by
  obtain ⟨w, hw, rfl⟩ := List.mem_map.mp h
  split
  · exact .inl rfl
  · rename_i n; exact .inr ⟨hw, n⟩
theorem putR_id {x y : PRow} {xs : List PRow} (h : ∀ z ∈ xs, z.r ≠ x.r) : putR x y xs = xs := by
  unfold putR
  conv => rhs; rw [← List.map_id xs]
  exact List.map_congr_left fun z hz => by rw [if_neg (h z hz)]; rfl
theorem putR_nd {x y : PRow} (hy : y.adr.Nodup) : ∀ {xs : List PRow}, (xs.flatMap PRow.adr).Nodup → x ∈ xs → (∀ a ∈ y.adr, a ∈ x.adr ∨ a ∉ xs.flatMap PRow.adr) → ((putR x y xs).flatMap PRow.adr).Nodup
  | [], _, h, _ => by cases h
  | z :: zs, nd, hx, hn => by
    have nd0 := nd
    rw [List.flatMap_cons, List.nodup_append] at nd
    have hsub : ∀ a ∈ (putR x y zs).flatMap PRow.adr, a ∈ y.adr ∨ a ∈ zs.flatMap PRow.adr := fun a ha => by
      obtain ⟨w, hw, ha2⟩ := List.mem_flatMap.mp ha
      rcases putR_mem hw with e | ⟨hw2, _⟩
      · exact .inl (e ▸ ha2)
      · exact .inr (List.mem_flatMap.mpr ⟨w, hw2, ha2⟩)
    show ((if z.r = x.r then y else z) :: putR x y zs).flatMap PRow.adr |>.Nodup
    by_cases e : z.r = x.r
    · have ez : x = z := row_dis nd0 hx List.mem_cons_self (a := x.r) (by simp [PRow.adr]) (by rw [← e]; simp [PRow.adr])
      have ni : ∀ w ∈ zs, w.r ≠ x.r := fun w hw ew => by
        exact nd.2.2 z.r (by simp [PRow.adr]) w.r (List.mem_flatMap.mpr ⟨w, hw, by simp [PRow.adr]⟩) (by rw [ew, e])
      rw [if_pos e, putR_id ni, List.flatMap_cons, List.nodup_append]
      refine ⟨hy, nd.2.1, fun a ha c hc => ?_⟩
      rintro rfl
      rcases hn a ha with h | h
      · exact nd.2.2 a (ez ▸ h) a hc rfl
      · exact h (by rw [List.flatMap_cons]; exact List.mem_append_right _ hc)
    · have hx' : x ∈ zs := by
        rcases List.mem_cons.mp hx with rfl | hx
        · exact absurd rfl e
        · exact hx
      rw [if_neg e, List.flatMap_cons, List.nodup_append]
      refine ⟨nd.1, putR_nd hy nd.2.1 hx' (fun a ha => ?_), fun a ha c hc => ?_⟩
      · rcases hn a ha with h | h
        · exact .inl h
        · exact .inr fun z => h (by rw [List.flatMap_cons]; exact List.mem_append_right _ z)
      · rintro rfl
        rcases hsub a hc with h | h
        · rcases hn a h with h2 | h2
          · exact nd.2.2 a ha a (List.mem_flatMap.mpr ⟨x, hx', h2⟩) rfl
          · exact h2 (by rw [List.flatMap_cons]; exact List.mem_append_left _ ha)
        · exact nd.2.2 a ha a h rfl
theorem refs_put {x y : PRow} {xs : List PRow} (hr : y.r = x.r) : refsR (putR x y xs) = refsR xs := by
  unfold refsR putR
  rw [List.map_map]
  refine List.map_congr_left fun z _ => ?_
  show V.ref (if z.r = x.r then y else z).r = V.ref z.r
  split
  · rename_i e; rw [hr, e]
  · rfl
/-- one row is changed, in its own cells or in new ones -/
theorem PeAt.upd {s s2 : US} {q : Addr} {xs : List PRow} {x y : PRow} {own : List Addr} (h : PeAt s q xs) (hx : x ∈ xs) (k : Keeps s s2 own) (ho : ∀ a ∈ own, a ∈ x.adr) (hr : y.r = x.r) (hy : RowAt s2 y) (hyn : y.adr.Nodup) (hn : ∀ a ∈ y.adr, a ∈ x.adr ∨ a ∉ s.foot) : PeAt s2 q (putR x y xs) := by
  have nd := h.nd
  unfold peAdr at nd
  rw [List.nodup_cons] at nd
  have hq : q ∉ own := fun m => nd.1 (List.mem_flatMap.mpr ⟨x, hx, ho q m⟩)
  refine ⟨by rw [refs_put hr]; exact k.cell _ h.li hq, fun z hz => ?_, ?_⟩
  · rcases putR_mem hz with rfl | ⟨hz, n⟩
    · exact hy
    · refine (h.ro z hz).keep k fun a ha m => n ?_
      rw [row_dis nd.2 hz hx ha (ho a m)]
  · unfold peAdr
    rw [List.nodup_cons]
    have hf : ∀ a ∈ y.adr, a ∈ x.adr ∨ a ∉ xs.flatMap PRow.adr := fun a ha => (hn a ha).imp id fun z m => z (h.foot a (List.mem_cons_of_mem _ m))
    refine ⟨fun m => ?_, putR_nd hyn nd.2 hx hf⟩
    obtain ⟨w, hw, ha⟩ := List.mem_flatMap.mp m
    rcases putR_mem hw with rfl | ⟨hw, _⟩
    · rcases hn q ha with h1 | h1
      · exact nd.1 (List.mem_flatMap.mpr ⟨x, hx, h1⟩)
      · exact h1 (in_foot h.li)
    · exact nd.1 (List.mem_flatMap.mpr ⟨w, hw, ha⟩)
/-- a row more -/
theorem PeAt.more {s s2 : US} {q : Addr} {xs : List PRow} {y : PRow} (h : PeAt s q xs) (k : Keeps s s2 [q]) (hl : (q, HO.lst (refsR xs ++ [.ref y.r])) ∈ s2.cells) (hy : RowAt s2 y) (hyn : y.adr.Nodup) (hn : ∀ a ∈ y.adr, a ∉ s.foot) : PeAt s2 q (xs ++ [y]) := by
  have nd := h.nd
  unfold peAdr at nd
  rw [List.nodup_cons] at nd
  refine ⟨by unfold refsR at hl ⊢; rw [List.map_append]; exact hl, fun z hz => ?_, ?_⟩
  · rcases List.mem_append.mp hz with hz | hz
    · refine (h.ro z hz).keep k fun a ha m => nd.1 (List.mem_flatMap.mpr ⟨z, hz, ?_⟩)
      rw [List.mem_singleton] at m; rw [← m]; exact ha
    · simp at hz; subst hz; exact hy
  · unfold peAdr
    rw [List.flatMap_append, List.nodup_cons, List.nodup_append]
    have e : [y].flatMap PRow.adr = y.adr := by simp
    rw [e]
    refine ⟨fun m => ?_, nd.2, hyn, fun a ha c hc => ?_⟩
    · rcases List.mem_append.mp m with m | m
      · exact nd.1 m
      · exact hn q m (in_foot h.li)
    · rintro rfl
      exact hn a hc (h.foot a (List.mem_cons_of_mem _ ha))
/-! book and rows -/
def metOf (mt : List Meet) (n : Str) : List (Int × Int) := (mt.filter fun m => decide (n ∈ m.who)).map fun m => (m.at_, m.hrs)
structure Corr (b : Bk) (xs : List PRow) : Prop where
  one : b.ps.map Pers.one = xs.map PRow.one
  mt : ∀ x ∈ xs, x.mt = metOf b.mt x.name
  num : ∀ m ∈ b.mt, 1 ≤ m.num ∧ ∀ n ∈ m.who, n ∈ xs.map PRow.name
  gv : 0 ≤ b.given
theorem Corr.names {b : Bk} {xs : List PRow} (h : Corr b xs) : b.ps.map (·.name) = xs.map PRow.name := by
  have e1 : b.ps.map (·.name) = (b.ps.map Pers.one).map One.name := by rw [List.map_map]; rfl
  have e2 : xs.map PRow.name = (xs.map PRow.one).map One.name := by rw [List.map_map]; rfl
  rw [e1, e2, h.one]
theorem Corr.pers {b : Bk} {xs : List PRow} (h : Corr b xs) {x : PRow} (hx : x ∈ xs) : ∃ p ∈ b.ps, p.one = x.one := by
  have : x.one ∈ b.ps.map Pers.one := by rw [h.one]; exact List.mem_map_of_mem hx
  obtain ⟨p, hp, e⟩ := List.mem_map.mp this
  exact ⟨p, hp, e⟩
theorem Corr.pick {b : Bk} {xs : List PRow} (h : Corr b xs) : ∀ {vs : List PRow}, (∀ v ∈ vs, v ∈ xs) → ∃ ps : List Pers, (∀ p ∈ ps, p ∈ b.ps) ∧ ps.map (·.name) = vs.map PRow.name
  | [], _ => ⟨[], (fun p hp => by cases hp), rfl⟩
  | v :: vs, hv => by
    obtain ⟨ps, h1, h2⟩ := h.pick (vs := vs) fun w hw => hv w (List.mem_cons_of_mem _ hw)
    obtain ⟨p, hp, e⟩ := h.pers (hv v List.mem_cons_self)
    refine ⟨p :: ps, fun r hr => ?_, ?_⟩
    · rcases List.mem_cons.mp hr with rfl | hr
      · exact hp
      · exact h1 r hr
    · rw [List.map_cons, List.map_cons, h2]
      congr 1
      exact congrArg One.name e
theorem met_app (mt : List Meet) (m : Meet) (n : Str) : metOf (mt ++ [m]) n = metOf mt n ++ (if n ∈ m.who then [(m.at_, m.hrs)] else []) := by
  unfold metOf
  rw [List.filter_append, List.map_append]
  congr 1
  by_cases h : n ∈ m.who
  · simp [h]
  · simp [h]
def openL (x : PRow) (h : Int) : Bool := (!(x.mt.any fun y => decide (y.1 ≤ h) && decide (h < y.1 + y.2)) && x.fr.any fun r => covers r h) && !(x.bz.any fun r => covers r h)
theorem Corr.open {b : Bk} {xs : List PRow} (h : Corr b xs) {x : PRow} (hx : x ∈ xs) {p : Pers} (e : p.one = x.one) (y : Int) : openB b.mt p y 0 = openL x y := by
  have e1 : p.name = x.name := congrArg One.name e
  have e2 : p.fr = x.fr := congrArg One.fr e
  have e3 : p.bz = x.bz := congrArg One.bz e
  have e4 : (b.mt.any fun m => !decide (m.num = 0) && inM m x.name y) = (x.mt.any fun z => decide (z.1 ≤ y) && decide (y < z.1 + z.2)) := by
    rw [h.mt x hx]
    unfold metOf
    rw [List.any_map, List.any_filter]
    have : ∀ m ∈ b.mt, (!decide (m.num = 0) && inM m x.name y) = (decide (x.name ∈ m.who) && (decide (m.at_ ≤ y) && decide (y < m.at_ + m.hrs))) := fun m hm => by
      have := (h.num m hm).1
      rw [decide_eq_false (by omega)]; rfl
    rw [Bool.eq_iff_iff, List.any_eq_true, List.any_eq_true]
    constructor
    · rintro ⟨m, hm, z⟩; exact ⟨m, hm, by rw [this m hm] at z; exact z⟩
    · rintro ⟨m, hm, z⟩; exact ⟨m, hm, by rw [this m hm]; exact z⟩
  unfold openB freeB openL
  rw [e1, e2, e3, e4]
  cases (x.mt.any fun z => decide (z.1 ≤ y) && decide (y < z.1 + z.2)) <;> cases (x.fr.any fun r => covers r y) <;> cases (x.bz.any fun r => covers r y) <;> rfl
theorem covers_neg {r : Rule} {y : Int} (h : y < 0) : covers r y = false := by
  unfold covers
  refine List.any_eq_false.mpr fun k _ => ?_
  unfold begins
  rw [decide_eq_false (by omega)]; simp
theorem openL_neg {x : PRow} {y : Int} (h : y < 0) : openL x y = false := by
  unfold openL
  have : (x.fr.any fun r => covers r y) = false := List.any_eq_false.mpr fun r _ => by rw [covers_neg h]; simp
  rw [this]; simp
theorem name_zz {sh c k : Int} (h1 : 0 ≤ k) (h2 : k ≤ 11) : nameOf sh c k ≠ "zz" := by
  have ez : ("zz" : Str) = nmS (fun _ => 25) 2 := by decide +kernel
  intro e
  rw [ez] at e
  have hl := congrArg Str.length e
  unfold nameOf at e hl
  by_cases hs : sh % 6 = 4
  · rw [if_pos hs] at e
    have := nmS_at (t := 0) e (by omega) (by omega)
    have := letN_inj (nmA_in sh 0).1 (nmA_in sh 0).2 (by omega) (by omega) this
    unfold nmA at this
    omega
  · rw [if_neg hs] at e hl
    have n1 := nlen sh (nmC sh c)
    have a1 := Int.emod_nonneg (nmC sh c / 24) (show 12 - sh / 2 % 12 ≠ 0 by omega)
    rw [nmS_len, nmS_len] at hl
    have := nmS_at (t := (sh / 2 % 12).toNat) e (by omega) (by omega)
    unfold nmB at this
    rw [if_pos (by omega)] at this
    have := letN_inj (by omega) (by omega) (by omega) (by omega) this
    omega
theorem key_mem {xs ys : List PRow} (h : ys.map PRow.key = xs.map PRow.key) {x : PRow} (hx : x ∈ xs) : ∃ y ∈ ys, y.key = x.key := by
  have : x.key ∈ ys.map PRow.key := by rw [h]; exact List.mem_map_of_mem hx
  obtain ⟨y, hy, e⟩ := List.mem_map.mp this
  exact ⟨y, hy, e⟩
theorem key_put {x y : PRow} {xs : List PRow} (nd : (xs.flatMap PRow.adr).Nodup) (hx : x ∈ xs) (h : y.key = x.key) : (putR x y xs).map PRow.key = xs.map PRow.key := by
  unfold putR
  rw [List.map_map]
  refine List.map_congr_left fun z hz => ?_
  show PRow.key (if z.r = x.r then y else z) = z.key
  split
  · rename_i e
    rw [h, row_dis nd hx hz (a := x.r) (by simp [PRow.adr]) (by rw [← e]; simp [PRow.adr])]
  · rfl
theorem key_adr {xs ys : List PRow} {q : Addr} (h : ys.map PRow.key = xs.map PRow.key) : peAdr q ys = peAdr q xs := by
  have e : ∀ zs : List PRow, zs.flatMap PRow.adr = (zs.map PRow.key).flatMap Prod.snd := fun zs => by rw [List.flatMap_map]; rfl
  unfold peAdr
  rw [e, e, h]
theorem key_one {xs ys : List PRow} (h : ys.map PRow.key = xs.map PRow.key) : ys.map PRow.one = xs.map PRow.one := by
  have e : ∀ zs : List PRow, zs.map PRow.one = (zs.map PRow.key).map Prod.fst := fun zs => by rw [List.map_map]; rfl
  rw [e, e, h]
theorem key_name {xs ys : List PRow} (h : ys.map PRow.key = xs.map PRow.key) : ys.map PRow.name = xs.map PRow.name := by
  have e : ∀ zs : List PRow, zs.map PRow.name = (zs.map PRow.one).map One.name := fun zs => by rw [List.map_map]; rfl
  rw [e, e, key_one h]
theorem key_refs {xs ys : List PRow} (h : ys.map PRow.key = xs.map PRow.key) : refsR ys = refsR xs := by
  have e : ∀ zs : List PRow, refsR zs = ((zs.map PRow.key).map fun k => V.ref (k.2.getD 0 0)) := fun zs => by rw [List.map_map]; rfl
  rw [e, e, h]
section
variable {K : PySem.W.Frag} {s : US} {Γ : List Ent} {te : TE} {x : PRow}
theorem er_name (h : RowAt s x) (ht : EvE ((uw K).g s) te Γ (.val (.ref x.r))) : EvD ((uw K).g s) (tOp (rIx K) te (tC (.int 0))) Γ (.str x.name) := ed_sval (ee_cix ht h.c ev_int (by rfl))
theorem er_fr (h : RowAt s x) (ht : EvE ((uw K).g s) te Γ (.val (.ref x.r))) : EvE ((uw K).g s) (tOp (rIx K) te (tC (.int 1))) Γ (.val (.ref x.f)) := ee_cix ht h.c ev_int (by rfl)
theorem er_bz (h : RowAt s x) (ht : EvE ((uw K).g s) te Γ (.val (.ref x.r))) : EvE ((uw K).g s) (tOp (rIx K) te (tC (.int 2))) Γ (.val (.ref x.t)) := ee_cix ht h.c ev_int (by rfl)
theorem er_mt (h : RowAt s x) (ht : EvE ((uw K).g s) te Γ (.val (.ref x.r))) : EvE ((uw K).g s) (tOp (rIx K) te (tC (.int 3))) Γ (.val (.ref x.m)) := ee_cix ht h.c ev_int (by rfl)
/-- [one[0] for one in a list of rows] -/
theorem er_names {wi : TI} {vs : List Nat} {j : Nat} {xs : List PRow} (hj : j < Γ.length) (hi : ItV ((uw K).g s) wi Γ (refsR xs)) (hz : xs.length ≤ 50000) (hv : j ∈ vs) (hr : ∀ x ∈ xs, RowAt s x) : EvF ((uw K).g s) (tLc wi (gName j) tYes (tOp (rIx K) (tVar j) (tC (.int 0))) vs) Γ ((xs.map PRow.name).map .str) := by
  rw [List.map_map]
  refine ef_lcV hi hz hv fun x hx => er_name (hr x hx) (ee_val ?_)
  have wl : ∀ us : List Nat, (wipeE Γ us).length = Γ.length := by
    intro us
    induction us with
    | nil => rfl
    | cons u us ih => unfold wipeE; rw [List.length_set]; exact ih
  exact List.getElem?_set_self (by rw [wl]; exact hj)
end

theorem putR_map {β : Type} (f : PRow → β) {x y : PRow} {xs : List PRow} (nd : (xs.flatMap PRow.adr).Nodup) (hx : x ∈ xs) (h : f y = f x) : (putR x y xs).map f = xs.map f := by
  unfold putR
  rw [List.map_map]
  refine List.map_congr_left fun z hz => ?_
  show f (if z.r = x.r then y else z) = f z
  split
  · rename_i e
    rw [h, row_dis nd hx hz (a := x.r) (by simp [PRow.adr]) (by rw [← e]; simp [PRow.adr])]
  · rfl
theorem PeAt.nd2 {s : US} {q : Addr} {xs : List PRow} (h : PeAt s q xs) : (xs.flatMap PRow.adr).Nodup := (List.nodup_cons.mp h.nd).2
theorem PeAt.ndr {s : US} {q : Addr} {xs : List PRow} (h : PeAt s q xs) {x : PRow} (hx : x ∈ xs) : (x.r ≠ x.f ∧ x.r ≠ x.t ∧ x.r ≠ x.m) ∧ (x.f ≠ x.t ∧ x.f ≠ x.m) ∧ x.t ≠ x.m := by
  have := row_nd h.nd2 hx
  simp [PRow.adr] at this
  exact this
theorem atI_neg1 {α : Type} (xs : List α) (x : α) : atI (xs ++ [x]) (-1) = some x := by
  have e : ixN (xs ++ [x]).length (-1) = some xs.length := by
    unfold ixN
    rw [List.length_append, List.length_singleton]
    simp; omega
  unfold atI
  rw [e]
  show (xs ++ [x])[xs.length]? = some x
  rw [List.getElem?_append_right (Nat.le_refl _)]; simp
theorem refs_get {xs : List PRow} {i : Nat} {v : V} (h : (refsR xs)[i]? = some v) : ∃ x, xs[i]? = some x ∧ v = .ref x.r := by
  unfold refsR at h
  rw [List.getElem?_map] at h
  obtain ⟨x, hx, rfl⟩ := Option.map_eq_some_iff.mp h
  exact ⟨x, hx, rfl⟩
theorem refs_len (xs : List PRow) : (refsR xs).length = xs.length := by unfold refsR; rw [List.length_map]
/-- a new row behind the others -/
theorem PeAt.row {s : US} {q : Addr} {xs : List PRow} (h : PeAt s q xs) {n : Str} {fr bz : List Rule} {pf pt m r : Addr} {fv tv mv : List V} (hf : pf ∉ s.foot) (ht : pt ∉ (s.add [(pf, .lst fv)] [(fv, fr.map toD)]).foot) (hm : m ∉ ((s.add [(pf, .lst fv)] [(fv, fr.map toD)]).add [(pt, .lst tv)] [(tv, bz.map toD)]).foot) (hr : r ∉ (((s.add [(pf, .lst fv)] [(fv, fr.map toD)]).add [(pt, .lst tv)] [(tv, bz.map toD)]).add [(m, .lst mv)] [(mv, [])]).foot) :
    let s2 := ((((s.add [(pf, .lst fv)] [(fv, fr.map toD)]).add [(pt, .lst tv)] [(tv, bz.map toD)]).add [(m, .lst mv)] [(mv, [])]).add [(r, .lst [.str n, .ref pf, .ref pt, .ref m])] []).put q (.lst (refsR xs ++ [.ref r])) []
    PeAt s2 q (xs ++ [⟨n, fr, bz, [], r, pf, pt, m, fv, tv, mv⟩]) ∧ Keeps s s2 [q] ∧ (pf ∉ s.foot ∧ pt ∉ s.foot ∧ m ∉ s.foot ∧ r ∉ s.foot) := by
  intro s2
  have hq : q ∈ s.foot := in_foot h.li
  have ht : pt ≠ pf ∧ pt ∉ s.foot := by
    have : pt ∉ pf :: s.foot := ht
    simpa using this
  have hm : m ≠ pt ∧ m ≠ pf ∧ m ∉ s.foot := by
    have : m ∉ pt :: pf :: s.foot := hm
    simpa using this
  have hr : r ≠ m ∧ r ≠ pt ∧ r ≠ pf ∧ r ∉ s.foot := by
    have : r ∉ m :: pt :: pf :: s.foot := hr
    simpa using this
  have k : Keeps s ((((s.add [(pf, .lst fv)] [(fv, fr.map toD)]).add [(pt, .lst tv)] [(tv, bz.map toD)]).add [(m, .lst mv)] [(mv, [])]).add [(r, .lst [.str n, .ref pf, .ref pt, .ref m])] []) [] := ((add_keeps.trans add_keeps).trans add_keeps).trans add_keeps
  have kp : Keeps ((((s.add [(pf, .lst fv)] [(fv, fr.map toD)]).add [(pt, .lst tv)] [(tv, bz.map toD)]).add [(m, .lst mv)] [(mv, [])]).add [(r, .lst [.str n, .ref pf, .ref pt, .ref m])] []) s2 [q] := put_keeps
  have kk : Keeps s s2 [q] := (k.mono (by simp)).trans kp
  have nq : ∀ a, a ∉ s.foot → a ∉ [q] := fun a ha => by simp; exact fun e => ha (e ▸ hq)
  refine ⟨h.more kk (put_mem (k.cell _ h.li (by simp))) ⟨kp.cell _ (by simp [US.add, PRow.cell]) (nq _ hr.2.2.2), ⟨kp.cell _ (by simp [US.add]) (nq _ hf), kp.rel _ (by simp [US.add])⟩, ⟨kp.cell _ (by simp [US.add]) (nq _ ht.2), kp.rel _ (by simp [US.add])⟩, ⟨kp.cell _ (by simp [US.add]) (nq _ hm.2.2), kp.rel _ (by simp [US.add])⟩⟩ ?_ ?_, kk, hf, ht.2, hm.2.2, hr.2.2.2⟩
  · simp [PRow.adr, hr.1, hr.2.1, hr.2.2.1, Ne.symm ht.1, Ne.symm hm.1, Ne.symm hm.2.1]
  · intro a ha
    simp only [PRow.adr, List.mem_cons, List.not_mem_nil, or_false] at ha
    rcases ha with rfl | rfl | rfl | rfl
    · exact hr.2.2.2
    · exact hf
    · exact ht.2
    · exact hm.2.2
/-- one[1] = a new list | one[2] = .. -/
theorem PeAt.setF {s : US} {q p : Addr} {xs : List PRow} {x : PRow} {vs : List V} {fr : List Rule} (h : PeAt s q xs) (hx : x ∈ xs) (hp : p ∉ s.foot) :
    PeAt ((s.add [(p, .lst vs)] [(vs, fr.map toD)]).put x.r (.lst (x.cell.set 1 (.ref p))) []) q (putR x { x with f := p, fr := fr, fv := vs } xs) := by
  obtain ⟨⟨a1, a2, a3⟩, ⟨a4, a5⟩, a6⟩ := h.ndr hx
  have hr := h.ro x hx
  have ff := hr.foot
  have np : ∀ a ∈ x.adr, p ≠ a := fun a ha e => hp (e ▸ ff a ha)
  have k1 : Keeps s (s.add [(p, .lst vs)] [(vs, fr.map toD)]) [x.r] := add_keeps
  have kp : Keeps (s.add [(p, .lst vs)] [(vs, fr.map toD)]) ((s.add [(p, .lst vs)] [(vs, fr.map toD)]).put x.r (.lst (x.cell.set 1 (.ref p))) []) [x.r] := put_keeps
  have kk := k1.trans kp
  refine h.upd hx kk (by simp [PRow.adr]) rfl ⟨put_mem (List.mem_append_right _ hr.c), ⟨kp.cell _ (by simp [US.add]) (by simpa using np x.r (by simp [PRow.adr])), kp.rel _ (by simp [US.add])⟩, hr.t.keep kk (by simpa using a2.symm), hr.m.keep kk (by simpa using a3.symm)⟩ ?_ ?_
  · have := np x.r (by simp [PRow.adr])
    have := np x.t (by simp [PRow.adr])
    have := np x.m (by simp [PRow.adr])
    simp [PRow.adr, *, Ne.symm]
  · intro a ha
    simp only [PRow.adr, List.mem_cons, List.not_mem_nil, or_false] at ha ⊢
    rcases ha with rfl | rfl | rfl | rfl
    · exact .inl (.inl rfl)
    · exact .inr hp
    · exact .inl (.inr (.inr (.inl rfl)))
    · exact .inl (.inr (.inr (.inr rfl)))
theorem PeAt.setT {s : US} {q p : Addr} {xs : List PRow} {x : PRow} {vs : List V} {bz : List Rule} (h : PeAt s q xs) (hx : x ∈ xs) (hp : p ∉ s.foot) :
    PeAt ((s.add [(p, .lst vs)] [(vs, bz.map toD)]).put x.r (.lst (x.cell.set 2 (.ref p))) []) q (putR x { x with t := p, bz := bz, tv := vs } xs) := by
  obtain ⟨⟨a1, a2, a3⟩, ⟨a4, a5⟩, a6⟩ := h.ndr hx
  have hr := h.ro x hx
  have ff := hr.foot
  have np : ∀ a ∈ x.adr, p ≠ a := fun a ha e => hp (e ▸ ff a ha)
  have k1 : Keeps s (s.add [(p, .lst vs)] [(vs, bz.map toD)]) [x.r] := add_keeps
  have kp : Keeps (s.add [(p, .lst vs)] [(vs, bz.map toD)]) ((s.add [(p, .lst vs)] [(vs, bz.map toD)]).put x.r (.lst (x.cell.set 2 (.ref p))) []) [x.r] := put_keeps
  have kk := k1.trans kp
  refine h.upd hx kk (by simp [PRow.adr]) rfl ⟨put_mem (List.mem_append_right _ hr.c), hr.f.keep kk (by simpa using a1.symm), ⟨kp.cell _ (by simp [US.add]) (by simpa using np x.r (by simp [PRow.adr])), kp.rel _ (by simp [US.add])⟩, hr.m.keep kk (by simpa using a3.symm)⟩ ?_ ?_
  · have n1 := np x.r (by simp [PRow.adr])
    have n2 := np x.f (by simp [PRow.adr])
    have n3 := np x.m (by simp [PRow.adr])
    simp [PRow.adr, a1, a3, a5, n3, n1.symm, n2.symm]
  · intro a ha
    simp only [PRow.adr, List.mem_cons, List.not_mem_nil, or_false] at ha ⊢
    rcases ha with rfl | rfl | rfl | rfl
    · exact .inl (.inl rfl)
    · exact .inl (.inr (.inl rfl))
    · exact .inr hp
    · exact .inl (.inr (.inr (.inr rfl)))
theorem PeAt.appF {s : US} {q : Addr} {xs : List PRow} {x : PRow} {v : V} {r : Rule} (h : PeAt s q xs) (hx : x ∈ xs) :
    PeAt (s.put x.f (.lst (x.fv ++ [v])) [(x.fv ++ [v], x.fr.map toD ++ [toD r])]) q (putR x { x with fr := x.fr ++ [r], fv := x.fv ++ [v] } xs) := by
  obtain ⟨⟨a1, a2, a3⟩, ⟨a4, a5⟩, a6⟩ := h.ndr hx
  have hr := h.ro x hx
  have kk : Keeps s (s.put x.f (.lst (x.fv ++ [v])) [(x.fv ++ [v], x.fr.map toD ++ [toD r])]) [x.f] := put_keeps
  refine h.upd hx kk (by simp [PRow.adr]) rfl ⟨kk.cell _ hr.c (by simpa using a1), ⟨put_mem hr.f.c, ?_⟩, hr.t.keep kk (by simpa using a4.symm), hr.m.keep kk (by simpa using a5.symm)⟩ (show x.adr.Nodup from row_nd h.nd2 hx) fun a ha => .inl ha
  show (_, (x.fr ++ [r]).map toD) ∈ _
  rw [List.map_append]
  exact List.mem_cons_self
theorem PeAt.appT {s : US} {q : Addr} {xs : List PRow} {x : PRow} {v : V} {r : Rule} (h : PeAt s q xs) (hx : x ∈ xs) :
    PeAt (s.put x.t (.lst (x.tv ++ [v])) [(x.tv ++ [v], x.bz.map toD ++ [toD r])]) q (putR x { x with bz := x.bz ++ [r], tv := x.tv ++ [v] } xs) := by
  obtain ⟨⟨a1, a2, a3⟩, ⟨a4, a5⟩, a6⟩ := h.ndr hx
  have hr := h.ro x hx
  have kk : Keeps s (s.put x.t (.lst (x.tv ++ [v])) [(x.tv ++ [v], x.bz.map toD ++ [toD r])]) [x.t] := put_keeps
  refine h.upd hx kk (by simp [PRow.adr]) rfl ⟨kk.cell _ hr.c (by simpa using a2), hr.f.keep kk (by simpa using a4), ⟨put_mem hr.t.c, ?_⟩, hr.m.keep kk (by simpa using a6.symm)⟩ (show x.adr.Nodup from row_nd h.nd2 hx) fun a ha => .inl ha
  show (_, (x.bz ++ [r]).map toD) ∈ _
  rw [List.map_append]
  exact List.mem_cons_self
theorem PeAt.appM {s : US} {q : Addr} {xs : List PRow} {x : PRow} {v : V} {y : Int × Int} (h : PeAt s q xs) (hx : x ∈ xs) :
    PeAt (s.put x.m (.lst (x.mv ++ [v])) [(x.mv ++ [v], x.mt.map pairD ++ [pairD y])]) q (putR x { x with mt := x.mt ++ [y], mv := x.mv ++ [v] } xs) := by
  obtain ⟨⟨a1, a2, a3⟩, ⟨a4, a5⟩, a6⟩ := h.ndr hx
  have hr := h.ro x hx
  have kk : Keeps s (s.put x.m (.lst (x.mv ++ [v])) [(x.mv ++ [v], x.mt.map pairD ++ [pairD y])]) [x.m] := put_keeps
  refine h.upd hx kk (by simp [PRow.adr]) rfl ⟨kk.cell _ hr.c (by simpa using a3), hr.f.keep kk (by simpa using a5), hr.t.keep kk (by simpa using a6), ⟨put_mem hr.m.c, ?_⟩⟩ (show x.adr.Nodup from row_nd h.nd2 hx) fun a ha => .inl ha
  show (_, (x.mt ++ [y]).map pairD) ∈ _
  rw [List.map_append]
  exact List.mem_cons_self
theorem PeAt.get0 {s : US} {q : Addr} {xs : List PRow} {K : PySem.W.Frag} {Γ : List Ent} {te : TE} (h : PeAt s q xs) {x : PRow} (hx : xs[0]? = some x) (ht : EvE ((uw K).g s) te Γ (.val (.ref q))) : EvE ((uw K).g s) (tOp (rIx K) te (tC (.int 0))) Γ (.val (.ref x.r)) :=
  ee_cix ht h.li ev_int (by
    have : (refsR xs)[0]? = some (.ref x.r) := by unfold refsR; rw [List.getElem?_map, hx]; rfl
    have := atI_nat this
    exact this)
theorem PeAt.getL {s : US} {q : Addr} {xs : List PRow} {K : PySem.W.Frag} {Γ : List Ent} {te : TE} (h : PeAt s q xs) {x : PRow} {ys : List PRow} (hx : xs = ys ++ [x]) (ht : EvE ((uw K).g s) te Γ (.val (.ref q))) (hk : EvD ((uw K).g s) tk Γ (.int (-1))) : EvE ((uw K).g s) (tOp (rIx K) te tk) Γ (.val (.ref x.r)) :=
  ee_cix ht h.li hk (by subst hx; unfold refsR; rw [List.map_append]; exact atI_neg1 _ _)
theorem lay_pairs : ∀ ys : List (Int × Int), PyData.canLayAll0 (ys.map pairD) = true
  | [] => by simp [PyData.canLayAll0]
  | y :: ys => by simp [PyData.canLayAll0, PyData.canLay0, lay_pairs ys]
theorem depth_pairs : ∀ ys : List (Int × Int), PyData.depthAll (ys.map pairD) ≤ 1
  | [] => by simp [PyData.depthAll]
  | y :: ys => by have := depth_pairs ys; simp [PyData.depthAll, PyData.depth]; omega
theorem shaped_pairs (ys : List (Int × Int)) : SeqAt.shaped (.list (ys.map pairD)) = true := by
  have := depth_pairs ys
  simp [SeqAt.shaped, PyData.canLay0, PyData.depth, lay_pairs]; omega
theorem every_all (x : Int) : covers (.every 0 1 1) x = decide (0 ≤ x) := by
  show ((List.range 1).any fun k : Nat => begins (.every 0 1 1) (x - (0 + (k : Int)))) = _
  have e : x - (0 + ((0 : Nat) : Int)) = x := by omega
  rw [show List.range 1 = [0] from rfl, List.any_cons, List.any_nil, Bool.or_false, e]
  unfold begins
  simp only [beg, Int.emod_one, decide_true, Bool.and_true, Bool.and_self]
theorem open_every {p : Pers} (h1 : p.fr = [.every 0 1 1]) (h2 : p.bz = []) (x : Int) : openB [] p x 0 = decide (0 ≤ x) := by
  unfold openB freeB
  rw [h1, h2]
  simp [every_all]
theorem met_len (mt : List Meet) (n : Str) : (metOf mt n).length ≤ mt.length := by unfold metOf; rw [List.length_map]; exact List.length_filter_le _ _

theorem BkAt.bookd {C : Addr} {s : US} {b : Bk} (hb : BkAt C s b) (mt : List Meet) (mv : List V) (hm : ∀ m ∈ mt, m.ok) (hl : mt.length ≤ 1000) :
    let s2 := s.put b.bk (.lst mv) [(mv, mt.map Meet.d)]
    BkAt C s2 { b with mv := mv, mt := mt } ∧ Keeps s s2 [b.bk] := by
  intro s2
  obtain ⟨⟨d1, d2, d3⟩, d4, d5⟩ := hb.dis
  have kk : Keeps s s2 [b.bk] := put_keeps
  have np : ∀ p ∈ b.ps, ∀ x ∈ p.adr, x ∉ [b.bk] := fun p hp x hx => by simpa using (d4 p hp x hx).2.2
  exact ⟨⟨kk.cell _ hb.ob (by show b.a ∉ [b.bk]; simpa using d2), kk.cell _ hb.kn (by show b.kd ∉ [b.bk]; simpa using d3), ⟨put_mem hb.bo.c, List.mem_cons_self⟩, fun p hp => kk.cell _ (hb.pt p hp) (np p hp _ (by simp [Pers.adr])), fun p hp => (hb.pf p hp).keep kk (np p hp _ (by simp [Pers.adr])), fun p hp => (hb.pu p hp).keep kk (np p hp _ (by simp [Pers.adr])), hb.nd, hb.nn, ⟨hb.few.1, hl⟩, hb.ok, hm⟩, kk⟩
theorem erase_map {α β : Type} (f : α → β) : ∀ (xs : List α) (n : Nat), (xs.map f).eraseIdx n = (xs.eraseIdx n).map f
  | [], _ => rfl
  | _ :: _, 0 => rfl
  | x :: xs, n + 1 => by
    show f x :: (xs.map f).eraseIdx n = f x :: (xs.eraseIdx n).map f
    rw [erase_map f xs n]
def fV : PyData → V
  | .int i => .int i
  | _ => .non
theorem fV_dp {K : PySem.W.Frag} {B : Hp} {f : PyData} (h : f = .none ∨ ∃ y, f = .int y) : Dp K B (fV f) f := by
  rcases h with rfl | ⟨y, rfl⟩
  · exact .non
  · exact .int y
theorem Found.kind {mt : List Meet} {ps : List Pers} {h st en wo : Int} {f : PyData} {rs : List PyData} (F : Found mt ps h st en wo f rs) : f = .none ∨ ∃ y, f = .int y := by
  obtain ⟨y, _, z⟩ := F.ex
  rcases z with ⟨_, _, z⟩ | ⟨_, z⟩
  · exact .inr ⟨y, z⟩
  · exact .inl z
def Ten (b : Bk) (n : Int) (j : Nat) (m : Meet) : Prop := b.mt[j]? = some m ∧ m.num = n ∧ ∀ i m', i < j → b.mt[i]? = some m' → m'.num ≠ n
def FRes (s : US) (c : Bool) (f : PyData) (rs : List PyData) (o : Out US) : Prop := if c = true then ∃ l vs t, l ∉ s.foot ∧ t ∉ s.foot ∧ t ≠ l ∧ o = .ok (.val (.ref t)) (sTup s l vs rs t (fV f)) else o = .ok (.dat (.tuple [f, .list rs])) s
theorem FRes.dat {s : US} {f : PyData} {rs : List PyData} {o : Out US} (h : FRes s false f rs o) : o = .ok (.dat (.tuple [f, .list rs])) s := by
  unfold FRes at h
  rwa [if_neg (by decide)] at h
theorem FRes.cel {s : US} {f : PyData} {rs : List PyData} {o : Out US} (h : FRes s true f rs o) : ∃ l vs t, l ∉ s.foot ∧ t ∉ s.foot ∧ t ≠ l ∧ o = .ok (.val (.ref t)) (sTup s l vs rs t (fV f)) := by
  unfold FRes at h
  rwa [if_pos rfl] at h

theorem rep_int {i : Int} (h : Small i) : PyData.showable (.int i) = true ∧ (PyData.shown (.int i)).length ≤ 14 := by
  refine ⟨by simp only [PyData.showable]; exact decide_eq_true h.log, ?_⟩
  have : PyData.shown (.int i) = numS i := by simp only [PyData.shown]
  rw [this]; exact numS_len h
theorem rep_ints : ∀ {ds : List Int}, (∀ d ∈ ds, Small d) → PyData.showableAll (ds.map .int) = true ∧ PyData.hasDictAll (ds.map .int) = false ∧ piled (PyData.shownAll (ds.map .int)) ≤ 16 * ds.length
  | [], _ => by simp [PyData.showableAll, PyData.hasDictAll, PyData.shownAll, piled_nil]
  | i :: l, h => by
    have h1 := rep_int (h i List.mem_cons_self)
    obtain ⟨a, b, c⟩ := rep_ints (ds := l) fun j hj => h j (List.mem_cons_of_mem _ hj)
    refine ⟨?_, ?_, ?_⟩
    · simp only [List.map_cons, PyData.showableAll, h1.1, a, Bool.and_self]
    · simp only [List.map_cons, PyData.hasDictAll, PyData.hasDict, b, Bool.or_self]
    · simp only [List.map_cons, PyData.shownAll, piled_cons, List.length_cons]; have := h1.2; omega
theorem rep_days {ds : List Int} (h : DaysOk ds) : PyData.showable (.tuple (ds.map .int)) = true ∧ PyData.hasDict (.tuple (ds.map .int)) = false ∧ PyData.depth (.tuple (ds.map .int)) ≤ 1 + 1 ∧ (PyData.shown (.tuple (ds.map .int))).length ≤ 1603 := by
  obtain ⟨a, b, c⟩ := rep_ints h.2.1
  have hd := depth_ints ds
  refine ⟨by simpa only [PyData.showable] using a, by simpa only [PyData.hasDict] using b, by simp only [PyData.depth]; omega, ?_⟩
  have e : PyData.shown (.tuple (ds.map .int)) = tupleText (PyData.shownAll (ds.map .int)) := by simp only [PyData.shown]
  rw [e]
  have := tup_len (PyData.shownAll (ds.map .int)); have := h.2.2; omega
def Rep (x : PyData) (n d : Nat) : Prop := PyData.showable x = true ∧ PyData.hasDict x = false ∧ PyData.depth x ≤ d ∧ (PyData.shown x).length ≤ n
theorem Rep.int {i : Int} (h : Small i) (d : Nat) : Rep (.int i) 14 d := ⟨(rep_int h).1, by simp only [PyData.hasDict], by simp [PyData.depth], (rep_int h).2⟩
theorem Rep.word {w : Str} (h : (PyData.shown (.str w)).length ≤ 14) (d : Nat) : Rep (.str w) 14 d := ⟨by simp only [PyData.showable], by simp only [PyData.hasDict], by simp [PyData.depth], h⟩
theorem Rep.days {ds : List Int} (h : DaysOk ds) {d : Nat} (hd : 2 ≤ d) : Rep (.tuple (ds.map .int)) 1603 d := ⟨(rep_days h).1, (rep_days h).2.1, Nat.le_trans (rep_days h).2.2.1 hd, (rep_days h).2.2.2⟩
theorem Rep.tup3 {a b c : PyData} {n1 n2 n3 d : Nat} (h1 : Rep a n1 d) (h2 : Rep b n2 d) (h3 : Rep c n3 d) : Rep (.tuple [a, b, c]) (n1 + n2 + n3 + 9) (d + 1) := by
  obtain ⟨p1, p2, p3, p4⟩ := h1
  obtain ⟨q1, q2, q3, q4⟩ := h2
  obtain ⟨r1, r2, r3, r4⟩ := h3
  refine ⟨by simp only [PyData.showable, PyData.showableAll, p1, q1, r1, Bool.and_self], by simp only [PyData.hasDict, PyData.hasDictAll, p2, q2, r2, Bool.or_self], by simp only [PyData.depth, PyData.depthAll]; omega, ?_⟩
  have e : PyData.shown (.tuple [a, b, c]) = tupleText [a.shown, b.shown, c.shown] := by simp only [PyData.shown, PyData.shownAll]
  rw [e]
  have := tup_len [a.shown, b.shown, c.shown]
  simp only [piled_cons, piled_nil] at this
  omega
theorem Rep.tup4 {a b c f : PyData} {n1 n2 n3 n4 d : Nat} (h1 : Rep a n1 d) (h2 : Rep b n2 d) (h3 : Rep c n3 d) (h4 : Rep f n4 d) : Rep (.tuple [a, b, c, f]) (n1 + n2 + n3 + n4 + 11) (d + 1) := by
  obtain ⟨p1, p2, p3, p4⟩ := h1
  obtain ⟨q1, q2, q3, q4⟩ := h2
  obtain ⟨r1, r2, r3, r4⟩ := h3
  obtain ⟨s1, s2, s3, s4⟩ := h4
  refine ⟨by simp only [PyData.showable, PyData.showableAll, p1, q1, r1, s1, Bool.and_self], by simp only [PyData.hasDict, PyData.hasDictAll, p2, q2, r2, s2, Bool.or_self], by simp only [PyData.depth, PyData.depthAll]; omega, ?_⟩
  have e : PyData.shown (.tuple [a, b, c, f]) = tupleText [a.shown, b.shown, c.shown, f.shown] := by simp only [PyData.shown, PyData.shownAll]
  rw [e]
  have := tup_len [a.shown, b.shown, c.shown, f.shown]
  simp only [piled_cons, piled_nil] at this
  omega
theorem Rep.le {x : PyData} {n m d e : Nat} (h : Rep x n d) (h1 : n ≤ m) (h2 : d ≤ e) : Rep x m e := ⟨h.1, h.2.1, Nat.le_trans h.2.2.1 h2, Nat.le_trans h.2.2.2 h1⟩
theorem rep_ok : ∀ r, SmallR r → Rep (toD r) (2000 * (depth r + 1)) (depth r + 3)
  | .once h n, hs => (Rep.tup3 (d := 2) (Rep.word (by decide +kernel) _) (Rep.int hs.1 _) (Rep.int hs.2 _)).le (by simp [depth]) (by simp [depth])
  | .every h n s, hs => (Rep.tup4 (d := 2) (Rep.word (by decide +kernel) _) (Rep.int hs.1 _) (Rep.int hs.2.1 _) (Rep.int hs.2.2 _)).le (by simp [depth]) (by simp [depth])
  | .week ds h n, hs => (Rep.tup4 (d := 2) (Rep.word (by decide +kernel) _) (Rep.days hs.1 (Nat.le_refl _)) (Rep.int hs.2.1 _) (Rep.int hs.2.2 _)).le (by simp [depth]) (by simp [depth])
  | .month d h n, hs => (Rep.tup4 (d := 2) (Rep.word (by decide +kernel) _) (Rep.int hs.1 _) (Rep.int hs.2.1 _) (Rep.int hs.2.2 _)).le (by simp [depth]) (by simp [depth])
  | .fr t r, hs => (Rep.tup3 (Rep.word (by decide +kernel) _) (Rep.int hs.1 _) (rep_ok r hs.2)).le (by simp [depth]; omega) (by simp [depth])
  | .un t r, hs => (Rep.tup3 (Rep.word (by decide +kernel) _) (Rep.int hs.1 _) (rep_ok r hs.2)).le (by simp [depth]; omega) (by simp [depth])
  | .al t r, hs => (Rep.tup3 (Rep.word (by decide +kernel) _) (Rep.int hs.1 _) (rep_ok r hs.2)).le (by simp [depth]; omega) (by simp [depth])
  | .bu ds r, hs => (Rep.tup3 (Rep.word (by decide +kernel) _) (Rep.days hs.1 (by omega)) (rep_ok r hs.2)).le (by simp [depth]; omega) (by simp [depth])

/-! what a thing may be -/
theorem textFrom_le : ∀ (ts : List Str) (k : Nat) (acc : Str), (textFrom k acc ts).length ≤ acc.length + piled ts
  | [], k, acc => by show acc.length ≤ _; omega
  | t :: ts, k, acc => by
    have h := textFrom_le ts (k + 1) (acc ++ (if k > 0 then ", " else "" : String) ++ t)
    have e : (acc ++ (if k > 0 then ", " else "" : String) ++ t).length ≤ acc.length + 2 + t.length := by
      rw [Str.length_append, Str.length_append]
      split
      · exact Nat.le_refl _
      · show acc.length + 0 + t.length ≤ _; omega
    rw [piled_cons]
    show (textFrom (k + 1) _ ts).length ≤ _
    omega
theorem lst_len (ts : List Str) : (listText ts).length ≤ piled ts + 3 := by
  unfold listText
  rw [Str.length_append]
  have h := textFrom_le ts 0 "["
  have e1 : (("[" : String) : Str).length = 1 := rfl
  have e2 : (("]" : String) : Str).length = 1 := rfl
  rw [e1] at h
  rw [e2]; omega
def Th (d : PyData) (n k : Nat) : Prop := PyData.canLay0 d = true ∧ Rep d n k
def ThOk (d : PyData) : Prop := Th d 4000 4
theorem Th.le {x : PyData} {n m d e : Nat} (h : Th x n d) (h1 : n ≤ m) (h2 : d ≤ e) : Th x m e := ⟨h.1, h.2.le h1 h2⟩
def thB (d : PyData) : Bool := d.canLay0 && d.showable && !d.hasDict && decide (d.depth ≤ 4) && decide (d.shown.length ≤ 4000)
theorem th_of {d : PyData} (h : thB d = true) : ThOk d := by
  unfold thB at h
  simp only [Bool.and_eq_true, Bool.not_eq_true', decide_eq_true_eq] at h
  exact ⟨h.1.1.1.1, h.1.1.1.2, h.1.1.2, h.1.2, h.2⟩
/-- a row's facts: all of it, and how long it is shown -/
def Ths (es : List PyData) (n k : Nat) : Prop := PyData.canLayAll0 es = true ∧ PyData.showableAll es = true ∧ PyData.hasDictAll es = false ∧ PyData.depthAll es ≤ k ∧ piled (PyData.shownAll es) ≤ n
theorem Ths.nil {k : Nat} : Ths [] 0 k := by simp [Ths, PyData.canLayAll0, PyData.showableAll, PyData.hasDictAll, PyData.depthAll, PyData.shownAll, piled_nil]
theorem Ths.cons {e : PyData} {es : List PyData} {n m k : Nat} (h : Th e n k) (hs : Ths es m k) : Ths (e :: es) (n + 2 + m) k := by
  obtain ⟨a0, a1, a2, a3, a4⟩ := h
  obtain ⟨b0, b1, b2, b3, b4⟩ := hs
  refine ⟨by simp [PyData.canLayAll0, a0, b0], by simp [PyData.showableAll, a1, b1], by simp [PyData.hasDictAll, a2, b2], by simp only [PyData.depthAll]; omega, ?_⟩
  simp only [PyData.shownAll, piled_cons]; omega
theorem Ths.all {n k : Nat} : ∀ {es : List PyData}, (∀ e ∈ es, Th e n k) → Ths es (es.length * (n + 2)) k
  | [], _ => by simpa using Ths.nil
  | e :: es, h => by
    have h2 := Ths.all (es := es) fun x hx => h x (List.mem_cons_of_mem _ hx)
    have := Ths.cons (h e List.mem_cons_self) h2
    rw [List.length_cons, Nat.add_mul, Nat.one_mul, Nat.add_comm]; exact this
theorem Ths.app {es fs : List PyData} {n m k : Nat} : Ths es n k → Ths fs m k → Ths (es ++ fs) (n + m) k := by
  induction es generalizing n with
  | nil => intro _ h; exact ⟨h.1, h.2.1, h.2.2.1, h.2.2.2.1, Nat.le_trans h.2.2.2.2 (Nat.le_add_left _ _)⟩
  | cons e es ih =>
    rintro ⟨a0, a1, a2, a3, a4⟩ h
    simp only [PyData.canLayAll0, PyData.showableAll, PyData.hasDictAll, PyData.depthAll, PyData.shownAll, piled_cons, Bool.and_eq_true, Bool.or_eq_false_iff] at a0 a1 a2 a3 a4
    have := ih (n := piled (PyData.shownAll es)) ⟨a0.2, a1.2, a2.2, by omega, Nat.le_refl _⟩ h
    obtain ⟨b0, b1, b2, b3, b4⟩ := this
    refine ⟨by simp [PyData.canLayAll0, a0.1, b0], by simp [PyData.showableAll, a1.1, b1], by simp [PyData.hasDictAll, a2.1, b2], by simp only [List.cons_append, PyData.depthAll]; omega, ?_⟩
    simp only [List.cons_append, PyData.shownAll, piled_cons]; omega
theorem Ths.tup {es : List PyData} {n k : Nat} (h : Ths es n k) : Th (.tuple es) (n + 3) (k + 1) := by
  obtain ⟨a0, a1, a2, a3, a4⟩ := h
  refine ⟨by simpa only [PyData.canLay0] using a0, by simpa only [PyData.showable] using a1, by simpa only [PyData.hasDict] using a2, by simp only [PyData.depth]; omega, ?_⟩
  have e : PyData.shown (.tuple es) = tupleText (PyData.shownAll es) := by simp only [PyData.shown]
  rw [e]
  have := tup_len (PyData.shownAll es); omega
theorem Ths.lst {es : List PyData} {n k : Nat} (h : Ths es n k) : Th (.list es) (n + 3) (k + 1) := by
  obtain ⟨a0, a1, a2, a3, a4⟩ := h
  refine ⟨by simpa only [PyData.canLay0] using a0, by simpa only [PyData.showable] using a1, by simpa only [PyData.hasDict] using a2, by simp only [PyData.depth]; omega, ?_⟩
  have e : PyData.shown (.list es) = listText (PyData.shownAll es) := by simp only [PyData.shown]
  rw [e]
  have := lst_len (PyData.shownAll es); omega
theorem Th.int {i : Int} (h : Small i) (k : Nat) : Th (.int i) 14 k := ⟨rfl, Rep.int h k⟩
theorem Th.ints {ns : List Int} (h : ∀ n ∈ ns, Small n) (k : Nat) : Ths (ns.map .int) (ns.length * 16) k := by
  have := Ths.all (es := ns.map .int) (n := 14) (k := k) fun e he => by
    obtain ⟨i, hi, rfl⟩ := List.mem_map.mp he
    exact Th.int (h i hi) k
  rwa [List.length_map] at this

structure Cor (b : Bk) (xs : List PRow) : Prop where
  pe : ∀ x ∈ xs, ∃ p ∈ b.ps, p.one = x.one
  mt : ∀ x ∈ xs, x.mt = metOf b.mt x.name
  num : ∀ m ∈ b.mt, 1 ≤ m.num ∧ m.num ≤ b.given
  gv : 0 ≤ b.given
theorem open_row {b : Bk} {x : PRow} {p : Pers} (e : p.one = x.one) (hm : x.mt = metOf b.mt x.name) (hn : ∀ m ∈ b.mt, 1 ≤ m.num) (y : Int) : openB b.mt p y 0 = openL x y := by
  have e1 : p.name = x.name := congrArg One.name e
  have e2 : p.fr = x.fr := congrArg One.fr e
  have e3 : p.bz = x.bz := congrArg One.bz e
  have e4 : (b.mt.any fun m => !decide (m.num = 0) && inM m x.name y) = (x.mt.any fun z => decide (z.1 ≤ y) && decide (y < z.1 + z.2)) := by
    rw [hm]
    unfold metOf
    rw [List.any_map, List.any_filter]
    have : ∀ m ∈ b.mt, (!decide (m.num = 0) && inM m x.name y) = (decide (x.name ∈ m.who) && (decide (m.at_ ≤ y) && decide (y < m.at_ + m.hrs))) := fun m hm => by
      have := hn m hm
      rw [decide_eq_false (by omega)]; rfl
    rw [Bool.eq_iff_iff, List.any_eq_true, List.any_eq_true]
    constructor
    · rintro ⟨m, hm, z⟩; exact ⟨m, hm, by rw [this m hm] at z; exact z⟩
    · rintro ⟨m, hm, z⟩; exact ⟨m, hm, by rw [this m hm]; exact z⟩
  unfold openB freeB openL
  rw [e1, e2, e3, e4]
  cases (x.mt.any fun z => decide (z.1 ≤ y) && decide (y < z.1 + z.2)) <;> cases (x.fr.any fun r => covers r y) <;> cases (x.bz.any fun r => covers r y) <;> rfl
def RowsL (vs : List PRow) (h last : Int) : Int → List PyData → Int → Prop
  | x, [], y => x = y
  | x, r :: rs, y => ∃ v ∈ vs, ∃ z : Int, x ≤ z ∧ z < x + h ∧ x ≤ last ∧ openL v z = false ∧ r = .tuple [.int x, .int (if last < z then last else z), .str v.name, .int z] ∧ RowsL vs h last (z + 1) rs y
def AllL (vs : List PRow) (x h : Int) : Prop := ∀ k : Int, 0 ≤ k → k < h → ∀ v ∈ vs, openL v (x + k) = true
structure FoundL (vs : List PRow) (h st en : Int) (f : PyData) (rs : List PyData) : Prop where
  ex : ∃ y, RowsL vs h (en - h) st rs y ∧ ((y ≤ en - h ∧ AllL vs y h ∧ f = .int y) ∨ (en - h < y ∧ f = .none))
theorem FoundL.kind {vs : List PRow} {h st en : Int} {f : PyData} {rs : List PyData} (F : FoundL vs h st en f rs) : f = .none ∨ ∃ y, f = .int y := by
  obtain ⟨y, _, z⟩ := F.ex
  rcases z with ⟨_, _, z⟩ | ⟨_, z⟩
  · exact .inr ⟨y, z⟩
  · exact .inl z
theorem RowsL.len {vs : List PRow} {h last y : Int} : ∀ {rs : List PyData} {x : Int}, RowsL vs h last x rs y → (rs.length : Int) ≤ y - x
  | [], x, e => by
    obtain rfl : x = y := e
    simp
  | q :: rs, x, ⟨v, hv, z, a1, a2, a3, a4, a5, a6⟩ => by
    have := a6.len
    rw [List.length_cons]
    omega
theorem RowsL.none {vs : List PRow} {h last y : Int} : ∀ {rs : List PyData} {x : Int}, RowsL vs h last x rs y → ∀ t, x ≤ t → t < y → ¬ AllL vs t h
  | [], x, e, t, h1, h2 => by
    obtain rfl : x = y := e
    omega
  | q :: rs, x, ⟨v, hv, z, a1, a2, a3, a4, a5, a6⟩, t, h1, h2 => fun ha => by
    by_cases ht : t ≤ z
    · have := ha (z - t) (by omega) (by omega) v hv
      rw [show t + (z - t) = z by omega, a4] at this
      cases this
    · exact a6.none t (by omega) h2 ha
theorem RowsL.hi {vs : List PRow} {h last y : Int} : ∀ {rs : List PyData} {x : Int}, RowsL vs h last x rs y → y = x ∨ y ≤ last + h
  | [], x, e => .inl (Eq.symm e)
  | q :: rs, x, ⟨v, hv, z, a1, a2, a3, a4, a5, a6⟩ => by
    have := a6.hi
    omega
def allL (vs : List PRow) (x h : Int) : Bool := (List.range h.toNat).all fun k : Nat => vs.all fun v => openL v (x + (k : Int))
def firstL (vs : List PRow) (h st en : Int) : PyData := match (List.range (en - st - h + 1).toNat).find? (fun k : Nat => allL vs (st + (k : Int)) h) with
  | some k => .int (st + (k : Int))
  | none => .none
theorem allL_iff {vs : List PRow} {x h : Int} : allL vs x h = true ↔ AllL vs x h := by
  unfold allL AllL
  rw [List.all_eq_true]
  constructor
  · intro H k k1 k2 v hv
    have := H k.toNat (List.mem_range.mpr (by omega))
    rw [List.all_eq_true] at this
    have h2 := this v hv
    rwa [show (k.toNat : Int) = k by omega] at h2
  · intro H k hk
    have hk := List.mem_range.mp hk
    rw [List.all_eq_true]
    exact fun v hv => H k (by omega) (by omega) v hv
theorem FoundL.first {vs : List PRow} {h st en : Int} {f : PyData} {rs : List PyData} (F : FoundL vs h st en f rs) : f = firstL vs h st en := by
  obtain ⟨y, hr, hy⟩ := F.ex
  have hle : st ≤ y := by have := hr.len; omega
  have hn : ∀ k : Nat, k < (y - st).toNat → allL vs (st + (k : Int)) h = false := fun k hk => by
    rw [← Bool.not_eq_true]
    exact fun z => hr.none (st + (k : Int)) (by omega) (by omega) (allL_iff.mp z)
  unfold firstL
  rcases hy with ⟨h1, h2, rfl⟩ | ⟨h1, rfl⟩
  · rw [find_at (m := (y - st).toNat) (by omega) (by rw [show st + (((y - st).toNat : Nat) : Int) = y by omega]; exact allL_iff.mpr h2) hn]
    simp only [PyData.int.injEq]; omega
  · rw [find_none fun k hk => hn k (by omega)]
/-- what the book tells, in the law's rows -/
theorem Found.rows {mt : List Meet} {ps : List Pers} {vs : List PRow} {h st en : Int} {f : PyData} {rs : List PyData} (F : Found mt ps h st en 0 f rs)
    (h1 : ∀ p ∈ ps, ∃ v ∈ vs, v.name = p.name ∧ ∀ y, openB mt p y 0 = openL v y) (h2 : ∀ v ∈ vs, ∃ p ∈ ps, ∀ y, openB mt p y 0 = openL v y) : FoundL vs h st en f rs := by
  have conv : ∀ {rs : List PyData} {x y : Int}, RowsAt mt ps h (en - h) 0 x rs y → RowsL vs h (en - h) x rs y := by
    intro rs
    induction rs with
    | nil => intro x y e; exact e
    | cons r rs ih =>
      rintro x y ⟨p, hp, z, a1, a2, a3, a4, a5, a6⟩
      obtain ⟨v, hv, hn, ho⟩ := h1 p hp
      exact ⟨v, hv, z, a1, a2, a3, by rw [← ho]; exact a4, by rw [hn]; exact a5, ih a6⟩
  obtain ⟨y, hr, hy⟩ := F.ex
  refine ⟨y, conv hr, hy.imp (fun ⟨a, c, d⟩ => ⟨a, fun k k1 k2 v hv => ?_, d⟩) id⟩
  obtain ⟨p, hp, ho⟩ := h2 v hv
  rw [← ho]
  exact c k k1 k2 p hp
theorem pick_rows {b : Bk} {xs : List PRow} (h : Cor b xs) : ∀ {vs : List PRow}, (∀ v ∈ vs, v ∈ xs) → ∃ ps : List Pers, (∀ p ∈ ps, p ∈ b.ps) ∧ ps.map Pers.one = vs.map PRow.one
  | [], _ => ⟨[], (fun p hp => by cases hp), rfl⟩
  | v :: vs, hv => by
    obtain ⟨ps, h1, h2⟩ := pick_rows h (vs := vs) fun w hw => hv w (List.mem_cons_of_mem _ hw)
    obtain ⟨p, hp, e⟩ := h.pe v (hv v List.mem_cons_self)
    refine ⟨p :: ps, fun r hr => ?_, by rw [List.map_cons, List.map_cons, h2, e]⟩
    rcases List.mem_cons.mp hr with rfl | hr
    · exact hp
    · exact h1 r hr
theorem ones_names {ps : List Pers} {vs : List PRow} (h : ps.map Pers.one = vs.map PRow.one) : ps.map (·.name) = vs.map PRow.name := by
  have e1 : ps.map (·.name) = (ps.map Pers.one).map One.name := by rw [List.map_map]; rfl
  have e2 : vs.map PRow.name = (vs.map PRow.one).map One.name := by rw [List.map_map]; rfl
  rw [e1, e2, h]
theorem Cor.found {b : Bk} {xs vs : List PRow} {ps : List Pers} {h st en : Int} {f : PyData} {rs : List PyData} (hc : Cor b xs) (hv : ∀ v ∈ vs, v ∈ xs) (hp : ps.map Pers.one = vs.map PRow.one) (F : Found b.mt ps h st en 0 f rs) : FoundL vs h st en f rs := by
  refine F.rows (fun p hpp => ?_) fun v hvv => ?_
  · have : p.one ∈ vs.map PRow.one := by rw [← hp]; exact List.mem_map_of_mem hpp
    obtain ⟨v, hvv, e⟩ := List.mem_map.mp this
    exact ⟨v, hvv, congrArg One.name e, fun y => open_row e.symm (hc.mt v (hv v hvv)) (fun m hm => (hc.num m hm).1) y⟩
  · have : v.one ∈ ps.map Pers.one := by rw [hp]; exact List.mem_map_of_mem hvv
    obtain ⟨p, hpp, e⟩ := List.mem_map.mp this
    exact ⟨p, hpp, fun y => open_row e (hc.mt v (hv v hvv)) (fun m hm => (hc.num m hm).1) y⟩
/-! all that the law holds -/
def Kept (d : PyData) : Prop := ∃ r : PyData, d = .tuple [r, .str (PyData.shown r)] ∧ SeqAt.shaped r = true ∧ PyData.showable r = true ∧ PyData.hasDict r = false ∧ PyData.depth r ≤ 64 ∧ (PyData.shown r).length ≤ sizeLine
structure Wd (C : Addr) (s : US) (b : Bk) (q : Addr) (xs : List PRow) (qv : Addr) (vs : List PRow) (a l : Addr) (h st en : Int) (lv : List V) (kept : List PyData) : Prop where
  bk : BkAt C s b
  pe : PeAt s q xs
  rk : ∀ x ∈ xs, RowOk x
  xn : (xs.map PRow.name).Nodup
  vw : (qv, HO.lst (refsR vs)) ∈ s.cells
  vsub : ∀ v ∈ vs, v ∈ xs
  vne : 1 ≤ vs.length ∧ vs.length ≤ 20
  vn : (vs.map PRow.name).Nodup
  ca : (a, HO.lst [.int h, .int st, .int en, .ref l]) ∈ s.cells
  cl : LsU s l lv kept
  kk : ∀ d ∈ kept, Kept d
  hh : 1 ≤ h ∧ h ≤ 48
  hs : 0 ≤ st ∧ st ≤ en ∧ en < 1000000000000 ∧ en ≤ st + 10000
  d1 : ∀ x ∈ b.adr, x ∉ peAdr q xs ∧ x ≠ qv ∧ x ≠ a ∧ x ≠ l
  d2 : ∀ x ∈ peAdr q xs, x ≠ qv ∧ x ≠ a ∧ x ≠ l
  d3 : qv ≠ l ∧ a ≠ l ∧ qv ≠ a
theorem Wd.vok {C : Addr} {s : US} {b : Bk} {q : Addr} {xs : List PRow} {qv : Addr} {vs : List PRow} {a l : Addr} {h st en : Int} {lv : List V} {kept : List PyData} (w : Wd C s b q xs qv vs a l h st en lv kept) (hm : ∀ x ∈ xs, x.mt.length ≤ 30) : (qv, HO.lst (refsR vs)) ∈ s.cells ∧ (∀ v ∈ vs, RowAt s v ∧ RowOk v ∧ v.mt.length ≤ 1000) ∧ vs.length ≤ 20 :=
  ⟨w.vw, fun v hv => ⟨w.pe.ro v (w.vsub v hv), w.rk v (w.vsub v hv), by have := hm v (w.vsub v hv); omega⟩, w.vne.2⟩
/-- nothing but the list of what was told changes -/
theorem Wd.ask {C : Addr} {s s2 : US} {b : Bk} {q : Addr} {xs : List PRow} {qv : Addr} {vs : List PRow} {a l : Addr} {h st en : Int} {lv lv2 : List V} {kept kept2 : List PyData} (w : Wd C s b q xs qv vs a l h st en lv kept) (k : Keeps s s2 [l]) (hl : LsU s2 l lv2 kept2) (hk : ∀ d ∈ kept2, Kept d) : Wd C s2 b q xs qv vs a l h st en lv2 kept2 :=
  ⟨w.bk.keep k (fun x hx z => (w.d1 x hx).2.2.2 (by simpa using z)), w.pe.keep k (fun x hx z => (w.d2 x hx).2.2 (by simpa using z)), w.rk, w.xn, k.cell _ w.vw (by simpa using w.d3.1), w.vsub, w.vne, w.vn, k.cell _ w.ca (by simpa using w.d3.2.1), hl, hk, w.hh, w.hs, w.d1, w.d2, w.d3⟩
theorem shaped_row (x b1 z : Int) {n : Str} (h : PyData.strOk n = true) : PyData.canLay0 (.tuple [.int x, .int b1, .str n, .int z]) = true ∧ PyData.depth (.tuple [.int x, .int b1, .str n, .int z]) = 1 := by
  constructor
  · simp [PyData.canLay0, PyData.canLayAll0, h]
  · simp [PyData.depth, PyData.depthAll]
theorem Th.name {n : Str} (h : nameB (.str n) = true) (hl : n.length ≤ 12) (k : Nat) : Th (.str n) 130 k := by
  have hs := name_str h
  have small : ∀ c ∈ n.cps.toList, c < 16 ^ 8 := by
    have h0 : (n.cps.all fun c => decide (c < 1114112)) = true := hs
    rw [← Array.all_toList, List.all_eq_true] at h0
    exact fun c hc => Nat.lt_trans (of_decide_eq_true (h0 c hc)) (by decide)
  have e : PyData.shown (.str n) = reprText n := by simp only [PyData.shown]
  have := PySem.StrLaws.reprText_len n small
  exact ⟨by simpa only [PyData.canLay0] using hs, by simp only [PyData.showable], by simp only [PyData.hasDict], by simp [PyData.depth], by rw [e]; omega⟩
theorem RowsL.th {vs : List PRow} {h last y : Int} (ho : ∀ v ∈ vs, RowOk v) (hl : last + h ≤ 1000000000000) (h0 : 0 ≤ h) : ∀ {rs : List PyData} {x : Int}, 0 ≤ x → RowsL vs h last x rs y → ∀ r ∈ rs, Th r 300 1
  | [], x, _, _ => fun r hr => by cases hr
  | q :: rs, x, hx, ⟨v, hv, z, a1, a2, a3, a4, a5, a6⟩ => fun r hr => by
    rcases List.mem_cons.mp hr with rfl | hr
    · have b1 : 0 ≤ (if last < z then last else z) ∧ (if last < z then last else z) ≤ z := by split <;> omega
      subst a5
      have hT := (Ths.cons (Th.int (i := x) ⟨by omega, by omega⟩ 0) (Ths.cons (Th.int (i := if last < z then last else z) ⟨by omega, by omega⟩ 0) (Ths.cons (Th.name (ho v hv).nm (ho v hv).nl 0) (Ths.cons (Th.int (i := z) ⟨by omega, by omega⟩ 0) Ths.nil)))).tup
      exact hT.le (by omega) (by omega)
    · exact RowsL.th ho hl h0 (by omega) a6 r hr
theorem FoundL.th {vs : List PRow} {h st en : Int} {f : PyData} {rs : List PyData} (F : FoundL vs h st en f rs) (ho : ∀ v ∈ vs, RowOk v) (hh : 1 ≤ h ∧ h ≤ 48) (hs : 0 ≤ st ∧ st ≤ en ∧ en < 1000000000000 ∧ en ≤ st + 10000) : Th (.tuple [f, .list rs]) 5000000 5 := by
  obtain ⟨y, hr, hy⟩ := F.ex
  have h1 := hr.th ho (by omega) (by omega) hs.1
  have h2 := (Ths.all h1).lst
  have h3 := hr.len
  have h4 := hr.hi
  have hrl : rs.length ≤ 10100 := by omega
  have hf : Th f 14 2 := by
    rcases hy with ⟨z1, _, rfl⟩ | ⟨_, rfl⟩
    · exact Th.int ⟨by omega, by omega⟩ 2
    · exact ⟨rfl, rfl, rfl, by decide, by decide +kernel⟩
  exact (Ths.cons hf (Ths.cons h2 Ths.nil)).tup.le (by omega) (by decide)
theorem Th.kept {r : PyData} (h : Th r 5000000 5) : Kept (.tuple [r, .str (PyData.shown r)]) := by
  obtain ⟨h1, h2, h3, h4, h5⟩ := h
  refine ⟨r, rfl, ?_, h2, h3, by omega, Nat.le_trans h5 (by decide)⟩
  unfold SeqAt.shaped
  rw [h1, decide_eq_true (by omega)]; rfl
theorem FoundL.shaped {vs : List PRow} {h st en : Int} {f : PyData} {rs : List PyData} (F : FoundL vs h st en f rs) : SeqAt.shaped f = true := by
  rcases F.kind with rfl | ⟨y, rfl⟩ <;> rfl
theorem putR_self {x : PRow} {xs : List PRow} (nd : (xs.flatMap PRow.adr).Nodup) (hx : x ∈ xs) : putR x x xs = xs := by
  unfold putR
  conv => rhs; rw [← List.map_id xs]
  refine List.map_congr_left fun z hz => ?_
  split
  · rename_i e
    exact row_dis nd hx hz (a := x.r) (by simp [PRow.adr]) (by rw [← e]; simp [PRow.adr])
  · rfl
theorem putR_vs {x : PRow} {xs vs : List PRow} (nd : (xs.flatMap PRow.adr).Nodup) (hx : x ∈ xs) (hv : ∀ v ∈ vs, v ∈ xs) : putR x x vs = vs := by
  unfold putR
  conv => rhs; rw [← List.map_id vs]
  refine List.map_congr_left fun z hz => ?_
  split
  · rename_i e
    exact row_dis nd hx (hv z hz) (a := x.r) (by simp [PRow.adr]) (by rw [← e]; simp [PRow.adr])
  · rfl
theorem putR_putR {x y z : PRow} {xs : List PRow} (h : y.r = x.r) : putR y z (putR x y xs) = putR x z xs := by
  unfold putR
  rw [List.map_map]
  refine List.map_congr_left fun w _ => ?_
  show (if (if w.r = x.r then y else w).r = y.r then z else (if w.r = x.r then y else w)) = if w.r = x.r then z else w
  by_cases e : w.r = x.r
  · rw [if_pos e, if_pos rfl, if_pos e]
  · rw [if_neg e, if_neg (by rw [h]; exact e), if_neg e]
theorem putR_in {x y : PRow} {xs : List PRow} (hx : x ∈ xs) : y ∈ putR x y xs := List.mem_map.mpr ⟨x, hx, if_pos rfl⟩
theorem putR_sub {β : Type} (f : PRow → β) {x y : PRow} {xs zs : List PRow} (nd : (xs.flatMap PRow.adr).Nodup) (hx : x ∈ xs) (hz : ∀ z ∈ zs, z ∈ xs) (h : f y = f x) : (putR x y zs).map f = zs.map f := by
  unfold putR
  rw [List.map_map]
  refine List.map_congr_left fun z hz' => ?_
  show f (if z.r = x.r then y else z) = f z
  split
  · rename_i e
    rw [h, row_dis nd hx (hz z hz') (a := x.r) (by simp [PRow.adr]) (by rw [← e]; simp [PRow.adr])]
  · rfl
section
variable {C : Addr} {s s2 : US} {b b2 : Bk} {q : Addr} {xs : List PRow} {qv : Addr} {vs : List PRow} {a l : Addr} {h st en : Int} {lv : List V} {kept : List PyData} {own : List Addr} {x y : PRow}
theorem Wd.book (w : Wd C s b q xs qv vs a l h st en lv kept) (hb : BkAt C s2 b2) (ha : b2.adr = b.adr) (k : Keeps s s2 own) (ho : ∀ a ∈ own, a ∈ b.adr) : Wd C s2 b2 q xs qv vs a l h st en lv kept :=
  ⟨hb, w.pe.keep k (fun x hx m => (w.d1 x (ho x m)).1 hx), w.rk, w.xn, k.cell _ w.vw (fun m => (w.d1 _ (ho _ m)).2.1 rfl), w.vsub, w.vne, w.vn, k.cell _ w.ca (fun m => (w.d1 _ (ho _ m)).2.2.1 rfl), w.cl.keep k (fun m => (w.d1 _ (ho _ m)).2.2.2 rfl), w.kk, w.hh, w.hs, by rw [ha]; exact w.d1, w.d2, w.d3⟩
theorem Wd.row (w : Wd C s b q xs qv vs a l h st en lv kept) (hx : x ∈ xs) (hp : PeAt s2 q (putR x y xs)) (k : Keeps s s2 own) (ho : ∀ a ∈ own, a ∈ x.adr) (hr : y.r = x.r) (hn : y.name = x.name) (hok : RowOk y) (hadr : ∀ a ∈ y.adr, a ∈ x.adr ∨ a ∉ s.foot) : Wd C s2 b q (putR x y xs) qv (putR x y vs) a l h st en lv kept := by
  have hin : ∀ a ∈ own, a ∈ peAdr q xs := fun a m => mem_pe hx (ho a m)
  have hnew : ∀ c ∈ peAdr q (putR x y xs), c ∈ peAdr q xs ∨ c ∉ s.foot := fun c hc => by
    rcases List.mem_cons.mp hc with rfl | hc
    · exact .inl List.mem_cons_self
    · obtain ⟨z, hz, hc2⟩ := List.mem_flatMap.mp hc
      rcases putR_mem hz with e | ⟨hz2, _⟩
      · rcases hadr c (e ▸ hc2) with m | m
        · exact .inl (mem_pe hx m)
        · exact .inr m
      · exact .inl (mem_pe hz2 hc2)
  have fv : qv ∈ s.foot := in_foot w.vw
  have fa : a ∈ s.foot := in_foot w.ca
  have fl : l ∈ s.foot := in_foot w.cl.c
  refine ⟨w.bk.keep k (fun c hc m => (w.d1 c hc).1 (hin c m)), hp, fun z hz => ?_, ?_, ?_, fun z hz => ?_, ?_, ?_, k.cell _ w.ca (fun m => (w.d2 _ (hin _ m)).2.1 rfl), w.cl.keep k (fun m => (w.d2 _ (hin _ m)).2.2 rfl), w.kk, w.hh, w.hs, fun c hc => ⟨fun m => ?_, (w.d1 c hc).2⟩, fun c hc => ?_, w.d3⟩
  · rcases putR_mem hz with rfl | ⟨hz, _⟩
    · exact hok
    · exact w.rk z hz
  · rw [putR_map _ w.pe.nd2 hx hn]; exact w.xn
  · rw [refs_put hr]; exact k.cell _ w.vw (fun m => (w.d2 _ (hin _ m)).1 rfl)
  · obtain ⟨z', hz', rfl⟩ := List.mem_map.mp hz
    split
    · exact putR_in hx
    · rename_i n
      exact List.mem_map.mpr ⟨z', w.vsub z' hz', if_neg n⟩
  · unfold putR; rw [List.length_map]; exact w.vne
  · rw [putR_sub _ w.pe.nd2 hx w.vsub hn]; exact w.vn
  · rcases hnew c m with m | m
    · exact (w.d1 c hc).1 m
    · exact m (w.bk.foot c hc)
  · rcases hnew c hc with m | m
    · exact w.d2 c m
    · exact ⟨fun e => m (e ▸ fv), fun e => m (e ▸ fa), fun e => m (e ▸ fl)⟩
end
theorem name_row {xs : List PRow} : (xs.map PRow.name).Nodup → ∀ {a c : PRow}, a ∈ xs → c ∈ xs → a.name = c.name → a = c := by
  induction xs with
  | nil => intro _ a c ha; cases ha
  | cons p l ih =>
    intro nn a c ha hc e
    rw [List.map_cons, List.nodup_cons] at nn
    rcases List.mem_cons.mp ha with e1 | ha
    · rcases List.mem_cons.mp hc with e2 | hc
      · rw [e1, e2]
      · exact absurd (List.mem_map.mpr ⟨c, hc, by rw [← e, e1]⟩) nn.1
    · rcases List.mem_cons.mp hc with e2 | hc
      · exact absurd (List.mem_map.mpr ⟨a, ha, by rw [e, e2]⟩) nn.1
      · exact ih nn.2 ha hc e
def covM (mt : List (Int × Int)) (y : Int) : Bool := mt.any fun m => decide (m.1 ≤ y) && decide (y < m.1 + m.2)
def busyL (mt : List (Int × Int)) : List PyData → List Rule
  | [] => []
  | .int y :: r => (if covM mt y = true then [] else [.once y 1]) ++ busyL mt r
  | _ :: r => busyL mt r
theorem busyL_snoc (mt : List (Int × Int)) (d : PyData) : ∀ ds : List PyData, busyL mt (ds ++ [d]) = busyL mt ds ++ busyL mt [d]
  | [] => rfl
  | .int y :: r => by
    show _ ++ busyL mt (r ++ [d]) = (_ ++ busyL mt r) ++ busyL mt [d]
    rw [busyL_snoc mt d r, List.append_assoc]
  | .none :: r => busyL_snoc mt d r
  | .bool _ :: r => busyL_snoc mt d r
  | .str _ :: r => busyL_snoc mt d r
  | .list _ :: r => busyL_snoc mt d r
  | .tuple _ :: r => busyL_snoc mt d r
  | .dict _ :: r => busyL_snoc mt d r
theorem busyL_len (mt : List (Int × Int)) : ∀ ds : List PyData, (busyL mt ds).length ≤ ds.length
  | [] => Nat.le_refl _
  | .int y :: r => by
    have := busyL_len mt r
    show ((if covM mt y = true then ([] : List Rule) else [.once y 1]) ++ busyL mt r).length ≤ _
    rw [List.length_append, List.length_cons]
    split <;> simp <;> omega
  | .none :: r => Nat.le_succ_of_le (busyL_len mt r)
  | .bool _ :: r => Nat.le_succ_of_le (busyL_len mt r)
  | .str _ :: r => Nat.le_succ_of_le (busyL_len mt r)
  | .list _ :: r => Nat.le_succ_of_le (busyL_len mt r)
  | .tuple _ :: r => Nat.le_succ_of_le (busyL_len mt r)
  | .dict _ :: r => Nat.le_succ_of_le (busyL_len mt r)
theorem once_cov {y t : Int} (h : t ≠ y) : covers (.once y 1) t = false := by
  unfold covers
  refine List.any_eq_false.mpr fun k hk => ?_
  have hk : k ∈ List.range ((1 : Int)).toNat := hk
  have hk := List.mem_range.mp hk
  have e : t - (0 + (k : Int)) = t := by omega
  rw [e]
  unfold begins
  simp only [beg, decide_eq_false h, Bool.and_false]; simp
theorem PeAt.upd2 {s s2 : US} {q : Addr} {xs : List PRow} {x y : PRow} {own : List Addr} (h : PeAt s q xs) (hx : x ∈ xs) (k : Keeps s s2 own) (ho : ∀ a ∈ own, a ∈ x.adr) (hr : y.r = x.r) (hy : RowAt s2 y) (hyn : y.adr.Nodup) (hn : ∀ a ∈ y.adr, a ∈ x.adr ∨ a ∉ peAdr q xs) : PeAt s2 q (putR x y xs) := by
  have nd := h.nd
  unfold peAdr at nd
  rw [List.nodup_cons] at nd
  have hq : q ∉ own := fun m => nd.1 (List.mem_flatMap.mpr ⟨x, hx, ho q m⟩)
  refine ⟨by rw [refs_put hr]; exact k.cell _ h.li hq, fun z hz => ?_, ?_⟩
  · rcases putR_mem hz with rfl | ⟨hz, n⟩
    · exact hy
    · refine (h.ro z hz).keep k fun a ha m => n ?_
      rw [row_dis nd.2 hz hx ha (ho a m)]
  · unfold peAdr
    rw [List.nodup_cons]
    refine ⟨fun m => ?_, putR_nd hyn nd.2 hx fun a ha => (hn a ha).imp id fun z m => z (List.mem_cons_of_mem _ m)⟩
    obtain ⟨w, hw, ha⟩ := List.mem_flatMap.mp m
    rcases putR_mem hw with rfl | ⟨hw, _⟩
    · rcases hn q ha with h1 | h1
      · exact nd.1 (List.mem_flatMap.mpr ⟨x, hx, h1⟩)
      · exact h1 List.mem_cons_self
    · exact nd.1 (List.mem_flatMap.mpr ⟨w, hw, ha⟩)
theorem PeAt.setM {s : US} {q p : Addr} {xs : List PRow} {x : PRow} {vs : List V} {mt : List (Int × Int)} (h : PeAt s q xs) (hx : x ∈ xs) (hp : p ∉ s.foot) :
    PeAt ((s.add [(p, .lst vs)] [(vs, mt.map pairD)]).put x.r (.lst (x.cell.set 3 (.ref p))) []) q (putR x { x with m := p, mt := mt, mv := vs } xs) := by
  obtain ⟨⟨a1, a2, a3⟩, ⟨a4, a5⟩, a6⟩ := h.ndr hx
  have hr := h.ro x hx
  have ff := hr.foot
  have np : ∀ a ∈ x.adr, p ≠ a := fun a ha e => hp (e ▸ ff a ha)
  have k1 : Keeps s (s.add [(p, .lst vs)] [(vs, mt.map pairD)]) [x.r] := add_keeps
  have kp : Keeps (s.add [(p, .lst vs)] [(vs, mt.map pairD)]) ((s.add [(p, .lst vs)] [(vs, mt.map pairD)]).put x.r (.lst (x.cell.set 3 (.ref p))) []) [x.r] := put_keeps
  have kk := k1.trans kp
  refine h.upd hx kk (by simp [PRow.adr]) rfl ⟨put_mem (List.mem_append_right _ hr.c), hr.f.keep kk (by simpa using a1.symm), hr.t.keep kk (by simpa using a2.symm), ⟨kp.cell _ (by simp [US.add]) (by simpa using np x.r (by simp [PRow.adr])), kp.rel _ (by simp [US.add])⟩⟩ ?_ ?_
  · have n1 := np x.r (by simp [PRow.adr])
    have n2 := np x.f (by simp [PRow.adr])
    have n3 := np x.t (by simp [PRow.adr])
    simp [PRow.adr, a1, a2, a4, n1.symm, n2.symm, n3.symm]
  · intro a ha
    simp only [PRow.adr, List.mem_cons, List.not_mem_nil, or_false] at ha ⊢
    rcases ha with rfl | rfl | rfl | rfl
    · exact .inl (.inl rfl)
    · exact .inl (.inr (.inl rfl))
    · exact .inl (.inr (.inr (.inl rfl)))
    · exact .inr hp
theorem PeAt.backM {s : US} {q p : Addr} {xs : List PRow} {x : PRow} {vs : List V} {mt : List (Int × Int)} (h : PeAt s q xs) (hx : x ∈ xs) (hp : p ∉ peAdr q xs) (hl : LsU s p vs (mt.map pairD)) :
    PeAt (s.put x.r (.lst (x.cell.set 3 (.ref p))) []) q (putR x { x with m := p, mt := mt, mv := vs } xs) ∧ Keeps s (s.put x.r (.lst (x.cell.set 3 (.ref p))) []) [x.r] := by
  obtain ⟨⟨a1, a2, a3⟩, ⟨a4, a5⟩, a6⟩ := h.ndr hx
  have hr := h.ro x hx
  have np : ∀ a ∈ x.adr, p ≠ a := fun a ha e => hp (e ▸ mem_pe hx ha)
  have kk : Keeps s (s.put x.r (.lst (x.cell.set 3 (.ref p))) []) [x.r] := put_keeps
  refine ⟨h.upd2 hx kk (by simp [PRow.adr]) rfl ⟨put_mem hr.c, hr.f.keep kk (by simpa using a1.symm), hr.t.keep kk (by simpa using a2.symm), hl.keep kk (by simpa using np x.r (by simp [PRow.adr]))⟩ ?_ ?_, kk⟩
  · have n1 := np x.r (by simp [PRow.adr])
    have n2 := np x.f (by simp [PRow.adr])
    have n3 := np x.t (by simp [PRow.adr])
    simp [PRow.adr, a1, a2, a4, n1.symm, n2.symm, n3.symm]
  · intro a ha
    simp only [PRow.adr, List.mem_cons, List.not_mem_nil, or_false] at ha ⊢
    rcases ha with rfl | rfl | rfl | rfl
    · exact .inl (.inl rfl)
    · exact .inl (.inr (.inl rfl))
    · exact .inl (.inr (.inr (.inl rfl)))
    · exact .inr hp
section
variable {C : Addr} {s s2 : US} {b b2 : Bk} {q : Addr} {xs : List PRow} {qv : Addr} {vs : List PRow} {a l : Addr} {h st en : Int} {lv : List V} {kept : List PyData} {own : List Addr} {x y : PRow}
theorem Wd.row2 (w : Wd C s b q xs qv vs a l h st en lv kept) (hx : x ∈ xs) (hp : PeAt s2 q (putR x y xs)) (k : Keeps s s2 own) (ho : ∀ a ∈ own, a ∈ x.adr) (hr : y.r = x.r) (hn : y.name = x.name) (hok : RowOk y) (hadr : ∀ c ∈ y.adr, c ∈ x.adr ∨ (c ∉ b.adr ∧ c ≠ qv ∧ c ≠ a ∧ c ≠ l)) : Wd C s2 b q (putR x y xs) qv (putR x y vs) a l h st en lv kept := by
  have hin : ∀ a ∈ own, a ∈ peAdr q xs := fun a m => mem_pe hx (ho a m)
  have hnew : ∀ c ∈ peAdr q (putR x y xs), c ∈ peAdr q xs ∨ (c ∉ b.adr ∧ c ≠ qv ∧ c ≠ a ∧ c ≠ l) := fun c hc => by
    rcases List.mem_cons.mp hc with rfl | hc
    · exact .inl List.mem_cons_self
    · obtain ⟨z, hz, hc2⟩ := List.mem_flatMap.mp hc
      rcases putR_mem hz with e | ⟨hz2, _⟩
      · rcases hadr c (e ▸ hc2) with m | m
        · exact .inl (mem_pe hx m)
        · exact .inr m
      · exact .inl (mem_pe hz2 hc2)
  refine ⟨w.bk.keep k (fun c hc m => (w.d1 c hc).1 (hin c m)), hp, fun z hz => ?_, ?_, ?_, fun z hz => ?_, ?_, ?_, k.cell _ w.ca (fun m => (w.d2 _ (hin _ m)).2.1 rfl), w.cl.keep k (fun m => (w.d2 _ (hin _ m)).2.2 rfl), w.kk, w.hh, w.hs, fun c hc => ⟨fun m => ?_, (w.d1 c hc).2⟩, fun c hc => ?_, w.d3⟩
  · rcases putR_mem hz with rfl | ⟨hz, _⟩
    · exact hok
    · exact w.rk z hz
  · rw [putR_map _ w.pe.nd2 hx hn]; exact w.xn
  · rw [refs_put hr]; exact k.cell _ w.vw (fun m => (w.d2 _ (hin _ m)).1 rfl)
  · obtain ⟨z', hz', rfl⟩ := List.mem_map.mp hz
    split
    · exact putR_in hx
    · rename_i n
      exact List.mem_map.mpr ⟨z', w.vsub z' hz', if_neg n⟩
  · unfold putR; rw [List.length_map]; exact w.vne
  · rw [putR_sub _ w.pe.nd2 hx w.vsub hn]; exact w.vn
  · rcases hnew c m with m | m
    · exact (w.d1 c hc).1 m
    · exact m.1 hc
  · rcases hnew c hc with m | m
    · exact w.d2 c m
    · exact m.2
theorem Cor.row {b5 : Bk} {m5 : Meet} {z : PRow} (co : Cor b xs) (xn : (xs.map PRow.name).Nodup) (hx : x ∈ xs) (h1 : b5.ps = b.ps) (h2 : b5.mt = b.mt ++ [m5]) (h3 : m5.who = [x.name]) (h4 : m5.num = b.given + 1) (h5 : b5.given = b.given + 1) (z1 : z.one = x.one) (zr : z.r = x.r) (z2 : z.mt = x.mt ++ [(m5.at_, m5.hrs)]) : Cor b5 (putR x z xs) := by
  have zn : z.name = x.name := congrArg One.name z1
  have hg := co.gv
  refine ⟨fun w hw => ?_, fun w hw => ?_, fun m hm => ?_, by omega⟩
  · rw [h1]
    rcases putR_mem hw with rfl | ⟨hw, _⟩
    · rw [z1]; exact co.pe x hx
    · exact co.pe w hw
  · rw [h2, met_app, h3]
    rcases putR_mem hw with rfl | ⟨hw, hr⟩
    · rw [z2, zn, co.mt x hx, if_pos (by simp)]
    · have hne : w.name ≠ x.name := fun e => hr (by rw [name_row xn hw hx e])
      rw [if_neg (by simpa using hne), List.append_nil, co.mt w hw]
  · rw [h2] at hm
    rcases List.mem_append.mp hm with hm | hm
    · have := co.num m hm; omega
    · rw [List.mem_singleton] at hm; subst hm; omega
end
theorem firstL_shaped (vs : List PRow) (h st en : Int) : SeqAt.shaped (firstL vs h st en) = true ∧ PyData.eqv (firstL vs h st en) (firstL vs h st en) = true ∧ (0 ≤ st → PyData.eqv (firstL vs h st en) (.int (-1)) = false) := by
  unfold firstL
  split
  · rename_i k _
    refine ⟨rfl, by simp [PyData.eqv], fun z => ?_⟩
    simp [PyData.eqv]; omega
  · refine ⟨rfl, by simp [PyData.eqv], fun _ => by simp [PyData.eqv]⟩
/-! those who are free from an hour on -/
def everyAt (v : PRow) : Int := match v.fr with
  | [.every t _ _] => t
  | _ => 0
structure WideOk (vs us : List PRow) (x : PRow) (T : List Int) (st : Int) : Prop where
  fr : ∀ v ∈ vs, v.fr = [.every (everyAt v) 1 1] ∧ v.mt = []
  vs : vs = us ++ [x]
  bz : ∀ v ∈ us, v.bz = []
  bx : x.bz = T.map fun t => .once t 1
  T : T = [] ∨ (∃ t2, T = [t2] ∧ t2 < st + 2000) ∨ ∃ t1 t2, T = [t1, t2] ∧ t2 < st + 2000
theorem every_cov (t y : Int) : covers (.every t 1 1) y = (decide (0 ≤ y) && decide (t ≤ y)) := by
  show ((List.range 1).any fun k : Nat => begins (.every t 1 1) (y - (0 + (k : Int)))) = _
  have e : y - (0 + ((0 : Nat) : Int)) = y := by omega
  rw [show List.range 1 = [0] from rfl, List.any_cons, List.any_nil, Bool.or_false, e]
  unfold begins
  simp only [beg, Int.emod_one, decide_true, Bool.and_true]
theorem once_cov1 (t y : Int) : covers (.once t 1) y = (decide (0 ≤ y) && decide (y = t)) := by
  show ((List.range 1).any fun k : Nat => begins (.once t 1) (y - (0 + (k : Int)))) = _
  have e : y - (0 + ((0 : Nat) : Int)) = y := by omega
  rw [show List.range 1 = [0] from rfl, List.any_cons, List.any_nil, Bool.or_false, e]
  rfl
def AllF (vs : List PRow) (y h : Int) : Prop := ∀ k : Int, 0 ≤ k → k < h → ∀ v ∈ vs, freeO v.one (y + k) = true
theorem WideOk.all {vs us : List PRow} {x : PRow} {T : List Int} {st y h : Int} (W : WideOk vs us x T st) (hh : 1 ≤ h) (hy : 0 ≤ y) : AllF vs y h ↔ (∀ v ∈ vs, everyAt v ≤ y) ∧ ∀ t ∈ T, ¬ (y ≤ t ∧ t < y + h) := by
  have one : ∀ v ∈ vs, ∀ z, 0 ≤ z → (freeO v.one z = true ↔ everyAt v ≤ z ∧ (v = x → z ∉ T) ∧ (v.bz = [] ∨ z ∉ T)) := fun v hv z hz => by
    have hb : v.bz = [] ∨ v.bz = T.map fun t => .once t 1 := by
      rw [W.vs] at hv
      rcases List.mem_append.mp hv with hv | hv
      · exact .inl (W.bz v hv)
      · rw [List.mem_singleton] at hv; rw [hv]; exact .inr W.bx
    have hT : ((T.map fun t => Rule.once t 1).any fun r => covers r z) = decide (z ∈ T) := by
      rw [List.any_map, Bool.eq_iff_iff, List.any_eq_true]
      simp only [Function.comp_apply, once_cov1, decide_eq_true hz, Bool.true_and, decide_eq_true_eq]
      constructor
      · rintro ⟨t, ht, rfl⟩; exact ht
      · exact fun m => ⟨z, m, rfl⟩
    unfold freeO
    show ((v.fr.any fun r => covers r z) && !(v.bz.any fun r => covers r z)) = true ↔ _
    rw [(W.fr v hv).1]
    simp only [List.any_cons, List.any_nil, Bool.or_false, every_cov, decide_eq_true hz, Bool.true_and]
    rcases hb with e | e
    · rw [e]
      simp only [List.any_nil, Bool.not_false, Bool.and_true, decide_eq_true_eq, true_or, and_true]
      constructor
      · refine fun g => ⟨g, fun ex => ?_⟩
        have : T.map (fun t => Rule.once t 1) = [] := by rw [← W.bx, ← ex, e]
        rw [List.map_eq_nil_iff] at this
        rw [this]; simp
      · exact fun g => g.1
    · rw [e, hT]
      simp only [Bool.and_eq_true, decide_eq_true_eq, Bool.not_eq_true', decide_eq_false_iff_not]
      constructor
      · exact fun g => ⟨g.1, fun _ => g.2, .inr g.2⟩
      · rintro ⟨g1, g2, g3 | g3⟩
        · refine ⟨g1, ?_⟩
          have : T.map (fun t => Rule.once t 1) = [] := g3
          rw [List.map_eq_nil_iff] at this
          rw [this]; simp
        · exact ⟨g1, g3⟩
  have hxv : x ∈ vs := by rw [W.vs]; simp
  constructor
  · intro H
    refine ⟨fun v hv => ?_, fun t ht hc => ?_⟩
    · have := ((one v hv (y + 0) (by omega)).mp (H 0 (by omega) (by omega) v hv)).1
      omega
    · have := ((one x hxv (y + (t - y)) (by omega)).mp (H (t - y) (by omega) (by omega) x hxv)).2.1 rfl
      exact this (by rw [show y + (t - y) = t by omega]; exact ht)
  · rintro ⟨g1, g2⟩ k k1 k2 v hv
    have hn : y + k ∉ T := fun m => g2 _ m ⟨by omega, by omega⟩
    refine (one v hv (y + k) (by omega)).mpr ⟨by have := g1 v hv; omega, fun _ => hn, .inr hn⟩
def dueT (h : Int) : Int → List Int → Int
  | D, [] => D
  | D, t :: r => dueT h (if D ≤ t ∧ t < D + h then t + 1 else D) r
theorem WideOk.due {vs us : List PRow} {x : PRow} {T : List Int} {st D0 h : Int} (W : WideOk vs us x T st) (hh : 1 ≤ h) (hs : 0 ≤ st) (h1 : st + 2000 ≤ D0) (h2 : ∀ v ∈ vs, everyAt v ≤ D0) (h3 : D0 = st + 2000 ∨ ∃ v ∈ vs, D0 = everyAt v) :
    D0 ≤ dueT h D0 T ∧ AllF vs (dueT h D0 T) h ∧ ∀ y, st + 2000 ≤ y → y < dueT h D0 T → ¬ AllF vs y h := by
  have lowy : ∀ y, st + 2000 ≤ y → AllF vs y h → D0 ≤ y := fun y hy ha => by
    have := ((W.all hh (by omega)).mp ha).1
    rcases h3 with e | ⟨v, hv, e⟩
    · omega
    · have := this v hv; omega
  rcases W.T with e | ⟨t2, e, ht2⟩ | ⟨t1, t2, e, ht2⟩
  · subst e
    refine ⟨Int.le_refl _, (W.all hh (by show 0 ≤ D0; omega)).mpr ⟨h2, fun t ht => by cases ht⟩, fun y y1 y2 ha => ?_⟩
    have := lowy y y1 ha
    have y2 : y < D0 := y2
    omega
  · subst e
    have ed : dueT h D0 [t2] = D0 := by
      show (if D0 ≤ t2 ∧ t2 < D0 + h then t2 + 1 else D0) = D0
      rw [if_neg (by omega)]
    rw [ed]
    refine ⟨Int.le_refl _, (W.all hh (by omega)).mpr ⟨h2, fun t ht => by rw [List.mem_singleton] at ht; omega⟩, fun y y1 y2 ha => ?_⟩
    have := lowy y y1 ha
    omega
  · subst e
    have ed : dueT h D0 [t1, t2] = if D0 ≤ t1 ∧ t1 < D0 + h then t1 + 1 else D0 := by
      show (if (if D0 ≤ t1 ∧ t1 < D0 + h then t1 + 1 else D0) ≤ t2 ∧ t2 < (if D0 ≤ t1 ∧ t1 < D0 + h then t1 + 1 else D0) + h then t2 + 1 else (if D0 ≤ t1 ∧ t1 < D0 + h then t1 + 1 else D0)) = _
      rw [if_neg (by split <;> omega)]
    rw [ed]
    by_cases hc : D0 ≤ t1 ∧ t1 < D0 + h
    · rw [if_pos hc]
      refine ⟨by omega, (W.all hh (by omega)).mpr ⟨fun v hv => by have := h2 v hv; omega, fun t ht => ?_⟩, fun y y1 y2 ha => ?_⟩
      · simp only [List.mem_cons, List.not_mem_nil, or_false] at ht
        rcases ht with rfl | rfl <;> omega
      · have hd := lowy y y1 ha
        exact ((W.all hh (by omega)).mp ha).2 t1 (by simp) ⟨by omega, by omega⟩
    · rw [if_neg hc]
      refine ⟨Int.le_refl _, (W.all hh (by omega)).mpr ⟨h2, fun t ht => ?_⟩, fun y y1 y2 ha => ?_⟩
      · simp only [List.mem_cons, List.not_mem_nil, or_false] at ht
        rcases ht with rfl | rfl
        · exact hc
        · omega
      · have := lowy y y1 ha
        omega
theorem max_in : ∀ (ns : List Int) (n : Int), ∃ m, m ∈ n :: ns ∧ ∀ y ∈ n :: ns, y ≤ m
  | [], n => ⟨n, by simp, fun y hy => by rw [List.mem_singleton] at hy; omega⟩
  | k :: ns, n => by
    obtain ⟨m, h1, h2⟩ := max_in ns k
    by_cases h : n ≤ m
    · refine ⟨m, List.mem_cons_of_mem _ h1, fun y hy => ?_⟩
      rcases List.mem_cons.mp hy with rfl | hy
      · exact h
      · exact h2 y hy
    · refine ⟨n, List.mem_cons_self, fun y hy => ?_⟩
      rcases List.mem_cons.mp hy with rfl | hy
      · exact Int.le_refl _
      · have := h2 y hy; omega
/-- the move: the one meeting that stands doesn't count -/
theorem Found.due {m1 : Meet} {ps : List Pers} {vs : List PRow} {h st en : Int} {f : PyData} {rs : List PyData} {D : Int} (F : Found [m1] ps h st en 1 f rs) (hm : m1.num = 1) (hp : ps.map Pers.one = vs.map PRow.one) (hD : st ≤ D) (h1 : AllF vs D h) (h2 : ∀ y, st ≤ y → y < D → ¬ AllF vs y h) : f = if en < D + h then .none else .int D := by
  have op : ∀ p y, openB [m1] p y 1 = freeO p.one y := fun p y => by
    unfold openB
    simp only [List.any_cons, List.any_nil, hm, decide_true, Bool.not_true, Bool.false_and, Bool.or_self, Bool.not_false, Bool.and_true]
    rfl
  have eq : ∀ y, AllOpen [m1] ps y h 1 ↔ AllF vs y h := fun y => by
    constructor
    · intro H k k1 k2 v hv
      have : v.one ∈ ps.map Pers.one := by rw [hp]; exact List.mem_map_of_mem hv
      obtain ⟨p, hpp, e⟩ := List.mem_map.mp this
      rw [← e, ← op]; exact H k k1 k2 p hpp
    · intro H k k1 k2 p hpp
      have : p.one ∈ vs.map PRow.one := by rw [← hp]; exact List.mem_map_of_mem hpp
      obtain ⟨v, hv, e⟩ := List.mem_map.mp this
      rw [op, ← e]; exact H k k1 k2 v hv
  obtain ⟨y, hr, hy⟩ := F.ex
  have hle : st ≤ y := by have := hr.len.1; omega
  rcases hy with ⟨y1, y2, rfl⟩ | ⟨y1, rfl⟩
  · have a1 : ¬ y < D := fun z => h2 y hle z ((eq y).mp y2)
    have a2 : ¬ D < y := fun z => hr.none D hD z ((eq D).mpr h1)
    have : y = D := by omega
    subst this
    rw [if_neg (by omega)]
  · have a2 : ¬ D < y := fun z => hr.none D hD z ((eq D).mpr h1)
    rw [if_pos (by omega)]
structure P0 (C : Addr) (s : US) (b : Bk) (q : Addr) (xs : List PRow) : Prop where
  bk : BkAt C s b
  pe : PeAt s q xs
  co : Cor b xs
  ok : ∀ x ∈ xs, RowOk x ∧ x.bz.length ≤ 2 ∧ x.mt.length ≤ 1
  nn : (xs.map PRow.name).Nodup
  dis : ∀ a ∈ b.adr, a ∉ peAdr q xs
  few : b.mt.length ≤ 1
structure Wide0 (b : Bk) (xs : List PRow) : Prop where
  bm : b.mt = []
  bg : b.given = 0
  fr : ∀ v ∈ xs, v.fr = [.every (everyAt v) 1 1] ∧ v.mt = [] ∧ v.bz = []
theorem P0.keep {C : Addr} {s s2 : US} {b : Bk} {q : Addr} {xs : List PRow} (h : P0 C s b q xs) (k : Keeps s s2 []) : P0 C s2 b q xs := ⟨h.bk.keep k (by simp), h.pe.keep k (by simp), h.co, h.ok, h.nn, h.dis, h.few⟩
theorem firstL_kind (vs : List PRow) {h st en : Int} (h1 : 1 ≤ h) (h2 : 0 ≤ st) (h3 : en < 1000000000000) : firstL vs h st en = .none ∨ ∃ y, firstL vs h st en = .int y ∧ 0 ≤ y ∧ y < 1000000000000 := by
  unfold firstL
  split
  · rename_i k hk
    have := List.mem_range.mp (List.mem_of_find?_eq_some hk)
    exact .inr ⟨_, rfl, by omega, by omega⟩
  · exact .inl rfl
theorem Wide0.ok {b : Bk} {xs vs : List PRow} (w : Wide0 b xs) (hv : ∀ v ∈ vs, v ∈ xs) (hl : 1 ≤ vs.length) (st : Int) : ∃ us x, WideOk vs us x [] st := by
  obtain ⟨us, x, e⟩ : ∃ us x, vs = us ++ [x] := ⟨vs.dropLast, vs.getLast (fun e => by rw [e] at hl; simp at hl), (List.dropLast_concat_getLast _).symm⟩
  refine ⟨us, x, ⟨fun v h => ⟨(w.fr v (hv v h)).1, (w.fr v (hv v h)).2.1⟩, e, fun v h => (w.fr v (hv v (by rw [e]; exact List.mem_append_left _ h))).2.2, ?_, .inl rfl⟩⟩
  exact (w.fr x (hv x (by rw [e]; simp))).2.2
theorem WideOk.busy {s : US} {q : Addr} {xs vs us : List PRow} {x y : PRow} {st at2 : Int} {f : PyData} (W : WideOk vs us x [] st) (pe : PeAt s q xs) (hv : ∀ v ∈ vs, v ∈ xs) (hn : (vs.map PRow.name).Nodup) (hf : f = .none ∨ ∃ y, f = .int y) (ha : at2 < st + 2000)
    (yr : y.r = x.r) (yf : y.fr = x.fr) (ym : y.mt = x.mt) (yb : y.bz = x.bz ++ busyL x.mt [f, .int at2]) : ∃ us2 T, WideOk (putR x y vs) us2 y T st ∧ T.length ≤ 5 := by
  have hx : x ∈ vs := by rw [W.vs]; simp
  have hus : ∀ z ∈ us, z.r ≠ x.r := fun z hz e => by
    have h1 : z ∈ vs := by rw [W.vs]; exact List.mem_append_left _ hz
    have h2 := row_dis pe.nd2 (hv z h1) (hv x hx) (a := x.r) (by rw [← e]; simp [PRow.adr]) (by simp [PRow.adr])
    subst h2
    rw [W.vs, List.map_append, List.nodup_append] at hn
    exact hn.2.2 _ (List.mem_map_of_mem hz) _ (by simp) rfl
  have e : putR x y vs = us ++ [y] := by
    rw [W.vs]
    unfold putR
    rw [List.map_append]
    have := putR_id (x := x) (y := y) (xs := us) hus
    unfold putR at this
    rw [this]; simp
  have ee : everyAt y = everyAt x := by unfold everyAt; rw [yf]
  have xm : x.mt = [] := (W.fr x hx).2
  have xb : x.bz = [] := W.bx
  have hfr : ∀ v ∈ putR x y vs, v.fr = [.every (everyAt v) 1 1] ∧ v.mt = [] := fun v hv2 => by
    rcases putR_mem hv2 with rfl | ⟨hv2, _⟩
    · rw [yf, ym, ee]; exact W.fr x hx
    · exact W.fr v hv2
  rcases hf with rfl | ⟨t, rfl⟩
  · refine ⟨us, [at2], ⟨hfr, e, W.bz, ?_, .inr (.inl ⟨at2, rfl, ha⟩)⟩, by show 1 ≤ 5; decide⟩
    rw [yb, xb, xm]; rfl
  · refine ⟨us, [t, at2], ⟨hfr, e, W.bz, ?_, .inr (.inr ⟨t, at2, rfl, ha⟩)⟩, by show 2 ≤ 5; decide⟩
    rw [yb, xb, xm]; rfl
theorem cutV_drop {α : Type} {f : α → V} {xs : List α} {i : Int} (h1 : 0 ≤ i) (h2 : i ≤ xs.length) : cutV (xs.map f) (some i) none = (xs.drop i.toNat).map f := by
  have e : HT.sIx (xs.map f).length 0 (some i) = i.toNat := by
    have : i = ((i.toNat : Nat) : Int) := by omega
    rw [this, HT.sIx_nat, List.length_map]; omega
  unfold cutV
  rw [e, HT.sIx_none, ← List.map_drop, List.take_of_length_le]
  rw [List.length_map, List.length_drop, List.length_map]; exact Nat.le_refl _
def zn (k : Int) : Str := nmS (fun t => if t = 0 then 25 else 20 + k) 2
theorem zn_len (k : Int) : (zn k).length = 2 := nmS_len _ _
theorem zn_good {k : Int} (h1 : 0 ≤ k) (h2 : k ≤ 5) : nameB (.str (zn k)) = true := nmS_good (by decide) (by decide) fun t _ => by split <;> omega
theorem zn_inj {j k : Int} (h1 : 0 ≤ j) (h2 : j ≤ 5) (h3 : 0 ≤ k) (h4 : k ≤ 5) (e : zn j = zn k) : j = k := by
  have := nmS_at (t := 1) e (by decide) (by decide)
  have := letN_inj (by omega) (by omega) (by omega) (by omega) this
  omega
theorem zn_not {sh c k : Int} (h1 : 0 ≤ k) (h2 : k ≤ 5) : nameOf sh c 0 ≠ zn k := by
  intro e
  have hl := congrArg Str.length e
  rw [zn_len] at hl
  unfold nameOf at e hl
  by_cases hs : sh % 6 = 4
  · rw [if_pos hs, nmS_len] at hl
    omega
  · rw [if_neg hs] at e hl
    have n1 := nlen sh (nmC sh c)
    have a1 := Int.emod_nonneg (nmC sh c / 24) (show 12 - sh / 2 % 12 ≠ 0 by omega)
    rw [nmS_len] at hl
    have := nmS_at (t := (sh / 2 % 12).toNat) e (by omega) (by omega)
    unfold nmB at this
    rw [if_pos (by omega)] at this
    by_cases ht : (sh / 2 % 12).toNat = 0
    · rw [if_pos ht] at this
      have := letN_inj (by omega) (by omega) (by omega) (by omega) this
      omega
    · rw [if_neg ht] at this
      have := letN_inj (by omega) (by omega) (by omega) (by omega) this
      omega
theorem zn_eq (k : Int) : (("z" : Str)) ++ (⟨#[letN (20 + k)]⟩ : Str) = zn k := by
  have := nmS_succ (fun t => if t = 0 then 25 else 20 + k) 1
  have e : nmS (fun t => if t = 0 then 25 else 20 + k) 1 = "z" := by
    show (⟨((List.range 1).map fun t => letN (if t = 0 then 25 else 20 + k)).toArray⟩ : Str) = "z"
    have h : ((List.range 1).map fun t => letN (if t = 0 then 25 else 20 + k)) = [letN 25] := rfl
    rw [h]
    decide +kernel
  rw [e] at this
  exact this
theorem zn_at : ∀ i : Fin 6, atI (("uvwxyz" : Str)).cps.toList ((i.1 : Nat) : Int) = some (letN (20 + ((i.1 : Nat) : Int))) := by decide +kernel
theorem kept_all : ∀ {kept : List PyData}, (∀ d ∈ kept, Kept d) → ∃ rs : List PyData, kept = rs.map (fun r => .tuple [r, .str (PyData.shown r)]) ∧ ∀ r ∈ rs, PyData.showable r = true ∧ PyData.hasDict r = false ∧ PyData.depth r ≤ 64 ∧ (PyData.shown r).length ≤ sizeLine
  | [], _ => ⟨[], rfl, fun r hr => by cases hr⟩
  | d :: ds, h => by
    obtain ⟨rs, h1, h2⟩ := kept_all (kept := ds) fun x hx => h x (List.mem_cons_of_mem _ hx)
    obtain ⟨r, rfl, g1, g2, g3, g4, g5⟩ := h d List.mem_cons_self
    refine ⟨r :: rs, by rw [h1]; rfl, fun x hx => ?_⟩
    rcases List.mem_cons.mp hx with rfl | hx
    · exact ⟨g2, g3, g4, g5⟩
    · exact h2 x hx
def met0 (b : Bk) (xs : List PRow) : Prop := b.mt.length ≤ 20 ∧ ∀ x ∈ xs, x.mt.length ≤ 30

abbrev s__wall : Stmt := topS 0
abbrev s_is_whole : Stmt := topS 14
abbrev s_is_between : Stmt := topS 15
abbrev s_month_days : Stmt := topS 16
abbrev s_date_of : Stmt := topS 17
abbrev s_from_end : Stmt := topS 18
abbrev s_blocked : Stmt := topS 20
abbrev s_search : Stmt := topS 21
abbrev s_is_time : Stmt := topS 29
abbrev s_is_length : Stmt := topS 30
abbrev s_is_row : Stmt := topS 31
abbrev s_is_plain : Stmt := topS 32
abbrev s_is_rule : Stmt := topS 33
abbrev s_innermost : Stmt := topS 34
abbrev s_length_of : Stmt := topS 35
abbrev s_plain_begins : Stmt := topS 36
abbrev s_begins : Stmt := topS 37
abbrev s_covers : Stmt := topS 38
abbrev s_is_name : Stmt := topS 44
abbrev s__law_cell_at : Stmt := topS 47
abbrev s__law_whole : Stmt := topS 48
abbrev s__law_days : Stmt := topS 49
abbrev s__law_in_month : Stmt := topS 50
abbrev s__law_plain_begins : Stmt := topS 51
abbrev s__law_bearing : Stmt := topS 52
abbrev s__law_heads : Stmt := topS 53
abbrev s__law_begun : Stmt := topS 54
abbrev s__law_size : Stmt := topS 55
abbrev s__law_weekdays : Stmt := topS 56
abbrev s__law_plain_by : Stmt := topS 57
abbrev s__law_head_by : Stmt := topS 58
abbrev s__law_far : Stmt := topS 59
abbrev s__law_in_time : Stmt := topS 60
abbrev s__law_name_by : Stmt := topS 61
abbrev s__law_free_by : Stmt := topS 62
abbrev s__law_people_by : Stmt := topS 63
abbrev s__law_book_of : Stmt := topS 64
abbrev s__law_lasts : Stmt := topS 65
abbrev s__law_open : Stmt := topS 66
abbrev s__law_is_told : Stmt := topS 67
abbrev s__law_row_holds : Stmt := topS 68
abbrev s__law_holds : Stmt := topS 69
abbrev s__law_all_open : Stmt := topS 70
abbrev s__law_busier : Stmt := topS 71
abbrev s__law_taken : Stmt := topS 72
abbrev s__law_asked : Stmt := topS 73
abbrev s__law_asked_again : Stmt := topS 74
abbrev s_Book_init : Stmt := inClass (topS 45) 0
abbrev s_Book_come : Stmt := inClass (topS 45) 1
abbrev s_Book_busy : Stmt := inClass (topS 45) 2
abbrev s_Book_need : Stmt := inClass (topS 45) 4
abbrev s_Book_is_open : Stmt := inClass (topS 45) 5
abbrev s_Book_named : Stmt := inClass (topS 45) 7
abbrev s_Book_stretch : Stmt := inClass (topS 45) 8
abbrev s_Book_first : Stmt := inClass (topS 45) 9
abbrev s_Book_meet : Stmt := inClass (topS 45) 10
abbrev s_Book_meetings : Stmt := inClass (topS 45) 11
abbrev s_Book_place : Stmt := inClass (topS 45) 12
abbrev s_Book_drop : Stmt := inClass (topS 45) 13
abbrev s_Book_move : Stmt := inClass (topS 45) 14
abbrev s_law : Stmt := topS 75
theorem sc__wall : FnScope ["k"] ["k"] (defScope s__wall) := ⟨rfl, rfl, rfl, by decide +kernel, rfl, by decide +kernel, by decide +kernel⟩
theorem sc_is_whole : FnScope ["thing"] ["thing"] (defScope s_is_whole) := ⟨rfl, rfl, rfl, by decide +kernel, rfl, by decide +kernel, by decide +kernel⟩
theorem sc_is_between : FnScope ["thing", "low", "high"] ["thing", "low", "high"] (defScope s_is_between) := ⟨rfl, rfl, rfl, by decide +kernel, rfl, by decide +kernel, by decide +kernel⟩
theorem sc_month_days : FnScope ["year", "month"] ["year", "month"] (defScope s_month_days) := ⟨rfl, rfl, rfl, by decide +kernel, rfl, by decide +kernel, by decide +kernel⟩
theorem sc_date_of : FnScope ["day", "year", "rest", "month"] ["day"] (defScope s_date_of) := ⟨rfl, rfl, rfl, by decide +kernel, rfl, by decide +kernel, by decide +kernel⟩
theorem sc_from_end : FnScope ["day", "date"] ["day"] (defScope s_from_end) := ⟨rfl, rfl, rfl, by decide +kernel, rfl, by decide +kernel, by decide +kernel⟩
theorem sc_blocked : FnScope ["book", "names", "hour", "hours", "without", "ahead", "name"] ["book", "names", "hour", "hours", "without"] (defScope s_blocked) := ⟨rfl, rfl, rfl, by decide +kernel, rfl, by decide +kernel, by decide +kernel⟩
theorem sc_search : FnScope ["book", "names", "hours", "stretch", "without", "start", "last", "rows", "bad"] ["book", "names", "hours", "stretch", "without"] (defScope s_search) := ⟨rfl, rfl, rfl, by decide +kernel, rfl, by decide +kernel, by decide +kernel⟩
theorem sc_is_time : FnScope ["thing"] ["thing"] (defScope s_is_time) := ⟨rfl, rfl, rfl, by decide +kernel, rfl, by decide +kernel, by decide +kernel⟩
theorem sc_is_length : FnScope ["thing"] ["thing"] (defScope s_is_length) := ⟨rfl, rfl, rfl, by decide +kernel, rfl, by decide +kernel, by decide +kernel⟩
theorem sc_is_row : FnScope ["thing", "below", "most", "last", "one"] ["thing", "below", "most"] (defScope s_is_row) := ⟨rfl, rfl, rfl, by decide +kernel, rfl, by decide +kernel, by decide +kernel⟩
theorem sc_is_plain : FnScope ["thing", "word"] ["thing"] (defScope s_is_plain) := ⟨rfl, rfl, rfl, by decide +kernel, rfl, by decide +kernel, by decide +kernel⟩
theorem sc_is_rule : FnScope ["thing", "turn"] ["thing"] (defScope s_is_rule) := ⟨rfl, rfl, rfl, by decide +kernel, rfl, by decide +kernel, by decide +kernel⟩
theorem sc_innermost : FnScope ["rule"] ["rule"] (defScope s_innermost) := ⟨rfl, rfl, rfl, by decide +kernel, rfl, by decide +kernel, by decide +kernel⟩
theorem sc_length_of : FnScope ["rule", "plain"] ["rule"] (defScope s_length_of) := ⟨rfl, rfl, rfl, by decide +kernel, rfl, by decide +kernel, by decide +kernel⟩
theorem sc_plain_begins : FnScope ["rule", "hour"] ["rule", "hour"] (defScope s_plain_begins) := ⟨rfl, rfl, rfl, by decide +kernel, rfl, by decide +kernel, by decide +kernel⟩
theorem sc_begins : FnScope ["rule", "hour"] ["rule", "hour"] (defScope s_begins) := ⟨rfl, rfl, rfl, by decide +kernel, rfl, by decide +kernel, by decide +kernel⟩
theorem sc_covers : FnScope ["rule", "hour", "back"] ["rule", "hour"] (defScope s_covers) := ⟨rfl, rfl, rfl, by decide +kernel, rfl, by decide +kernel, by decide +kernel⟩
theorem sc_is_name : FnScope ["thing", "sign"] ["thing"] (defScope s_is_name) := ⟨rfl, rfl, rfl, by decide +kernel, rfl, by decide +kernel, by decide +kernel⟩
theorem sc__law_cell_at : FnScope ["_law_script", "_law_k"] ["_law_script", "_law_k"] (defScope s__law_cell_at) := ⟨rfl, rfl, rfl, by decide +kernel, rfl, by decide +kernel, by decide +kernel⟩
theorem sc__law_whole : FnScope ["_law_found"] ["_law_found"] (defScope s__law_whole) := ⟨rfl, rfl, rfl, by decide +kernel, rfl, by decide +kernel, by decide +kernel⟩
theorem sc__law_days : FnScope ["_law_year", "_law_month", "_law_sizes"] ["_law_year", "_law_month"] (defScope s__law_days) := ⟨rfl, rfl, rfl, by decide +kernel, rfl, by decide +kernel, by decide +kernel⟩
theorem sc__law_in_month : FnScope ["_law_day", "_law_rest", "_law_year", "_law_month"] ["_law_day"] (defScope s__law_in_month) := ⟨rfl, rfl, rfl, by decide +kernel, rfl, by decide +kernel, by decide +kernel⟩
theorem sc__law_plain_begins : FnScope ["_law_rule", "_law_hour"] ["_law_rule", "_law_hour"] (defScope s__law_plain_begins) := ⟨rfl, rfl, rfl, by decide +kernel, rfl, by decide +kernel, by decide +kernel⟩
theorem sc__law_bearing : FnScope [] [] (defScope s__law_bearing) := ⟨rfl, rfl, rfl, by decide +kernel, rfl, by decide +kernel, by decide +kernel⟩
theorem sc__law_heads : FnScope ["_law_rule", "_law_heads_here"] ["_law_rule"] (defScope s__law_heads) := ⟨rfl, rfl, rfl, by decide +kernel, rfl, by decide +kernel, by decide +kernel⟩
theorem sc__law_begun : FnScope ["_law_rule", "_law_hour", "_law_heads_here", "_law_due", "_law_head"] ["_law_rule", "_law_hour"] (defScope s__law_begun) := ⟨rfl, rfl, rfl, by decide +kernel, rfl, by decide +kernel, by decide +kernel⟩
theorem sc__law_size : FnScope ["_law_rule", "_law_plain"] ["_law_rule"] (defScope s__law_size) := ⟨rfl, rfl, rfl, by decide +kernel, rfl, by decide +kernel, by decide +kernel⟩
theorem sc__law_weekdays : FnScope ["_law_bits", "_law_days_here", "_law_k"] ["_law_bits"] (defScope s__law_weekdays) := ⟨rfl, rfl, rfl, by decide +kernel, rfl, by decide +kernel, by decide +kernel⟩
theorem sc__law_plain_by : FnScope ["_law_cells", "_law_far_here", "_law_most", "_law_kind", "_law_size_here", "_law_hour", "_law_day"] ["_law_cells", "_law_far_here", "_law_most"] (defScope s__law_plain_by) := ⟨rfl, rfl, rfl, by decide +kernel, rfl, by decide +kernel, by decide +kernel⟩
theorem sc__law_head_by : FnScope ["_law_cell", "_law_far_here", "_law_rule", "_law_word", "_law_hour", "_law_many", "_law_k"] ["_law_cell", "_law_far_here", "_law_rule"] (defScope s__law_head_by) := ⟨rfl, rfl, rfl, by decide +kernel, rfl, by decide +kernel, by decide +kernel⟩
theorem sc__law_far : FnScope ["_law_cell"] ["_law_cell"] (defScope s__law_far) := ⟨rfl, rfl, rfl, by decide +kernel, rfl, by decide +kernel, by decide +kernel⟩
theorem sc__law_in_time : FnScope ["_law_hour"] ["_law_hour"] (defScope s__law_in_time) := ⟨rfl, rfl, rfl, by decide +kernel, rfl, by decide +kernel, by decide +kernel⟩
theorem sc__law_name_by : FnScope ["_law_shape", "_law_cell", "_law_k", "_law_letters", "_law_place", "_law_name", "_law_turn"] ["_law_shape", "_law_cell", "_law_k"] (defScope s__law_name_by) := ⟨rfl, rfl, rfl, by decide +kernel, rfl, by decide +kernel, by decide +kernel⟩
theorem sc__law_free_by : FnScope ["_law_cells", "_law_far_here", "_law_kind", "_law_size_here"] ["_law_cells", "_law_far_here"] (defScope s__law_free_by) := ⟨rfl, rfl, rfl, by decide +kernel, rfl, by decide +kernel, by decide +kernel⟩
theorem sc__law_people_by : FnScope ["_law_script", "_law_at", "_law_many", "_law_far_here", "_law_people", "_law_shape", "_law_k", "_law_cells", "_law_free", "_law_taken_here", "_law_j"] ["_law_script", "_law_at", "_law_many", "_law_far_here"] (defScope s__law_people_by) := ⟨rfl, rfl, rfl, by decide +kernel, rfl, by decide +kernel, by decide +kernel⟩
theorem sc__law_book_of : FnScope ["_law_people", "_law_book", "_law_one", "_law_rule"] ["_law_people"] (defScope s__law_book_of) := ⟨rfl, rfl, rfl, by decide +kernel, rfl, by decide +kernel, by decide +kernel⟩
theorem sc__law_lasts : FnScope ["_law_rule", "_law_hour", "_law_back"] ["_law_rule", "_law_hour"] (defScope s__law_lasts) := ⟨rfl, rfl, rfl, by decide +kernel, rfl, by decide +kernel, by decide +kernel⟩
theorem sc__law_open : FnScope ["_law_one", "_law_hour", "_law_at", "_law_size_here", "_law_rule"] ["_law_one", "_law_hour"] (defScope s__law_open) := ⟨rfl, rfl, rfl, by decide +kernel, rfl, by decide +kernel, by decide +kernel⟩
theorem sc__law_is_told : FnScope ["_law_found"] ["_law_found"] (defScope s__law_is_told) := ⟨rfl, rfl, rfl, by decide +kernel, rfl, by decide +kernel, by decide +kernel⟩
theorem sc__law_row_holds : FnScope ["_law_row", "_law_some", "_law_hours", "_law_place", "_law_one"] ["_law_row", "_law_some", "_law_hours", "_law_place"] (defScope s__law_row_holds) := ⟨rfl, rfl, rfl, by decide +kernel, rfl, by decide +kernel, by decide +kernel⟩
theorem sc__law_holds : FnScope ["_law_found", "_law_some", "_law_hours", "_law_start", "_law_end", "_law_place", "_law_row"] ["_law_found", "_law_some", "_law_hours", "_law_start", "_law_end"] (defScope s__law_holds) := ⟨rfl, rfl, rfl, by decide +kernel, rfl, by decide +kernel, by decide +kernel⟩
theorem sc__law_all_open : FnScope ["_law_at", "_law_some", "_law_hours", "_law_one", "_law_k"] ["_law_at", "_law_some", "_law_hours"] (defScope s__law_all_open) := ⟨rfl, rfl, rfl, by decide +kernel, rfl, by decide +kernel, by decide +kernel⟩
theorem sc__law_busier : FnScope ["_law_book", "_law_one", "_law_hours", "_law_hour", "_law_taken_here", "_law_at", "_law_size_here"] ["_law_book", "_law_one", "_law_hours"] (defScope s__law_busier) := ⟨rfl, rfl, rfl, by decide +kernel, rfl, by decide +kernel, by decide +kernel⟩
theorem sc__law_taken : FnScope ["_law_book", "_law_some", "_law_found", "_law_hours", "_law_stretch", "_law_names", "_law_met", "_law_start", "_law_due", "_law_rule", "_law_one"] ["_law_book", "_law_some", "_law_found", "_law_hours", "_law_stretch"] (defScope s__law_taken) := ⟨rfl, rfl, rfl, by decide +kernel, rfl, by decide +kernel, by decide +kernel⟩
theorem sc__law_asked : FnScope ["_law_book", "_law_some", "_law_asked_here", "_law_names", "_law_found", "_law_one"] ["_law_book", "_law_some", "_law_asked_here"] (defScope s__law_asked) := ⟨rfl, rfl, rfl, by decide +kernel, rfl, by decide +kernel, by decide +kernel⟩
theorem sc__law_asked_again : FnScope ["_law_script", "_law_book", "_law_some", "_law_hour", "_law_asked_here", "_law_one", "_law_ahead", "_law_met", "_law_at", "_law_later"] ["_law_script", "_law_book", "_law_some", "_law_hour", "_law_asked_here"] (defScope s__law_asked_again) := ⟨rfl, rfl, rfl, by decide +kernel, rfl, by decide +kernel, by decide +kernel⟩
theorem sc_Book_init : FnScope ["self"] ["self"] (defScope s_Book_init) := ⟨rfl, rfl, rfl, by decide +kernel, rfl, by decide +kernel, by decide +kernel⟩
theorem sc_Book_come : FnScope ["self", "name", "free", "rule"] ["self", "name", "free"] (defScope s_Book_come) := ⟨rfl, rfl, rfl, by decide +kernel, rfl, by decide +kernel, by decide +kernel⟩
theorem sc_Book_busy : FnScope ["self", "name", "rule", "meeting", "hour"] ["self", "name", "rule"] (defScope s_Book_busy) := ⟨rfl, rfl, rfl, by decide +kernel, rfl, by decide +kernel, by decide +kernel⟩
theorem sc_Book_need : FnScope ["self", "name"] ["self", "name"] (defScope s_Book_need) := ⟨rfl, rfl, rfl, by decide +kernel, rfl, by decide +kernel, by decide +kernel⟩
theorem sc_Book_is_open : FnScope ["self", "name", "hour", "without", "rules", "meeting", "rule"] ["self", "name", "hour", "without"] (defScope s_Book_is_open) := ⟨rfl, rfl, rfl, by decide +kernel, rfl, by decide +kernel, by decide +kernel⟩
theorem sc_Book_named : FnScope ["self", "names", "name"] ["self", "names"] (defScope s_Book_named) := ⟨rfl, rfl, rfl, by decide +kernel, rfl, by decide +kernel, by decide +kernel⟩
theorem sc_Book_stretch : FnScope ["self", "start", "end"] ["self", "start", "end"] (defScope s_Book_stretch) := ⟨rfl, rfl, rfl, by decide +kernel, rfl, by decide +kernel, by decide +kernel⟩
theorem sc_Book_first : FnScope ["self", "names", "hours", "start", "end"] ["self", "names", "hours", "start", "end"] (defScope s_Book_first) := ⟨rfl, rfl, rfl, by decide +kernel, rfl, by decide +kernel, by decide +kernel⟩
theorem sc_Book_meet : FnScope ["self", "names", "hours", "start", "end", "found"] ["self", "names", "hours", "start", "end"] (defScope s_Book_meet) := ⟨rfl, rfl, rfl, by decide +kernel, rfl, by decide +kernel, by decide +kernel⟩
theorem sc_Book_meetings : FnScope ["self"] ["self"] (defScope s_Book_meetings) := ⟨rfl, rfl, rfl, by decide +kernel, rfl, by decide +kernel, by decide +kernel⟩
theorem sc_Book_place : FnScope ["self", "number", "at"] ["self", "number"] (defScope s_Book_place) := ⟨rfl, rfl, rfl, by decide +kernel, rfl, by decide +kernel, by decide +kernel⟩
theorem sc_Book_drop : FnScope ["self", "number"] ["self", "number"] (defScope s_Book_drop) := ⟨rfl, rfl, rfl, by decide +kernel, rfl, by decide +kernel, by decide +kernel⟩
theorem sc_Book_move : FnScope ["self", "number", "start", "end", "at", "meeting", "found"] ["self", "number", "start", "end"] (defScope s_Book_move) := ⟨rfl, rfl, rfl, by decide +kernel, rfl, by decide +kernel, by decide +kernel⟩
theorem sc_law : FnScope ["_law_script", "_law_far_here", "_law_wide", "_law_many", "_law_people", "_law_book", "_law_hours", "_law_start", "_law_end", "_law_some", "_law_asked_here", "_law_found", "_law_good", "_law_size_here", "_law_met", "_law_k", "_law_at", "_law_rule", "_law_told", "_law_kept"] ["_law_script"] (defScope s_law) := ⟨rfl, rfl, rfl, by decide +kernel, rfl, by decide +kernel, by decide +kernel⟩
def R_is_whole : List PyData → PyData → Prop := fun ds d => ∃ (x : PyData), True ∧ ds = [x] ∧ d = .bool (isWhole x)
theorem v_is_whole {G : Gd} {Γ : List Ent} {ta : TA} {E : XK} {x : PyData} (hA : EvA G ta Γ [x]) (hp : Side (True)) : EvD G (tCall (spV G.K R_is_whole) [] E ta) Γ (.bool (isWhole x)) := ev_call hA ⟨x, hp.out, rfl, rfl⟩
def R_is_between : List PyData → PyData → Prop := fun ds d => ∃ (x : PyData) (lo hi : Int), True ∧ ds = [x, .int lo, .int hi] ∧ d = .bool (isBetween x lo hi)
theorem v_is_between {G : Gd} {Γ : List Ent} {ta : TA} {E : XK} {x : PyData} {lo hi : Int} (hA : EvA G ta Γ [x, .int lo, .int hi]) (hp : Side (True)) : EvD G (tCall (spV G.K R_is_between) [] E ta) Γ (.bool (isBetween x lo hi)) := ev_call hA ⟨x, lo, hi, hp.out, rfl, rfl⟩
def R_month_days : List PyData → PyData → Prop := fun ds d => ∃ (y m : Int), (1 ≤ m ∧ m ≤ 12) ∧ ds = [.int y, .int m] ∧ d = .int (monthDays y m)
theorem v_month_days {G : Gd} {Γ : List Ent} {ta : TA} {E : XK} {y m : Int} (hA : EvA G ta Γ [.int y, .int m]) (hp : Side (1 ≤ m ∧ m ≤ 12)) : EvD G (tCall (spV G.K R_month_days) [] E ta) Γ (.int (monthDays y m)) := ev_call hA ⟨y, m, hp.out, rfl, rfl⟩
def R_date_of : List PyData → PyData → Prop := fun ds d => ∃ (d0 : Int), True ∧ ds = [.int d0] ∧ d = .tuple [.int (yr d0), .int (mn d0), .int (dn d0)]
theorem v_date_of {G : Gd} {Γ : List Ent} {ta : TA} {E : XK} {d0 : Int} (hA : EvA G ta Γ [.int d0]) (hp : Side (True)) : EvD G (tCall (spV G.K R_date_of) [] E ta) Γ (.tuple [.int (yr d0), .int (mn d0), .int (dn d0)]) := ev_call hA ⟨d0, hp.out, rfl, rfl⟩
def R_from_end : List PyData → PyData → Prop := fun ds d => ∃ (d0 : Int), True ∧ ds = [.int d0] ∧ d = .int (dn d0 - 1 - monthDays (yr d0) (mn d0))
theorem v_from_end {G : Gd} {Γ : List Ent} {ta : TA} {E : XK} {d0 : Int} (hA : EvA G ta Γ [.int d0]) (hp : Side (True)) : EvD G (tCall (spV G.K R_from_end) [] E ta) Γ (.int (dn d0 - 1 - monthDays (yr d0) (mn d0))) := ev_call hA ⟨d0, hp.out, rfl, rfl⟩
def R_blocked (C_Book : Addr) : List Ent → US → (Out (US) → Prop) → Prop := fun es st0 O => ∃ (s : US) (b : Bk) (ps : List Pers) (nd : PyData) (x h wo : Int), (BkAt C_Book s b ∧ (∀ p ∈ ps, p ∈ b.ps) ∧ NmIs nd ps ∧ 0 ≤ h ∧ h ≤ 1000) ∧ es = [.val (.ref b.a), .dat nd, .dat (.int x), .dat (.int h), .dat (.int wo)] ∧ s = st0 ∧ O = fun o => ∃ d, o = .ok (.dat d) s ∧ BlkR b.mt ps x h wo d
def R_search (C_Book : Addr) : List Ent → US → (Out (US) → Prop) → Prop := fun es st0 O => ∃ (s : US) (b : Bk) (ps : List Pers) (nd : PyData) (h st en wo : Int) (c : Bool), (BkAt C_Book s b ∧ (∀ p ∈ ps, p ∈ b.ps) ∧ NmIs nd ps ∧ (1 ≤ h ∧ h ≤ 48) ∧ 0 ≤ st ∧ en ≤ st + 20000) ∧ es = [.val (.ref b.a), .dat nd, .dat (.int h), .dat (.tuple [.int st, .int en]), .dat (.int wo)] ∧ s = st0 ∧ O = fun o => ∃ f rs, FRes s c f rs o ∧ Found b.mt ps h st en wo f rs
def R_is_time : List PyData → PyData → Prop := fun ds d => ∃ (x : PyData), True ∧ ds = [x] ∧ d = .bool (isTime x)
theorem v_is_time {G : Gd} {Γ : List Ent} {ta : TA} {E : XK} {x : PyData} (hA : EvA G ta Γ [x]) (hp : Side (True)) : EvD G (tCall (spV G.K R_is_time) [] E ta) Γ (.bool (isTime x)) := ev_call hA ⟨x, hp.out, rfl, rfl⟩
def R_is_length : List PyData → PyData → Prop := fun ds d => ∃ (x : PyData), True ∧ ds = [x] ∧ d = .bool (isLen x)
theorem v_is_length {G : Gd} {Γ : List Ent} {ta : TA} {E : XK} {x : PyData} (hA : EvA G ta Γ [x]) (hp : Side (True)) : EvD G (tCall (spV G.K R_is_length) [] E ta) Γ (.bool (isLen x)) := ev_call hA ⟨x, hp.out, rfl, rfl⟩
def R_is_row : List PyData → PyData → Prop := fun ds d => ∃ (x : PyData) (below most : Int), True ∧ ds = [x, .int below, .int most] ∧ d = .bool (rowB x below most)
theorem v_is_row {G : Gd} {Γ : List Ent} {ta : TA} {E : XK} {x : PyData} {below most : Int} (hA : EvA G ta Γ [x, .int below, .int most]) (hp : Side (True)) : EvD G (tCall (spV G.K R_is_row) [] E ta) Γ (.bool (rowB x below most)) := ev_call hA ⟨x, below, most, hp.out, rfl, rfl⟩
def R_is_plain : List PyData → PyData → Prop := fun ds d => ∃ (w : Str) (a b : PyData) (rest : List PyData), True ∧ ds = [.tuple (.str w :: a :: b :: rest)] ∧ d = .bool (plainB w a b rest)
theorem v_is_plain {G : Gd} {Γ : List Ent} {ta : TA} {E : XK} {w : Str} {a b : PyData} {rest : List PyData} (hA : EvA G ta Γ [.tuple (.str w :: a :: b :: rest)]) (hp : Side (True)) : EvD G (tCall (spV G.K R_is_plain) [] E ta) Γ (.bool (plainB w a b rest)) := ev_call hA ⟨w, a, b, rest, hp.out, rfl, rfl⟩
def R_is_rule : List PyData → PyData → Prop := fun ds d => ∃ (x : PyData), True ∧ ds = [x] ∧ d = .bool (ruleB 8 x)
theorem v_is_rule {G : Gd} {Γ : List Ent} {ta : TA} {E : XK} {x : PyData} (hA : EvA G ta Γ [x]) (hp : Side (True)) : EvD G (tCall (spV G.K R_is_rule) [] E ta) Γ (.bool (ruleB 8 x)) := ev_call hA ⟨x, hp.out, rfl, rfl⟩
def R_innermost : List PyData → PyData → Prop := fun ds d => ∃ (r : Rule), True ∧ ds = [toD r] ∧ d = toD (core r)
theorem v_innermost {G : Gd} {Γ : List Ent} {ta : TA} {E : XK} {r : Rule} (hA : EvA G ta Γ [toD r]) (hp : Side (True)) : EvD G (tCall (spV G.K R_innermost) [] E ta) Γ (toD (core r)) := ev_call hA ⟨r, hp.out, rfl, rfl⟩
def R_length_of : List PyData → PyData → Prop := fun ds d => ∃ (r : Rule), True ∧ ds = [toD r] ∧ d = .int (size r)
theorem v_length_of {G : Gd} {Γ : List Ent} {ta : TA} {E : XK} {r : Rule} (hA : EvA G ta Γ [toD r]) (hp : Side (True)) : EvD G (tCall (spV G.K R_length_of) [] E ta) Γ (.int (size r)) := ev_call hA ⟨r, hp.out, rfl, rfl⟩
def R_plain_begins : List PyData → PyData → Prop := fun ds d => ∃ (r : Rule) (x : Int), (plain r = true ∧ Ok r) ∧ ds = [toD r, .int x] ∧ d = .bool (beg r x)
theorem v_plain_begins {G : Gd} {Γ : List Ent} {ta : TA} {E : XK} {r : Rule} {x : Int} (hA : EvA G ta Γ [toD r, .int x]) (hp : Side (plain r = true ∧ Ok r)) : EvD G (tCall (spV G.K R_plain_begins) [] E ta) Γ (.bool (beg r x)) := ev_call hA ⟨r, x, hp.out, rfl, rfl⟩
def R_begins : List PyData → PyData → Prop := fun ds d => ∃ (r : Rule) (x : Int), (Ok r) ∧ ds = [toD r, .int x] ∧ d = .bool (begins r x)
theorem v_begins {G : Gd} {Γ : List Ent} {ta : TA} {E : XK} {r : Rule} {x : Int} (hA : EvA G ta Γ [toD r, .int x]) (hp : Side (Ok r)) : EvD G (tCall (spV G.K R_begins) [] E ta) Γ (.bool (begins r x)) := ev_call hA ⟨r, x, hp.out, rfl, rfl⟩
def R_covers : List PyData → PyData → Prop := fun ds d => ∃ (r : Rule) (x : Int), (Ok r ∧ 0 ≤ size r ∧ size r ≤ 1000) ∧ ds = [toD r, .int x] ∧ d = .bool (covers r x)
theorem v_covers {G : Gd} {Γ : List Ent} {ta : TA} {E : XK} {r : Rule} {x : Int} (hA : EvA G ta Γ [toD r, .int x]) (hp : Side (Ok r ∧ 0 ≤ size r ∧ size r ≤ 1000)) : EvD G (tCall (spV G.K R_covers) [] E ta) Γ (.bool (covers r x)) := ev_call hA ⟨r, x, hp.out, rfl, rfl⟩
def R_is_name : List PyData → PyData → Prop := fun ds d => ∃ (x : PyData), (∀ t, x = .str t → t.length ≤ 1000) ∧ ds = [x] ∧ d = .bool (nameB x)
theorem v_is_name {G : Gd} {Γ : List Ent} {ta : TA} {E : XK} {x : PyData} (hA : EvA G ta Γ [x]) (hp : Side (∀ t, x = .str t → t.length ≤ 1000)) : EvD G (tCall (spV G.K R_is_name) [] E ta) Γ (.bool (nameB x)) := ev_call hA ⟨x, hp.out, rfl, rfl⟩
def R__law_cell_at : List PyData → PyData → Prop := fun ds d => ∃ (ns : List Int) (k : Int), (ns.length ≤ 63) ∧ ds = [.list (ns.map .int), .int k] ∧ d = .int (cw ns k)
theorem v__law_cell_at {G : Gd} {Γ : List Ent} {ta : TA} {E : XK} {ns : List Int} {k : Int} (hA : EvA G ta Γ [.list (ns.map .int), .int k]) (hp : Side (ns.length ≤ 63)) : EvD G (tCall (spV G.K R__law_cell_at) [] E ta) Γ (.int (cw ns k)) := ev_call hA ⟨ns, k, hp.out, rfl, rfl⟩
def R__law_whole : List PyData → PyData → Prop := fun ds d => ∃ (x : PyData), True ∧ ds = [x] ∧ d = .bool (isWhole x)
theorem v__law_whole {G : Gd} {Γ : List Ent} {ta : TA} {E : XK} {x : PyData} (hA : EvA G ta Γ [x]) (hp : Side (True)) : EvD G (tCall (spV G.K R__law_whole) [] E ta) Γ (.bool (isWhole x)) := ev_call hA ⟨x, hp.out, rfl, rfl⟩
def R__law_days : List PyData → PyData → Prop := fun ds d => ∃ (y m : Int), (1 ≤ m ∧ m ≤ 12) ∧ ds = [.int y, .int m] ∧ d = .int (monthDays y m)
theorem v__law_days {G : Gd} {Γ : List Ent} {ta : TA} {E : XK} {y m : Int} (hA : EvA G ta Γ [.int y, .int m]) (hp : Side (1 ≤ m ∧ m ≤ 12)) : EvD G (tCall (spV G.K R__law_days) [] E ta) Γ (.int (monthDays y m)) := ev_call hA ⟨y, m, hp.out, rfl, rfl⟩
def R__law_in_month : List PyData → PyData → Prop := fun ds d => ∃ (d0 : Int), True ∧ ds = [.int d0] ∧ d = .list [.int (dn d0), .int (dn d0 - 1 - monthDays (yr d0) (mn d0))]
theorem v__law_in_month {G : Gd} {Γ : List Ent} {ta : TA} {E : XK} {d0 : Int} (hA : EvA G ta Γ [.int d0]) (hp : Side (True)) : EvD G (tCall (spV G.K R__law_in_month) [] E ta) Γ (.list [.int (dn d0), .int (dn d0 - 1 - monthDays (yr d0) (mn d0))]) := ev_call hA ⟨d0, hp.out, rfl, rfl⟩
def R__law_plain_begins : List PyData → PyData → Prop := fun ds d => ∃ (r : Rule) (x : Int), (plain r = true ∧ Ok r ∧ 0 ≤ x) ∧ ds = [toD r, .int x] ∧ d = .bool (beg r x)
theorem v__law_plain_begins {G : Gd} {Γ : List Ent} {ta : TA} {E : XK} {r : Rule} {x : Int} (hA : EvA G ta Γ [toD r, .int x]) (hp : Side (plain r = true ∧ Ok r ∧ 0 ≤ x)) : EvD G (tCall (spV G.K R__law_plain_begins) [] E ta) Γ (.bool (beg r x)) := ev_call hA ⟨r, x, hp.out, rfl, rfl⟩
def R__law_bearing : List PyData → PyData → Prop := fun ds d => True ∧ ds = [] ∧ d = .list [.str "from", .str "until", .str "also", .str "but"]
theorem v__law_bearing {G : Gd} {Γ : List Ent} {ta : TA} {E : XK}  (hA : EvA G ta Γ []) (hp : Side (True)) : EvD G (tCall (spV G.K R__law_bearing) [] E ta) Γ (.list [.str "from", .str "until", .str "also", .str "but"]) := ev_call hA ⟨hp.out, rfl, rfl⟩
def R__law_heads : List PyData → PyData → Prop := fun ds d => ∃ (r : Rule), (depth r < 1000) ∧ ds = [toD r] ∧ d = .list ((heads r).map toD)
theorem v__law_heads {G : Gd} {Γ : List Ent} {ta : TA} {E : XK} {r : Rule} (hA : EvA G ta Γ [toD r]) (hp : Side (depth r < 1000)) : EvD G (tCall (spV G.K R__law_heads) [] E ta) Γ (.list ((heads r).map toD)) := ev_call hA ⟨r, hp.out, rfl, rfl⟩
def R__law_begun : List PyData → PyData → Prop := fun ds d => ∃ (r : Rule) (x : Int), (depth r < 1000 ∧ Ok r ∧ 0 ≤ x) ∧ ds = [toD r, .int x] ∧ d = .bool (beg r x)
theorem v__law_begun {G : Gd} {Γ : List Ent} {ta : TA} {E : XK} {r : Rule} {x : Int} (hA : EvA G ta Γ [toD r, .int x]) (hp : Side (depth r < 1000 ∧ Ok r ∧ 0 ≤ x)) : EvD G (tCall (spV G.K R__law_begun) [] E ta) Γ (.bool (beg r x)) := ev_call hA ⟨r, x, hp.out, rfl, rfl⟩
def R__law_size : List PyData → PyData → Prop := fun ds d => ∃ (r : Rule), (depth r < 1000) ∧ ds = [toD r] ∧ d = .int (size r)
theorem v__law_size {G : Gd} {Γ : List Ent} {ta : TA} {E : XK} {r : Rule} (hA : EvA G ta Γ [toD r]) (hp : Side (depth r < 1000)) : EvD G (tCall (spV G.K R__law_size) [] E ta) Γ (.int (size r)) := ev_call hA ⟨r, hp.out, rfl, rfl⟩
def R__law_weekdays : List PyData → PyData → Prop := fun ds d => ∃ (b : Int), True ∧ ds = [.int b] ∧ d = .tuple ((wd b).map .int)
theorem v__law_weekdays {G : Gd} {Γ : List Ent} {ta : TA} {E : XK} {b : Int} (hA : EvA G ta Γ [.int b]) (hp : Side (True)) : EvD G (tCall (spV G.K R__law_weekdays) [] E ta) Γ (.tuple ((wd b).map .int)) := ev_call hA ⟨b, hp.out, rfl, rfl⟩
def R__law_plain_by : List PyData → PyData → Prop := fun ds d => ∃ (c0 c1 c2 far most : Int), (0 < most) ∧ ds = [.list [.int c0, .int c1, .int c2], .int far, .int most] ∧ d = toD (plainBy c0 c1 c2 far most)
theorem v__law_plain_by {G : Gd} {Γ : List Ent} {ta : TA} {E : XK} {c0 c1 c2 far most : Int} (hA : EvA G ta Γ [.list [.int c0, .int c1, .int c2], .int far, .int most]) (hp : Side (0 < most)) : EvD G (tCall (spV G.K R__law_plain_by) [] E ta) Γ (toD (plainBy c0 c1 c2 far most)) := ev_call hA ⟨c0, c1, c2, far, most, hp.out, rfl, rfl⟩
def R__law_head_by : List PyData → PyData → Prop := fun ds d => ∃ (c far : Int) (r : Rule), True ∧ ds = [.int c, .int far, toD r] ∧ d = toD (headBy c far r)
theorem v__law_head_by {G : Gd} {Γ : List Ent} {ta : TA} {E : XK} {c far : Int} {r : Rule} (hA : EvA G ta Γ [.int c, .int far, toD r]) (hp : Side (True)) : EvD G (tCall (spV G.K R__law_head_by) [] E ta) Γ (toD (headBy c far r)) := ev_call hA ⟨c, far, r, hp.out, rfl, rfl⟩
def R__law_far : List PyData → (PyData → Prop) → Prop := fun ds N => ∃ (c : Int), True ∧ ds = [.int c] ∧ N = fun d => ∃ (far : Int), (0 ≤ far ∧ far ≤ 999999999800) ∧ d = .int far
theorem x__law_far {G : Gd} {W : WX} {Γ : List Ent} {P : Post} {ta : TA} {E : XK} {i : Nat} {c : Int} (hA : EvA G ta Γ [.int c]) (hp : Side (True)) (k : ∀ (far : Int), (0 ≤ far ∧ far ≤ 999999999800) → P.nx (Γ.set i (.dat (.int far)))) : WpD G W (tAsg (tCall (spE G.K R__law_far) [] E ta) (gName i)) Γ P := wp_asgE hA ⟨c, hp.out, rfl, rfl⟩ (by rintro d ⟨far, hs, rfl⟩; exact k _ hs)
theorem y__law_far {G : Gd} {W : WX} {Γ : List Ent} {P : Post} {ta : TA} {E : XK} {c : Int} (hA : EvA G ta Γ [.int c]) (hp : Side (True)) (k : ∀ (far : Int), (0 ≤ far ∧ far ≤ 999999999800) → P.rt (.int far)) : WpD G W (tRet (tCall (spE G.K R__law_far) [] E ta)) Γ P := wp_retE hA ⟨c, hp.out, rfl, rfl⟩ (by rintro d ⟨far, hs, rfl⟩; exact k _ hs)
def R__law_in_time : List PyData → PyData → Prop := fun ds d => ∃ (x : Int), True ∧ ds = [.int x] ∧ d = .int (if 999999999999 < x then 999999999999 else x)
theorem v__law_in_time {G : Gd} {Γ : List Ent} {ta : TA} {E : XK} {x : Int} (hA : EvA G ta Γ [.int x]) (hp : Side (True)) : EvD G (tCall (spV G.K R__law_in_time) [] E ta) Γ (.int (if 999999999999 < x then 999999999999 else x)) := ev_call hA ⟨x, hp.out, rfl, rfl⟩
def R__law_name_by : List PyData → PyData → Prop := fun ds d => ∃ (sh c k : Int), (0 ≤ k ∧ k ≤ 11) ∧ ds = [.int sh, .int c, .int k] ∧ d = .str (nameOf sh c k)
theorem v__law_name_by {G : Gd} {Γ : List Ent} {ta : TA} {E : XK} {sh c k : Int} (hA : EvA G ta Γ [.int sh, .int c, .int k]) (hp : Side (0 ≤ k ∧ k ≤ 11)) : EvD G (tCall (spV G.K R__law_name_by) [] E ta) Γ (.str (nameOf sh c k)) := ev_call hA ⟨sh, c, k, hp.out, rfl, rfl⟩
def R__law_free_by : List PyData → PyData → Prop := fun ds d => ∃ (c0 c1 c2 far : Int), True ∧ ds = [.list [.int c0, .int c1, .int c2], .int far] ∧ d = toD (freeBy c0 c1 c2 far)
theorem v__law_free_by {G : Gd} {Γ : List Ent} {ta : TA} {E : XK} {c0 c1 c2 far : Int} (hA : EvA G ta Γ [.list [.int c0, .int c1, .int c2], .int far]) (hp : Side (True)) : EvD G (tCall (spV G.K R__law_free_by) [] E ta) Γ (toD (freeBy c0 c1 c2 far)) := ev_call hA ⟨c0, c1, c2, far, hp.out, rfl, rfl⟩
def R__law_people_by : List Ent → US → (Out (US) → Prop) → Prop := fun es st0 O => ∃ (s : US) (ns : List Int) (at0 many far : Int), (ns.length ≤ 63 ∧ (0 ≤ far ∧ far ≤ 999999999800) ∧ 0 ≤ many ∧ many ≤ 12) ∧ es = [.dat (.list (ns.map .int)), .dat (.int at0), .dat (.int many), .dat (.int far)] ∧ s = st0 ∧ O = fun o => ∃ s2 q xs, o = .ok (.val (.ref q)) s2 ∧ PeAt s2 q xs ∧ xs.length = many.toNat ∧ (xs.map PRow.name).Nodup ∧ (∀ x ∈ xs, RowOk x ∧ x.fr.length ≤ 2 ∧ x.bz.length ≤ 2 ∧ x.mt = [] ∧ x.name ≠ "zz") ∧ ∃ (sh : Int) (cs : Nat → Int), xs.map PRow.name = (List.range many.toNat).map fun k : Nat => nameOf sh (cs k) (0 + (k : Int))
def R__law_book_of (C_Book : Addr) : List Ent → US → (Out (US) → Prop) → Prop := fun es st0 O => ∃ (s : US) (q : Addr) (xs : List PRow), (PeAt s q xs ∧ (xs.map PRow.name).Nodup ∧ (∀ x ∈ xs, RowOk x) ∧ xs.length ≤ 20) ∧ es = [.val (.ref q)] ∧ s = st0 ∧ O = fun o => ∃ s2 b, o = .ok (.val (.ref b.a)) s2 ∧ BkAt C_Book s2 b ∧ b.ps.map Pers.one = xs.map PRow.one ∧ b.mt = [] ∧ b.given = 0 ∧ Keeps s s2 [] ∧ ∀ x ∈ b.adr, x ∉ s.foot
def R__law_lasts : List PyData → PyData → Prop := fun ds d => ∃ (r : Rule) (x : Int), (depth r < 1000 ∧ Ok r ∧ 0 ≤ size r ∧ size r ≤ 1000) ∧ ds = [toD r, .int x] ∧ d = .bool (covers r x)
theorem v__law_lasts {G : Gd} {Γ : List Ent} {ta : TA} {E : XK} {r : Rule} {x : Int} (hA : EvA G ta Γ [toD r, .int x]) (hp : Side (depth r < 1000 ∧ Ok r ∧ 0 ≤ size r ∧ size r ≤ 1000)) : EvD G (tCall (spV G.K R__law_lasts) [] E ta) Γ (.bool (covers r x)) := ev_call hA ⟨r, x, hp.out, rfl, rfl⟩
def R__law_open : List Ent → US → (Out (US) → Prop) → Prop := fun es st0 O => ∃ (s : US) (x : PRow) (h : Int), (RowAt s x ∧ RowOk x ∧ x.mt.length ≤ 1000) ∧ es = [.val (.ref x.r), .dat (.int h)] ∧ s = st0 ∧ O = fun o => o = .ok (.dat (.bool (openL x h))) s
theorem v__law_open {K : PySem.W.Frag} {Γ : List Ent} {ta : TA} {E : XK} {s : US} {x : PRow} {h : Int} (hA : EvAE ((uw K).g s) ta Γ [.val (.ref x.r), .dat (.int h)]) (hp : Side (RowAt s x ∧ RowOk x ∧ x.mt.length ≤ 1000)) : EvD ((uw K).g s) (tCall (spW (uw K) R__law_open) [] E ta) Γ (.bool (openL x h)) := ed_callS hA ⟨s, x, h, hp.out, rfl, rfl, rfl⟩ (fun _ h => h)
def R__law_is_told : List PyData → PyData → Prop := fun ds d => ∃ (f : PyData) (rs : List PyData), (f = .none ∨ ∃ y, f = .int y) ∧ ds = [.tuple [f, .list rs]] ∧ d = .bool true
theorem v__law_is_told {G : Gd} {Γ : List Ent} {ta : TA} {E : XK} {f : PyData} {rs : List PyData} (hA : EvA G ta Γ [.tuple [f, .list rs]]) (hp : Side (f = .none ∨ ∃ y, f = .int y)) : EvD G (tCall (spV G.K R__law_is_told) [] E ta) Γ (.bool true) := ev_call hA ⟨f, rs, hp.out, rfl, rfl⟩
def R__law_row_holds : List Ent → US → (Out (US) → Prop) → Prop := fun es st0 O => ∃ (s : US) (qv : Addr) (vs : List PRow) (x b1 z h : Int) (n : Str), (((qv, HO.lst (refsR vs)) ∈ s.cells ∧ (∀ v ∈ vs, RowAt s v ∧ RowOk v ∧ v.mt.length ≤ 1000) ∧ vs.length ≤ 20) ∧ (x ≤ b1 ∧ b1 ≤ z ∧ z < x + h) ∧ n.length ≤ 100 ∧ ∃ v ∈ vs, v.name = n ∧ openL v z = false) ∧ es = [.dat (.tuple [.int x, .int b1, .str n, .int z]), .val (.ref qv), .dat (.int h), .dat (.int x)] ∧ s = st0 ∧ O = fun o => o = .ok (.dat (.bool true)) s
theorem v__law_row_holds {K : PySem.W.Frag} {Γ : List Ent} {ta : TA} {E : XK} {s : US} {qv : Addr} {vs : List PRow} {x b1 z h : Int} {n : Str} (hA : EvAE ((uw K).g s) ta Γ [.dat (.tuple [.int x, .int b1, .str n, .int z]), .val (.ref qv), .dat (.int h), .dat (.int x)]) (hp : Side (((qv, HO.lst (refsR vs)) ∈ s.cells ∧ (∀ v ∈ vs, RowAt s v ∧ RowOk v ∧ v.mt.length ≤ 1000) ∧ vs.length ≤ 20) ∧ (x ≤ b1 ∧ b1 ≤ z ∧ z < x + h) ∧ n.length ≤ 100 ∧ ∃ v ∈ vs, v.name = n ∧ openL v z = false)) : EvD ((uw K).g s) (tCall (spW (uw K) R__law_row_holds) [] E ta) Γ (.bool true) := ed_callS hA ⟨s, qv, vs, x, b1, z, h, n, hp.out, rfl, rfl, rfl⟩ (fun _ h => h)
def R__law_holds : List Ent → US → (Out (US) → Prop) → Prop := fun es st0 O => ∃ (s : US) (qv : Addr) (vs : List PRow) (f : PyData) (rs : List PyData) (h st en : Int), (((qv, HO.lst (refsR vs)) ∈ s.cells ∧ (∀ v ∈ vs, RowAt s v ∧ RowOk v ∧ v.mt.length ≤ 1000) ∧ vs.length ≤ 20) ∧ (1 ≤ h ∧ h ≤ 48) ∧ FoundL vs h st en f rs) ∧ es = [.dat (.tuple [f, .list rs]), .val (.ref qv), .dat (.int h), .dat (.int st), .dat (.int en)] ∧ s = st0 ∧ O = fun o => o = .ok (.dat (.bool true)) s
theorem v__law_holds {K : PySem.W.Frag} {Γ : List Ent} {ta : TA} {E : XK} {s : US} {qv : Addr} {vs : List PRow} {f : PyData} {rs : List PyData} {h st en : Int} (hA : EvAE ((uw K).g s) ta Γ [.dat (.tuple [f, .list rs]), .val (.ref qv), .dat (.int h), .dat (.int st), .dat (.int en)]) (hp : Side (((qv, HO.lst (refsR vs)) ∈ s.cells ∧ (∀ v ∈ vs, RowAt s v ∧ RowOk v ∧ v.mt.length ≤ 1000) ∧ vs.length ≤ 20) ∧ (1 ≤ h ∧ h ≤ 48) ∧ FoundL vs h st en f rs)) : EvD ((uw K).g s) (tCall (spW (uw K) R__law_holds) [] E ta) Γ (.bool true) := ed_callS hA ⟨s, qv, vs, f, rs, h, st, en, hp.out, rfl, rfl, rfl⟩ (fun _ h => h)
def R__law_all_open : List Ent → US → (Out (US) → Prop) → Prop := fun es st0 O => ∃ (s : US) (qv : Addr) (vs : List PRow) (y h : Int), (((qv, HO.lst (refsR vs)) ∈ s.cells ∧ (∀ v ∈ vs, RowAt s v ∧ RowOk v ∧ v.mt.length ≤ 1000) ∧ vs.length ≤ 20) ∧ (1 ≤ h ∧ h ≤ 48) ∧ AllL vs y h) ∧ es = [.dat (.int y), .val (.ref qv), .dat (.int h)] ∧ s = st0 ∧ O = fun o => o = .ok (.dat (.bool true)) s
theorem v__law_all_open {K : PySem.W.Frag} {Γ : List Ent} {ta : TA} {E : XK} {s : US} {qv : Addr} {vs : List PRow} {y h : Int} (hA : EvAE ((uw K).g s) ta Γ [.dat (.int y), .val (.ref qv), .dat (.int h)]) (hp : Side (((qv, HO.lst (refsR vs)) ∈ s.cells ∧ (∀ v ∈ vs, RowAt s v ∧ RowOk v ∧ v.mt.length ≤ 1000) ∧ vs.length ≤ 20) ∧ (1 ≤ h ∧ h ≤ 48) ∧ AllL vs y h)) : EvD ((uw K).g s) (tCall (spW (uw K) R__law_all_open) [] E ta) Γ (.bool true) := ed_callS hA ⟨s, qv, vs, y, h, hp.out, rfl, rfl, rfl⟩ (fun _ h => h)
def R__law_busier (C_Book : Addr) : List Ent → US → (Out (US) → Prop) → Prop := fun es st0 O => ∃ (s : US) (b : Bk) (q qv a l : Addr) (xs vs : List PRow) (h st en : Int) (lv : List V) (kept : List PyData) (x : PRow) (f : PyData) (y2 : Int), (Wd C_Book s b q xs qv vs a l h st en lv kept ∧ Cor b xs ∧ (x ∈ xs ∧ x.bz.length ≤ 10 ∧ x.mt.length ≤ 30) ∧ (f = .none ∨ ∃ y, f = .int y ∧ 0 ≤ y ∧ y < 1000000000000) ∧ 0 ≤ y2 ∧ y2 < 1000000000000) ∧ es = [.val (.ref b.a), .val (.ref x.r), .dat (.list [f, .int y2])] ∧ s = st0 ∧ O = fun o => ∃ s2 b2 y, o = .ok (.dat .none) s2 ∧ Wd C_Book s2 b2 q (putR x y xs) qv (putR x y vs) a l h st en lv kept ∧ Cor b2 (putR x y xs) ∧ b2.a = b.a ∧ b2.mt = b.mt ∧ b2.given = b.given ∧ y.r = x.r ∧ y.name = x.name ∧ y.fr = x.fr ∧ y.mt = x.mt ∧ y.bz = x.bz ++ busyL x.mt [f, .int y2] ∧ (∀ a ∈ y.adr, a ∈ x.adr) ∧ b2.adr = b.adr
def R__law_taken (C_Book : Addr) : List Ent → US → (Out (US) → Prop) → Prop := fun es st0 O => ∃ (s : US) (b : Bk) (q qv a l : Addr) (xs vs : List PRow) (h st en : Int) (lv : List V) (kept : List PyData) (us : List PRow) (x : PRow) (T0 : List Int), (Wd C_Book s b q xs qv vs a l h st en lv kept ∧ Cor b xs ∧ WideOk vs us x T0 st ∧ (b.mt = [] ∧ b.given = 0) ∧ en + 2000 < 1000000000000 ∧ T0.length ≤ 5) ∧ es = [.val (.ref b.a), .val (.ref qv), .dat (firstL vs h st en), .dat (.int h), .dat (.tuple [.int st, .int en])] ∧ s = st0 ∧ O = fun o => ∃ s2, o = .ok (.dat (.bool true)) s2 ∧ Keeps s s2 b.adr
def R__law_asked (C_Book : Addr) : List Ent → US → (Out (US) → Prop) → Prop := fun es st0 O => ∃ (s : US) (b : Bk) (q qv a l : Addr) (xs vs : List PRow) (h st en : Int) (lv : List V) (kept : List PyData), (Wd C_Book s b q xs qv vs a l h st en lv kept ∧ Cor b xs ∧ (∀ x ∈ xs, x.mt.length ≤ 30) ∧ kept.length ≤ 100) ∧ es = [.val (.ref b.a), .val (.ref qv), .val (.ref a)] ∧ s = st0 ∧ O = fun o => ∃ s2 lv2 kept2, o = .ok (.dat (firstL vs h st en)) s2 ∧ Wd C_Book s2 b q xs qv vs a l h st en lv2 kept2 ∧ Keeps s s2 [l] ∧ kept2.length ≤ kept.length + 1
def R__law_asked_again (C_Book : Addr) : List Ent → US → (Out (US) → Prop) → Prop := fun es st0 O => ∃ (s : US) (b : Bk) (q qv a l : Addr) (xs vs : List PRow) (h st en : Int) (lv : List V) (kept : List PyData) (ns : List Int), (Wd C_Book s b q xs qv vs a l h st en lv kept ∧ Cor b xs ∧ (∀ x ∈ xs, x.mt.length ≤ 20) ∧ kept.length ≤ 50 ∧ ns.length ≤ 63 ∧ b.mt.length ≤ 20) ∧ es = [.dat (.list (ns.map .int)), .val (.ref b.a), .val (.ref qv), .dat (firstL vs h st en), .val (.ref a)] ∧ s = st0 ∧ O = fun o => ∃ s2 b2 lv2 kept2, o = .ok (.dat (.bool true)) s2 ∧ Wd C_Book s2 b2 q xs qv vs a l h st en lv2 kept2 ∧ Cor b2 xs ∧ b2.a = b.a ∧ b2.mt = b.mt ∧ kept2.length ≤ kept.length + 3 ∧ b2.adr = b.adr
def R_Book_init (C_Book : Addr) : List Ent → US → (Out (US) → Prop) → Prop := fun es st0 O => ∃ (s : US) (a dx : Addr), ((a, HO.ins C_Book dx []) ∈ s.cells) ∧ es = [.val (.ref a)] ∧ s = st0 ∧ O = fun o => ∃ s2 b, o = .ok (.dat .none) s2 ∧ BkAt C_Book s2 b ∧ b.a = a ∧ b.ps = [] ∧ b.mt = [] ∧ b.given = 0 ∧ Keeps s s2 [a] ∧ ∀ x ∈ b.adr, x = a ∨ x ∉ s.foot
def R_Book_come (C_Book : Addr) : List Ent → US → (Out (US) → Prop) → Prop := fun es st0 O => ∃ (s : US) (b : Bk) (n : Str) (e : Ent) (fr : List Rule), (BkAt C_Book s b ∧ nameB (.str n) = true ∧ n.length ≤ 1000 ∧ n ∉ b.ps.map (·.name) ∧ RuOk fr ∧ LsE s e (fr.map toD) ∧ b.ps.length < 900) ∧ es = [.val (.ref b.a), .dat (.str n), e] ∧ s = st0 ∧ O = fun o => ∃ s2 p, o = .ok (.dat .none) s2 ∧ p.name = n ∧ p.fr = fr ∧ p.bz = [] ∧ BkAt C_Book s2 (b.come p) ∧ Keeps s s2 [b.kd] ∧ ∀ x ∈ p.adr, x ∉ s.foot
def R_Book_busy (C_Book : Addr) : List Ent → US → (Out (US) → Prop) → Prop := fun es st0 O => ∃ (s : US) (b : Bk) (p : Pers) (r : Rule), (BkAt C_Book s b ∧ p ∈ b.ps ∧ (GoodR r ∧ depth r < 8) ∧ p.bz.length < 20 ∧ ∀ m ∈ b.mt, p.name ∈ m.who → ∀ y, m.at_ ≤ y → y < m.at_ + m.hrs → covers r y = false) ∧ es = [.val (.ref b.a), .dat (.str p.name), .dat (toD r)] ∧ s = st0 ∧ O = fun o => ∃ s2 v, o = .ok (.dat .none) s2 ∧ BkAt C_Book s2 (b.busy p.name r v) ∧ Keeps s s2 [p.u]
def R_Book_need (C_Book : Addr) : List Ent → US → (Out (US) → Prop) → Prop := fun es st0 O => ∃ (s : US) (b : Bk) (p : Pers), (BkAt C_Book s b ∧ p ∈ b.ps) ∧ es = [.val (.ref b.a), .dat (.str p.name)] ∧ s = st0 ∧ O = fun o => o = .ok (.dat (.none)) s
theorem v_Book_need {K : PySem.W.Frag} {Γ : List Ent} {to : TE} {ta : TA} {E : XK} {C_Book : Addr} {s : US} {b : Bk} {p : Pers} (ho : EvE ((uw K).g s) to Γ (.val (.ref b.a))) (hA : EvAE ((uw K).g s) ta Γ [.dat (.str p.name)]) (hp : Side (BkAt C_Book s b ∧ p ∈ b.ps)) : EvD ((uw K).g s) (tMeth C_Book "need" (spW (uw K) (R_Book_need C_Book)) [] E to ta) Γ (.none) := ed_meth ho (hp.out.1.ob) (BkAt.nom (by decide +kernel)) hA ⟨s, b, p, hp.out, rfl, rfl, rfl⟩ (fun _ h => h)
def R_Book_is_open (C_Book : Addr) : List Ent → US → (Out (US) → Prop) → Prop := fun es st0 O => ∃ (s : US) (b : Bk) (p : Pers) (x wo : Int), (BkAt C_Book s b ∧ p ∈ b.ps) ∧ es = [.val (.ref b.a), .dat (.str p.name), .dat (.int x), .dat (.int wo)] ∧ s = st0 ∧ O = fun o => o = .ok (.dat (.bool (openB b.mt p x wo))) s
theorem v_Book_is_open {K : PySem.W.Frag} {Γ : List Ent} {to : TE} {ta : TA} {E : XK} {C_Book : Addr} {s : US} {b : Bk} {p : Pers} {x wo : Int} (ho : EvE ((uw K).g s) to Γ (.val (.ref b.a))) (hA : EvAE ((uw K).g s) ta Γ [.dat (.str p.name), .dat (.int x), .dat (.int wo)]) (hp : Side (BkAt C_Book s b ∧ p ∈ b.ps)) : EvD ((uw K).g s) (tMeth C_Book "is_open" (spW (uw K) (R_Book_is_open C_Book)) [] E to ta) Γ (.bool (openB b.mt p x wo)) := ed_meth ho (hp.out.1.ob) (BkAt.nom (by decide +kernel)) hA ⟨s, b, p, x, wo, hp.out, rfl, rfl, rfl⟩ (fun _ h => h)
def R_Book_named (C_Book : Addr) : List Ent → US → (Out (US) → Prop) → Prop := fun es st0 O => ∃ (s : US) (b : Bk) (ps : List Pers), (BkAt C_Book s b ∧ (∀ p ∈ ps, p ∈ b.ps) ∧ ps ≠ [] ∧ (ps.map (·.name)).Nodup ∧ ps.length ≤ 900) ∧ es = [.val (.ref b.a), .dat (.list (NmsD ps))] ∧ s = st0 ∧ O = fun o => o = .ok (.dat (.none)) s
theorem v_Book_named {K : PySem.W.Frag} {Γ : List Ent} {to : TE} {ta : TA} {E : XK} {C_Book : Addr} {s : US} {b : Bk} {ps : List Pers} (ho : EvE ((uw K).g s) to Γ (.val (.ref b.a))) (hA : EvAE ((uw K).g s) ta Γ [.dat (.list (NmsD ps))]) (hp : Side (BkAt C_Book s b ∧ (∀ p ∈ ps, p ∈ b.ps) ∧ ps ≠ [] ∧ (ps.map (·.name)).Nodup ∧ ps.length ≤ 900)) : EvD ((uw K).g s) (tMeth C_Book "named" (spW (uw K) (R_Book_named C_Book)) [] E to ta) Γ (.none) := ed_meth ho (hp.out.1.ob) (BkAt.nom (by decide +kernel)) hA ⟨s, b, ps, hp.out, rfl, rfl, rfl⟩ (fun _ h => h)
def R_Book_stretch (C_Book : Addr) : List Ent → US → (Out (US) → Prop) → Prop := fun es st0 O => ∃ (s : US) (b : Bk) (st en : Int), (BkAt C_Book s b ∧ 0 ≤ st ∧ st ≤ en ∧ en < 1000000000000 ∧ en ≤ st + 10000) ∧ es = [.val (.ref b.a), .dat (.int st), .dat (.int en)] ∧ s = st0 ∧ O = fun o => o = .ok (.dat (.tuple [.int st, .int en])) s
theorem v_Book_stretch {K : PySem.W.Frag} {Γ : List Ent} {to : TE} {ta : TA} {E : XK} {C_Book : Addr} {s : US} {b : Bk} {st en : Int} (ho : EvE ((uw K).g s) to Γ (.val (.ref b.a))) (hA : EvAE ((uw K).g s) ta Γ [.dat (.int st), .dat (.int en)]) (hp : Side (BkAt C_Book s b ∧ 0 ≤ st ∧ st ≤ en ∧ en < 1000000000000 ∧ en ≤ st + 10000)) : EvD ((uw K).g s) (tMeth C_Book "stretch" (spW (uw K) (R_Book_stretch C_Book)) [] E to ta) Γ (.tuple [.int st, .int en]) := ed_meth ho (hp.out.1.ob) (BkAt.nom (by decide +kernel)) hA ⟨s, b, st, en, hp.out, rfl, rfl, rfl⟩ (fun _ h => h)
def R_Book_first (C_Book : Addr) : List Ent → US → (Out (US) → Prop) → Prop := fun es st0 O => ∃ (s : US) (b : Bk) (ps : List Pers) (h st en : Int) (c : Bool), ((BkAt C_Book s b ∧ (∀ p ∈ ps, p ∈ b.ps) ∧ ps ≠ [] ∧ (ps.map (·.name)).Nodup ∧ ps.length ≤ 900) ∧ (1 ≤ h ∧ h ≤ 48) ∧ 0 ≤ st ∧ st ≤ en ∧ en < 1000000000000 ∧ en ≤ st + 10000) ∧ es = [.val (.ref b.a), .dat (.list (NmsD ps)), .dat (.int h), .dat (.int st), .dat (.int en)] ∧ s = st0 ∧ O = fun o => ∃ f rs, FRes s c f rs o ∧ Found b.mt ps h st en 0 f rs
def R_Book_meet (C_Book : Addr) : List Ent → US → (Out (US) → Prop) → Prop := fun es st0 O => ∃ (s : US) (b : Bk) (ps : List Pers) (h st en : Int), ((BkAt C_Book s b ∧ (∀ p ∈ ps, p ∈ b.ps) ∧ ps ≠ [] ∧ (ps.map (·.name)).Nodup ∧ ps.length ≤ 900) ∧ ((1 ≤ h ∧ h ≤ 48) ∧ 0 ≤ st ∧ st ≤ en ∧ en < 1000000000000 ∧ en ≤ st + 10000) ∧ b.mt.length < 900) ∧ es = [.val (.ref b.a), .dat (.list (NmsD ps)), .dat (.int h), .dat (.int st), .dat (.int en)] ∧ s = st0 ∧ O = fun o => ∃ f rs, Found b.mt ps h st en 0 f rs ∧ ((f = .none ∧ o = .ok (.dat .none) s) ∨ ∃ y v s2, f = .int y ∧ o = .ok (.dat (.tuple [.int (b.given + 1), .int y])) s2 ∧ BkAt C_Book s2 (b.meet y h (ps.map (·.name)) v) ∧ Keeps s s2 [b.a, b.bk])
def R_Book_meetings (C_Book : Addr) : List Ent → US → (Out (US) → Prop) → Prop := fun es st0 O => ∃ (s : US) (b : Bk), (BkAt C_Book s b) ∧ es = [.val (.ref b.a)] ∧ s = st0 ∧ O = fun o => o = .ok (.dat (.list (b.mt.map Meet.d))) s
theorem v_Book_meetings {K : PySem.W.Frag} {Γ : List Ent} {to : TE} {ta : TA} {E : XK} {C_Book : Addr} {s : US} {b : Bk} (ho : EvE ((uw K).g s) to Γ (.val (.ref b.a))) (hA : EvAE ((uw K).g s) ta Γ []) (hp : Side (BkAt C_Book s b)) : EvD ((uw K).g s) (tMeth C_Book "meetings" (spW (uw K) (R_Book_meetings C_Book)) [] E to ta) Γ (.list (b.mt.map Meet.d)) := ed_meth ho (hp.out.ob) (BkAt.nom (by decide +kernel)) hA ⟨s, b, hp.out, rfl, rfl, rfl⟩ (fun _ h => h)
def R_Book_place (C_Book : Addr) : List Ent → US → (Out (US) → Prop) → Prop := fun es st0 O => ∃ (s : US) (b : Bk) (n : Int) (j : Nat) (m : Meet), (BkAt C_Book s b ∧ Ten b n j m) ∧ es = [.val (.ref b.a), .dat (.int n)] ∧ s = st0 ∧ O = fun o => o = .ok (.dat (.int (j : Int))) s
theorem v_Book_place {K : PySem.W.Frag} {Γ : List Ent} {to : TE} {ta : TA} {E : XK} {C_Book : Addr} {s : US} {b : Bk} {n : Int} {j : Nat} {m : Meet} (ho : EvE ((uw K).g s) to Γ (.val (.ref b.a))) (hA : EvAE ((uw K).g s) ta Γ [.dat (.int n)]) (hp : Side (BkAt C_Book s b ∧ Ten b n j m)) : EvD ((uw K).g s) (tMeth C_Book "place" (spW (uw K) (R_Book_place C_Book)) [] E to ta) Γ (.int (j : Int)) := ed_meth ho (hp.out.1.ob) (BkAt.nom (by decide +kernel)) hA ⟨s, b, n, j, m, hp.out, rfl, rfl, rfl⟩ (fun _ h => h)
def R_Book_drop (C_Book : Addr) : List Ent → US → (Out (US) → Prop) → Prop := fun es st0 O => ∃ (s : US) (b : Bk) (n : Int) (j : Nat) (m : Meet), (BkAt C_Book s b ∧ Ten b n j m) ∧ es = [.val (.ref b.a), .dat (.int n)] ∧ s = st0 ∧ O = fun o => ∃ s2, o = .ok (.dat .none) s2 ∧ BkAt C_Book s2 { b with mv := b.mv.eraseIdx j, mt := b.mt.eraseIdx j } ∧ Keeps s s2 [b.bk]
def R_Book_move (C_Book : Addr) : List Ent → US → (Out (US) → Prop) → Prop := fun es st0 O => ∃ (s : US) (b : Bk) (n st en : Int) (j : Nat) (m : Meet) (ps : List Pers), ((BkAt C_Book s b ∧ Ten b n j m) ∧ ((∀ p ∈ ps, p ∈ b.ps) ∧ ps.map (·.name) = m.who) ∧ 0 ≤ st ∧ st ≤ en ∧ en < 1000000000000 ∧ en ≤ st + 10000) ∧ es = [.val (.ref b.a), .dat (.int n), .dat (.int st), .dat (.int en)] ∧ s = st0 ∧ O = fun o => ∃ f rs, Found b.mt ps m.hrs st en n f rs ∧ ((f = .none ∧ o = .ok (.dat .none) s) ∨ ∃ y v s2, f = .int y ∧ o = .ok (.dat (.int y)) s2 ∧ BkAt C_Book s2 { b with mv := b.mv.set j v, mt := b.mt.set j ⟨n, y, m.hrs, m.who⟩ } ∧ Keeps s s2 [b.bk])
def R_law : List PyData → PyData → Prop := fun ds d => ∃ (ns : List Int), (ns.length ≤ 63) ∧ ds = [.list (ns.map .int)] ∧ d = .bool true
theorem v_law {G : Gd} {Γ : List Ent} {ta : TA} {E : XK} {ns : List Int} (hA : EvA G ta Γ [.list (ns.map .int)]) (hp : Side (ns.length ≤ 63)) : EvD G (tCall (spV G.K R_law) [] E ta) Γ (.bool true) := ev_call hA ⟨ns, hp.out, rfl, rfl⟩

structure Txt (K : PySem.W.Frag) (mg : Str → Option Value) (a_MONTHS : Addr) (a_BEARING : Addr) (C_HourError : Addr) (C_NoRule : Addr) (C_NoName : Addr) (C_Taken : Addr) (C_Stranger : Addr) (C_Twice : Addr) (C_NoTime : Addr) (C_NoMeeting : Addr) (C_Clash : Addr) (C_Book : Addr) : Prop where
  t__wall : FnT K mg "_wall" "_wall" s__wall
  t_is_whole : FnT K mg "is_whole" "is_whole" s_is_whole
  t_is_between : FnT K mg "is_between" "is_between" s_is_between
  t_month_days : FnT K mg "month_days" "month_days" s_month_days
  t_date_of : FnT K mg "date_of" "date_of" s_date_of
  t_from_end : FnT K mg "from_end" "from_end" s_from_end
  t_blocked : FnT K mg "blocked" "blocked" s_blocked
  t_search : FnT K mg "search" "search" s_search
  t_is_time : FnT K mg "is_time" "is_time" s_is_time
  t_is_length : FnT K mg "is_length" "is_length" s_is_length
  t_is_row : FnT K mg "is_row" "is_row" s_is_row
  t_is_plain : FnT K mg "is_plain" "is_plain" s_is_plain
  t_is_rule : FnT K mg "is_rule" "is_rule" s_is_rule
  t_innermost : FnT K mg "innermost" "innermost" s_innermost
  t_length_of : FnT K mg "length_of" "length_of" s_length_of
  t_plain_begins : FnT K mg "plain_begins" "plain_begins" s_plain_begins
  t_begins : FnT K mg "begins" "begins" s_begins
  t_covers : FnT K mg "covers" "covers" s_covers
  t_is_name : FnT K mg "is_name" "is_name" s_is_name
  t__law_cell_at : FnT K mg "_law_cell_at" "_law_cell_at" s__law_cell_at
  t__law_whole : FnT K mg "_law_whole" "_law_whole" s__law_whole
  t__law_days : FnT K mg "_law_days" "_law_days" s__law_days
  t__law_in_month : FnT K mg "_law_in_month" "_law_in_month" s__law_in_month
  t__law_plain_begins : FnT K mg "_law_plain_begins" "_law_plain_begins" s__law_plain_begins
  t__law_bearing : FnT K mg "_law_bearing" "_law_bearing" s__law_bearing
  t__law_heads : FnT K mg "_law_heads" "_law_heads" s__law_heads
  t__law_begun : FnT K mg "_law_begun" "_law_begun" s__law_begun
  t__law_size : FnT K mg "_law_size" "_law_size" s__law_size
  t__law_weekdays : FnT K mg "_law_weekdays" "_law_weekdays" s__law_weekdays
  t__law_plain_by : FnT K mg "_law_plain_by" "_law_plain_by" s__law_plain_by
  t__law_head_by : FnT K mg "_law_head_by" "_law_head_by" s__law_head_by
  t__law_far : FnT K mg "_law_far" "_law_far" s__law_far
  t__law_in_time : FnT K mg "_law_in_time" "_law_in_time" s__law_in_time
  t__law_name_by : FnT K mg "_law_name_by" "_law_name_by" s__law_name_by
  t__law_free_by : FnT K mg "_law_free_by" "_law_free_by" s__law_free_by
  t__law_people_by : FnT K mg "_law_people_by" "_law_people_by" s__law_people_by
  t__law_book_of : FnT K mg "_law_book_of" "_law_book_of" s__law_book_of
  t__law_lasts : FnT K mg "_law_lasts" "_law_lasts" s__law_lasts
  t__law_open : FnT K mg "_law_open" "_law_open" s__law_open
  t__law_is_told : FnT K mg "_law_is_told" "_law_is_told" s__law_is_told
  t__law_row_holds : FnT K mg "_law_row_holds" "_law_row_holds" s__law_row_holds
  t__law_holds : FnT K mg "_law_holds" "_law_holds" s__law_holds
  t__law_all_open : FnT K mg "_law_all_open" "_law_all_open" s__law_all_open
  t__law_busier : FnT K mg "_law_busier" "_law_busier" s__law_busier
  t__law_taken : FnT K mg "_law_taken" "_law_taken" s__law_taken
  t__law_asked : FnT K mg "_law_asked" "_law_asked" s__law_asked
  t__law_asked_again : FnT K mg "_law_asked_again" "_law_asked_again" s__law_asked_again
  t_Book_init : MkT K mg C_Book "Book" "Book.__init__" s_Book_init
  t_Book_come : MtT K C_Book "come" "Book.come" s_Book_come
  t_Book_busy : MtT K C_Book "busy" "Book.busy" s_Book_busy
  t_Book_need : MtT K C_Book "need" "Book.need" s_Book_need
  t_Book_is_open : MtT K C_Book "is_open" "Book.is_open" s_Book_is_open
  t_Book_named : MtT K C_Book "named" "Book.named" s_Book_named
  t_Book_stretch : MtT K C_Book "stretch" "Book.stretch" s_Book_stretch
  t_Book_first : MtT K C_Book "first" "Book.first" s_Book_first
  t_Book_meet : MtT K C_Book "meet" "Book.meet" s_Book_meet
  t_Book_meetings : MtT K C_Book "meetings" "Book.meetings" s_Book_meetings
  t_Book_place : MtT K C_Book "place" "Book.place" s_Book_place
  t_Book_drop : MtT K C_Book "drop" "Book.drop" s_Book_drop
  t_Book_move : MtT K C_Book "move" "Book.move" s_Book_move
  t_law : FnT K mg "law" "law" s_law
  cl_Book : Cls K C_Book
  na_booked : NoAttr K C_Book "booked"
  na_given : NoAttr K C_Book "given"
  na_known : NoAttr K C_Book "known"
  b_all : mg "all" = none
  b_any : mg "any" = none
  b_bool : mg "bool" = none
  b_int : mg "int" = none
  b_isinstance : mg "isinstance" = none
  b_len : mg "len" = none
  b_list : mg "list" = none
  b_max : mg "max" = none
  b_min : mg "min" = none
  b_range : mg "range" = none
  b_repr : mg "repr" = none
  b_reversed : mg "reversed" = none
  b_set : mg "set" = none
  b_str : mg "str" = none
  b_tuple : mg "tuple" = none
  g_MONTHS : GDat K mg "MONTHS" a_MONTHS (.list [(.int 31), (.int 28), (.int 31), (.int 30), (.int 31), (.int 30), (.int 31), (.int 31), (.int 30), (.int 31), (.int 30), (.int 31)])
  g_FOUR_YEARS : GInt mg "FOUR_YEARS" (1461)
  g_TIMES : GInt mg "TIMES" (1000000000000)
  g_DAYS : GInt mg "DAYS" (100000000000)
  g_LONGEST : GInt mg "LONGEST" (48)
  g_MOST_STEP : GInt mg "MOST_STEP" (1000000)
  g_DEEPEST : GInt mg "DEEPEST" (8)
  g_BEARING : GDat K mg "BEARING" a_BEARING (.list [(.str "from"), (.str "until"), (.str "also"), (.str "but")])
  g_LETTERS : GStr mg "LETTERS" "abcdefghijklmnopqrstuvwxyz"
  g_MOST_SIGNS : GInt mg "MOST_SIGNS" (12)
  g_MOST_RULES : GInt mg "MOST_RULES" (20)
  g_STRETCH : GInt mg "STRETCH" (10000)
  x_HourError : XcT K mg "HourError" C_HourError
  x_NoRule : XcT K mg "NoRule" C_NoRule
  x_NoName : XcT K mg "NoName" C_NoName
  x_Taken : XcT K mg "Taken" C_Taken
  x_Stranger : XcT K mg "Stranger" C_Stranger
  x_Twice : XcT K mg "Twice" C_Twice
  x_NoTime : XcT K mg "NoTime" C_NoTime
  x_NoMeeting : XcT K mg "NoMeeting" C_NoMeeting
  x_Clash : XcT K mg "Clash" C_Clash
end K11

namespace K11
open PySem L2 Pd
/-! words of this file: k_clsL tells what an expression evaluates to; k_subL a side condition; k_offL goes on with statements -/
local macro_rules | `(tactic| k_subL) => `(tactic| first
  | assumption | omega | decide | rfl | (constructor <;> omega) | (refine Or.inr ?_ <;> constructor <;> omega) | (refine Or.inl ?_ <;> constructor <;> omega)
  | (simp only [List.length_cons, List.length_nil, List.length_map, List.length_append, List.length_range, List.length_reverse] at *; omega)
  | (intro d hd; exact (List.mem_map.mp hd).elim fun _ h => ⟨_, h.2.symm⟩)
  | skip)
local macro_rules | `(tactic| k_clsL) => `(tactic| first
  | ((with_reducible apply id_c); first
      | with_reducible exact ev_int
      | with_reducible exact ev_bl
      | with_reducible exact ev_str
      | with_reducible exact ev_non
      | ((with_reducible apply ev_c); assumption))
  | ((with_reducible apply id_var); first
      | exact ev_var rfl)
  | ((with_reducible apply id_call); first
      | ((with_reducible apply v_month_days) <;> k_clsL)
      | ((with_reducible apply v_date_of) <;> k_clsL)
      | ((with_reducible apply v_from_end) <;> k_clsL)
      | ((with_reducible apply v__law_whole) <;> k_clsL)
      | ((with_reducible apply v__law_days) <;> k_clsL)
      | ((with_reducible apply v_is_whole) <;> k_clsL)
      | ((with_reducible apply v_is_between) <;> k_clsL)
      | ((with_reducible apply v_is_time) <;> k_clsL)
      | ((with_reducible apply v_is_length) <;> k_clsL)
      | ((with_reducible apply v_is_row) <;> k_clsL)
      | ((with_reducible apply v_is_plain) <;> k_clsL)
      | ((with_reducible apply v_is_rule) <;> k_clsL)
      | ((with_reducible apply v_innermost) <;> k_clsL)
      | ((with_reducible apply v_length_of) <;> k_clsL)
      | ((with_reducible apply v_plain_begins) <;> k_clsL)
      | ((with_reducible apply v_begins) <;> k_clsL)
      | ((with_reducible apply v__law_in_month) <;> k_clsL)
      | ((with_reducible apply v__law_plain_begins) <;> k_clsL)
      | ((with_reducible apply v__law_weekdays) <;> k_clsL)
      | ((with_reducible apply v__law_plain_by) <;> k_clsL)
      | ((with_reducible apply v__law_heads) <;> k_clsL)
      | ((with_reducible apply v__law_begun) <;> k_clsL)
      | ((with_reducible apply v__law_size) <;> k_clsL)
      | ((with_reducible apply v_covers) <;> k_clsL)
      | ((with_reducible apply v_is_name) <;> k_clsL)
      | ((with_reducible apply v__law_cell_at) <;> k_clsL)
      | ((with_reducible apply v__law_in_time) <;> k_clsL)
      | ((with_reducible apply v__law_name_by) <;> k_clsL)
      | ((with_reducible apply v__law_free_by) <;> k_clsL)
      | ((with_reducible apply v__law_head_by) <;> k_clsL)
      | ((with_reducible apply v__law_is_told) <;> k_clsL)
      | ((with_reducible apply v__law_bearing) <;> k_clsL)
      | ((with_reducible apply v__law_lasts) <;> k_clsL)
      | ((with_reducible apply v_law) <;> k_clsL)
      | ((with_reducible apply EvF.ev) <;> k_clsL))
  | ((with_reducible apply id_callS); first
      | fail)
  | ((with_reducible apply id_op); first
      | with_reducible exact ev_p4
      | with_reducible exact ev_p6
      | with_reducible exact ev_p9
      | with_reducible exact ev_p11
      | with_reducible exact ev_p12
      | with_reducible exact ev_p20
      | with_reducible exact ev_p30
      | ((with_reducible apply ev_isN) <;> k_clsL)
      | ((with_reducible apply ev_isNot) <;> k_clsL)
      | ((with_reducible apply c_ixD) <;> k_clsL)
      | ((with_reducible apply ev_op) <;> k_clsL))
  | ((with_reducible apply id_cb); first
      | ((with_reducible apply ev_isInt) <;> k_clsL)
      | ((with_reducible apply ev_isBool) <;> k_clsL)
      | ((with_reducible apply ev_isStr) <;> k_clsL)
      | ((with_reducible apply ev_isList) <;> k_clsL)
      | ((with_reducible apply ev_isTup) <;> k_clsL)
      | ((with_reducible apply ev_cb) <;> k_clsL)
      | ((with_reducible apply EvF.ev) <;> k_clsL))
  | ((with_reducible apply id_A); first
      | with_reducible exact ea_nil
      | ((with_reducible apply ea_cons) <;> k_clsL))
  | ((with_reducible apply id_T); first
      | with_reducible exact et_yes
      | ((with_reducible apply et_test) <;> k_clsL)
      | ((with_reducible apply et_B) <;> k_clsL)
      | ((with_reducible apply et_and) <;> k_clsL)
      | ((with_reducible apply et_or) <;> k_clsL)
      | ((with_reducible apply et_not) <;> k_clsL))
  | ((with_reducible apply id_od); first
      | ((with_reducible apply oy_in) <;> k_clsL)
      | ((with_reducible apply oy_notIn) <;> k_clsL)
      | ((with_reducible apply ox_in) <;> k_clsL)
      | ((with_reducible apply ox_notIn) <;> k_clsL)
      | ((with_reducible apply od_add_int) <;> k_clsL)
      | ((with_reducible apply oq_add_str) <;> k_clsL)
      | ((with_reducible apply oq_add_tup) <;> k_clsL)
      | ((with_reducible apply oq_add_list) <;> k_clsL)
      | ((with_reducible apply oq_sub) <;> k_clsL)
      | ((with_reducible apply oq_mul) <;> k_clsL)
      | ((with_reducible apply oq_div) <;> k_clsL)
      | ((with_reducible apply oq_mod) <;> k_clsL)
      | ((with_reducible apply od_lt) <;> k_clsL)
      | ((with_reducible apply od_le) <;> k_clsL)
      | ((with_reducible apply od_gt) <;> k_clsL)
      | ((with_reducible apply od_ge) <;> k_clsL)
      | with_reducible exact oq_ix0
      | with_reducible exact oq_ix1
      | with_reducible exact oq_ix2
      | with_reducible exact oq_ix3
      | with_reducible exact oq_ixl0
      | with_reducible exact oq_ixl1
      | ((with_reducible apply oq_ix_tup) <;> k_clsL)
      | ((with_reducible apply oq_ix_list) <;> k_clsL)
      | ((with_reducible apply oq_ix_lastL) <;> k_clsL)
      | ((with_reducible apply oq_ix_lastT) <;> k_clsL)
      | ((with_reducible apply oq_ix_ints) <;> k_clsL)
      | ((with_reducible apply oq_ix_intsT) <;> k_clsL)
      | ((with_reducible apply oq_ix_lit) <;> k_clsL)
      | ((with_reducible apply oq_ix_s0) <;> k_clsL)
      | ((with_reducible apply oq_ix_str) <;> k_clsL)
      | ((with_reducible apply od_eq_int) <;> k_clsL)
      | ((with_reducible apply oq_eq_strT) <;> k_clsL)
      | ((with_reducible apply oq_eq_strF) <;> k_clsL)
      | ((with_reducible apply od_eq_str) <;> k_clsL)
      | ((with_reducible apply od_eq_bl) <;> k_clsL)
      | ((with_reducible apply oq_eq_nil) <;> k_clsL)
      | ((with_reducible apply oq_eq_ints) <;> k_clsL)
      | ((with_reducible apply oq_eq_any) <;> k_clsL)
      | ((with_reducible apply od_ne_int) <;> k_clsL)
      | ((with_reducible apply oq_ne_strT) <;> k_clsL)
      | ((with_reducible apply oq_ne_strF) <;> k_clsL)
      | ((with_reducible apply od_ne_str) <;> k_clsL)
      | ((with_reducible apply od_ne_bl) <;> k_clsL)
      | ((with_reducible apply oq_ne_nil) <;> k_clsL)
      | ((with_reducible apply oq_ne_ints) <;> k_clsL)
      | ((with_reducible apply oq_ne_any) <;> k_clsL)
      | ((with_reducible apply oq_in_intsT) <;> k_clsL)
      | ((with_reducible apply oq_in_intsL) <;> k_clsL)
      | ((with_reducible apply oq_in_int2) <;> k_clsL)
      | with_reducible exact oq_in_strsT
      | with_reducible exact oq_in_strsL
      | ((with_reducible apply oq_in_listT) <;> k_clsL)
      | ((with_reducible apply oq_in_listF) <;> k_clsL)
      | ((with_reducible apply oq_in_list) <;> k_clsL)
      | ((with_reducible apply oq_in_tup) <;> k_clsL)
      | ((with_reducible apply oq_in_sign) <;> k_clsL)
      | ((with_reducible apply oq_notIn_intsT) <;> k_clsL)
      | ((with_reducible apply oq_notIn_listT) <;> k_clsL)
      | ((with_reducible apply oq_notIn_listF) <;> k_clsL)
      | ((with_reducible apply oq_notIn_list) <;> k_clsL)
      | ((with_reducible apply oq_notIn_tup) <;> k_clsL)
      | ((with_reducible apply oq_notIn_sign) <;> k_clsL))
  | ((with_reducible apply id_ca); first
      | ((with_reducible apply ca_len_list) <;> k_clsL)
      | ((with_reducible apply ca_len_tup) <;> k_clsL)
      | ((with_reducible apply cq_len_str) <;> k_clsL)
      | ((with_reducible apply ca_int_int) <;> k_clsL)
      | ((with_reducible apply ca_int_bl) <;> k_clsL)
      | ((with_reducible apply cq_int_str) <;> k_clsL)
      | ((with_reducible apply cq_strA_int) <;> k_clsL)
      | with_reducible exact cq_strA_str
      | ((with_reducible apply ca_tup_list) <;> k_clsL)
      | ((with_reducible apply ca_tup_tup) <;> k_clsL)
      | ((with_reducible apply ca_max) <;> k_clsL)
      | ((with_reducible apply ca_min) <;> k_clsL)
      | ((with_reducible apply cq_all) <;> k_clsL)
      | ((with_reducible apply cq_any) <;> k_clsL)
      | ((with_reducible apply cq_repr) <;> k_clsL))
  | ((with_reducible apply id_D); first
      | ((with_reducible apply ev_neg) <;> k_clsL)
      | ((with_reducible apply ev_andV) <;> k_clsL)
      | ((with_reducible apply ev_orV) <;> k_clsL)
      | ((with_reducible apply ev_notV) <;> k_clsL)
      | ((with_reducible apply w_chain_ll) <;> k_clsL)
      | ((with_reducible apply w_chain_lt) <;> k_clsL)
      | ((with_reducible apply w_tup) <;> k_clsL)
      | ((with_reducible apply c_sl_restT) <;> k_clsL)
      | ((with_reducible apply c_sl_head) <;> k_clsL)
      | ((with_reducible apply c_sl_tail) <;> k_clsL)
      | ((with_reducible apply w_sl_str) <;> k_clsL)
      | ((with_reducible apply ev_join) <;> k_clsL)
      | ((with_reducible apply w_ifxT) <;> k_clsL)
      | ((with_reducible apply w_ifxF) <;> k_clsL)
      | ((with_reducible apply EvF.ev) <;> k_clsL))
  | ((with_reducible apply id_F); first
      | ((with_reducible apply w_lst) <;> k_clsL)
      | ((with_reducible apply ef_split) <;> k_clsL)
      | ((with_reducible apply w_add_list) <;> k_clsL)
      | ((with_reducible apply w_lcm) <;> k_clsL)
      | ((with_reducible apply w_lci) <;> k_clsL)
      | ((with_reducible apply w_lcn) <;> k_clsL)
      | ((with_reducible apply c_sl_two) <;> k_clsL)
      | ((with_reducible apply c_sl_restL) <;> k_clsL)
      | ((with_reducible apply ef_sl_list) <;> k_clsL)
      | ((with_reducible apply w_list_list) <;> k_clsL)
      | ((with_reducible apply w_list_tup) <;> k_clsL))
  | ((with_reducible apply id_I); first
      | ((with_reducible apply w_rng1) <;> k_clsL)
      | ((with_reducible apply w_rng2) <;> k_clsL)
      | ((with_reducible apply it_rev_list) <;> k_clsL)
      | ((with_reducible apply it_any_list) <;> k_clsL)
      | ((with_reducible apply it_any_tup) <;> k_clsL)
      | ((with_reducible apply it_any_str) <;> k_clsL))
  | ((with_reducible apply id_O); first
      | with_reducible exact eo_none
      | ((with_reducible apply eo_some) <;> k_clsL))
  | ((with_reducible apply id_R); first
      | fail)
  | ((with_reducible apply Side.mk) <;> k_subL)
  | ((with_reducible apply SideD.mk); decide +kernel)
  | ((with_reducible apply SideA.mk); assumption)
  | ((with_reducible apply SideR.mk); first | rfl | assumption)
  | ((with_reducible intro hev); first | exact et_no (absurd hev (by decide +kernel)) | exact ev_no (absurd hev (by decide +kernel)) | exact absurd hev (by decide +kernel) | exact et_dead hev | exact et_dead hev.symm | exact ev_dead hev | exact ev_dead hev.symm | ((with_reducible apply et_no); simp only [Bool.and_eq_true, Bool.or_eq_true, Bool.false_eq_true, and_false, false_and, or_false, false_or, or_self, and_self] at hev; done) | ((with_reducible apply ev_no); simp only [Bool.and_eq_true, Bool.or_eq_true, Bool.false_eq_true, and_false, false_and, or_false, false_or, or_self, and_self] at hev; done) | exact (Bool.false_ne_true hev).elim | exact (Bool.false_ne_true hev.symm).elim | ((try simp only [decide_eq_true_eq, decide_eq_false_iff_not, Bool.and_eq_true, Bool.not_eq_true', Bool.not_eq_false'] at hev) <;> k_clsL))
  | with_reducible exact false
  | (show Int; skip) | (show PyData; skip) | (show Str; skip) | (show List PyData; skip) | (show Nat; skip) | (show List Int; skip))
local macro_rules | `(tactic| k_offL) => `(tactic| first
  | ((with_reducible apply id_wp); first
      | ((with_reducible apply x__law_far) <;> k_offL)
      | ((with_reducible apply y__law_far) <;> k_offL)
      | ((with_reducible apply wp_seq) <;> k_offL)
      | ((with_reducible apply w_app) <;> k_offL)
      | ((with_reducible apply wp_clear) <;> k_offL)
      | ((with_reducible apply wp_asg) <;> k_offL)
      | ((with_reducible apply wp_ret) <;> k_offL)
      | ((with_reducible apply wp_drop) <;> k_offL)
      | ((with_reducible apply wp_if) <;> k_offL)
      | ((with_reducible apply wp_next) <;> k_offL)
      | ((with_reducible apply wp_break) <;> k_offL)
      | ((with_reducible apply wp_cont) <;> k_offL)
      | ((with_reducible apply wp_retN) <;> k_offL)
      | ((with_reducible apply wp_raise) <;> k_offL))
  | ((with_reducible apply wh_mk) <;> k_offL)
  | ((with_reducible intro hev); first | exact et_no (absurd hev (by decide +kernel)) | exact ev_no (absurd hev (by decide +kernel)) | exact absurd hev (by decide +kernel) | exact et_dead hev | exact et_dead hev.symm | exact ev_dead hev | exact ev_dead hev.symm | ((with_reducible apply et_no); simp only [Bool.and_eq_true, Bool.or_eq_true, Bool.false_eq_true, and_false, false_and, or_false, false_or, or_self, and_self] at hev; done) | ((with_reducible apply ev_no); simp only [Bool.and_eq_true, Bool.or_eq_true, Bool.false_eq_true, and_false, false_and, or_false, false_or, or_self, and_self] at hev; done) | exact (Bool.false_ne_true hev).elim | exact (Bool.false_ne_true hev.symm).elim | ((try simp only [decide_eq_true_eq, decide_eq_false_iff_not, Bool.and_eq_true, Bool.or_eq_true, Bool.not_eq_true', Bool.not_eq_false', Bool.false_eq_true, and_false, false_and, or_false, false_or, true_and, and_true] at hev) <;> k_offL))
  | k_clsL
  | rfl
  | (dsimp only [List.set_cons_succ, List.set_cons_zero]; k_offL)
  | skip)

section

theorem ok__law_far {P : Program} {w : World} {K : PySem.W.Frag} {mg : Str → Option Value} {base : Heap} {a_MONTHS a_BEARING C_HourError C_NoRule C_NoName C_Taken C_Stranger C_Twice C_NoTime C_NoMeeting C_Clash C_Book : Addr} (T : Txt K mg a_MONTHS a_BEARING C_HourError C_NoRule C_NoName C_Taken C_Stranger C_Twice C_NoTime C_NoMeeting C_Clash C_Book) :
    FnB P w K mg base CX0 1 "_law_far" ["_law_cell"] (spE K R__law_far) := by
  refine T.t__law_far.ok (fun _ _ _ _ _ _ us hl => match us, hl with | [_], _ => rfl) fun f fd F => fn_okE F sc__law_far (by rintro ds d ⟨c, hp, rfl, rfl⟩; rfl) fun cdv A outer s H E hr => ?_
  have hu66 := room66 hr
  have hu := hr.units
  have hu1 := Nat.lt_of_le_of_lt (Nat.add_le_add_left (show 1 ≤ 64 by decide) _) hu
  have nd := sc__law_far.nd
  refine ⟨_, (pss_one (ps_ret (pe_ix (kx_seq (K := K) rfl) (pe_lst (pa_cons pe_int (pa_cons (pe_op op_modI (pe_op op_divI (pv 0) pe_int) (pe_op op_powI pe_int pe_int)) (pa_cons (pe_op op_modI (pe_op op_divI (pv 0) pe_int) (pe_op op_subI (pe_op op_powI pe_int pe_int) pe_int)) (pa_cons (pe_op op_subI (pe_op op_powI pe_int pe_int) pe_int) pa_nil))))) (pe_op op_modI (pv 0) pe_int) (fun _ _ => rfl)))), ?_⟩
  clear hr hu hu1 hu66 nd F
  rintro ds d ⟨c, hp, rfl, rfl⟩
  show WpD _ _ _ [.dat (.int c)] _
  k_offL
  refine ⟨_, ?_, rfl⟩
  have h4 : c % 4 = 0 ∨ c % 4 = 1 ∨ c % 4 = 2 ∨ c % 4 = 3 := by omega
  rcases h4 with h | h | h | h <;> rw [h] <;> simp <;> omega
end
section

theorem ok__law_cell_at {P : Program} {w : World} {K : PySem.W.Frag} {mg : Str → Option Value} {base : Heap} {a_MONTHS a_BEARING C_HourError C_NoRule C_NoName C_Taken C_Stranger C_Twice C_NoTime C_NoMeeting C_Clash C_Book : Addr} (T : Txt K mg a_MONTHS a_BEARING C_HourError C_NoRule C_NoName C_Taken C_Stranger C_Twice C_NoTime C_NoMeeting C_Clash C_Book) :
    FnB P w K mg base CX0 1 "_law_cell_at" ["_law_script", "_law_k"] (spV K R__law_cell_at) := by
  refine T.t__law_cell_at.ok (fun _ _ _ _ _ _ us hl => match us, hl with | [_, _], _ => rfl) fun f fd F => fn_ok F sc__law_cell_at (by rintro ds d ⟨ns, k, hp, rfl, rfl⟩; rfl) fun cdv A outer s H E hr => ?_
  have hu66 := room66 hr
  have hu := hr.units
  have hu1 := Nat.lt_of_le_of_lt (Nat.add_le_add_left (show 1 ≤ 64 by decide) _) hu
  have nd := sc__law_cell_at.nd
  refine ⟨_, (pss_cons (ps_if (pt_cmpR (ok_eqA (K := K) rfl hu) (pe_callB (kc_len (K := K) rfl) rfl T.b_len bb_len (pa_cons (pv 0) pa_nil)) pe_int (nomark _)) (pss_one (ps_ret pe_int)) pss_nil)
    (pss_one (ps_ret (pe_op (ok_addA (K := K) rfl) (pe_ix (kx_seq (K := K) rfl) (pv 0) (pe_op op_modI (pv 1) (pe_callB (kc_len (K := K) rfl) rfl T.b_len bb_len (pa_cons (pv 0) pa_nil))) (fun _ _ => rfl)) (pe_op op_mulI (pe_op op_divI (pv 1) (pe_callB (kc_len (K := K) rfl) rfl T.b_len bb_len (pa_cons (pv 0) pa_nil))) pe_int))))), ?_⟩
  clear hr hu hu1 hu66 nd F
  rintro ds d ⟨ns, k, hp, rfl, rfl⟩
  show WpD _ _ _ [.dat (.list (ns.map .int)), .dat (.int k)] _
  have hl : ((ns.map PyData.int).length : Int) = (ns.length : Int) := by rw [List.length_map]
  refine wp_seq (wp_if (b := decide ((ns.length : Int) = 0)) (et_test (ev_op (ev_to (by k_clsL) (by rw [hl])) ev_int od_eq_int)) (fun h => ?_) fun h => wp_next ?_)
  · have e : ns = [] := List.length_eq_zero_iff.mp (by have := of_decide_eq_true h; omega)
    subst e
    exact wp_ret ev_int rfl
  have hne : ¬ ns = [] := fun e => by subst e; simp at h
  have hp0 : 0 < (ns.length : Int) := by have := List.length_pos_iff.mpr hne; omega
  have hm := Int.emod_nonneg k (show (ns.length : Int) ≠ 0 by omega)
  have hm2 := Int.emod_lt_of_pos k hp0
  have hL : ∀ Γ : List Ent, Γ[0]? = some (.dat (.list (ns.map .int))) → EvD (.pure K) (tCB (Pd.rLen K) (tCons (tVar 0) tNil)) Γ (.int (ns.length : Int)) := fun Γ h => ev_to (ev_cb (ea_cons (ev_var h) ea_nil) ca_len_list) (by rw [hl])
  dsimp only
  have e : cw ns k = ns.getD (k % (ns.length : Int)).toNat 0 + k / (ns.length : Int) * 31 := by unfold cw; rw [if_neg hne]
  rw [e]
  refine wp_ret (ev_op (ev_op (ev_var rfl) (w_mod (ev_var rfl) (hL _ rfl) ⟨hp0⟩) (oq_ix_ints ⟨⟨hm, hm2⟩⟩)) (ev_op (ev_op (ev_var rfl) (hL _ rfl) (oq_div ⟨by unfold CDiv; omega⟩)) ev_int (by k_clsL)) od_add_int) rfl
end
section

theorem ok__law_weekdays {P : Program} {w : World} {K : PySem.W.Frag} {mg : Str → Option Value} {base : Heap} {a_MONTHS a_BEARING C_HourError C_NoRule C_NoName C_Taken C_Stranger C_Twice C_NoTime C_NoMeeting C_Clash C_Book : Addr} (T : Txt K mg a_MONTHS a_BEARING C_HourError C_NoRule C_NoName C_Taken C_Stranger C_Twice C_NoTime C_NoMeeting C_Clash C_Book) :
    FnB P w K mg base CX0 1 "_law_weekdays" ["_law_bits"] (spV K R__law_weekdays) := by
  refine T.t__law_weekdays.ok (fun _ _ _ _ _ _ us hl => match us, hl with | [_], _ => rfl) fun f fd F => fn_ok F sc__law_weekdays (by rintro ds d ⟨b, hp, rfl, rfl⟩; rfl) fun cdv A outer s H E hr => ?_
  have hu66 := room66 hr
  have hu := hr.units
  have hu1 := Nat.lt_of_le_of_lt (Nat.add_le_add_left (show 1 ≤ 64 by decide) _) hu
  have nd := sc__law_weekdays.nd
  refine ⟨_, (pss_cons (ps_set (i := 1) nd rfl (by first | exact Or.inl rfl | exact Or.inr rfl) (pe_lst pa_nil))
    (pss_cons (ps_for PassesOwn.never rfl (pi_range1 rfl T.b_range (pa_cons pe_int pa_nil)) (pg_name (i := 2) nd rfl (by first | exact Or.inl rfl | exact Or.inr rfl)) (pss_cons (ps_if (pt_cmpR (ok_eqA (K := K) rfl hu) (pe_op op_modI (pv 0) pe_int) pe_int (nomark _)) (pss_one (ps_expr (kpe_app (K := K) rfl (pv 1) (pv 2)))) pss_nil)
    (pss_one (ps_set (i := 0) nd rfl (by first | exact Or.inl rfl | exact Or.inr rfl) (pe_op op_divI (pv 0) pe_int)))))
    (pss_one (ps_ret (pe_callTy (kc_tup (K := K) rfl) rfl T.b_tuple bb_tuple (pa_cons (pv 1) pa_nil)))))), ?_⟩
  clear hr hu hu1 hu66 nd F
  rintro ds d ⟨b, hp, rfl, rfl⟩
  show WpD _ _ _ [.dat (.int b), .no, .no] _
  refine wp_seq (wp_asg_own (ds := []) ?_ ?_)
  · k_clsL
  dsimp only [List.set_cons_succ, List.set_cons_zero]
  refine wp_seq (wp_fold (zs := List.range 7) (c := fun k : Nat => .int (0 + (k : Int))) wstep ([], b) .no (fun s e => [.dat (.int s.2), .own (s.1.map .int), e]) (fun i s => s.1.length ≤ i) ?_ rfl (Nat.le_refl 0) ?_ ?_)
  · refine w_rng1 (n := 7) ?_ ?_ ?_ <;> k_clsL
  · intro i s x e hx hl hi
    rw [List.length_range] at hi
    k_offL
    all_goals (refine ⟨?_, .dat (.int (0 + (x : Int))), ?_⟩ <;> simp [wstep, *] <;> omega)
  · intro e hl
    refine nx_freeze rfl (i := 1) rfl ?_
    k_offL
end
section

theorem ok__law_plain_by {P : Program} {w : World} {K : PySem.W.Frag} {mg : Str → Option Value} {base : Heap} {a_MONTHS a_BEARING C_HourError C_NoRule C_NoName C_Taken C_Stranger C_Twice C_NoTime C_NoMeeting C_Clash C_Book : Addr} (T : Txt K mg a_MONTHS a_BEARING C_HourError C_NoRule C_NoName C_Taken C_Stranger C_Twice C_NoTime C_NoMeeting C_Clash C_Book)
    (c__law_weekdays : FnB P w K mg base CX0 1 "_law_weekdays" ["_law_bits"] (spV K R__law_weekdays)) :
    FnB P w K mg base CX0 2 "_law_plain_by" ["_law_cells", "_law_far_here", "_law_most"] (spV K R__law_plain_by) := by
  refine T.t__law_plain_by.ok (fun _ _ _ _ _ _ us hl => match us, hl with | [_, _, _], _ => rfl) fun f fd F => fn_ok F sc__law_plain_by (by rintro ds d ⟨c0, c1, c2, far, most, hp, rfl, rfl⟩; rfl) fun cdv A outer s H E hr => ?_
  have hu66 := room66 hr
  have hu := hr.units
  have hu1 := Nat.lt_of_le_of_lt (Nat.add_le_add_left (show 1 ≤ 64 by decide) _) hu
  have nd := sc__law_plain_by.nd
  refine ⟨_, (pss_cons (ps_set (i := 3) nd rfl (by first | exact Or.inl rfl | exact Or.inr rfl) (pe_op op_modI (pe_ix (kx_seq (K := K) rfl) (pv 0) pe_int (fun _ _ => rfl)) pe_int))
    (pss_cons (ps_set (i := 4) nd rfl (by first | exact Or.inl rfl | exact Or.inr rfl) (pe_op (ok_addA (K := K) rfl) pe_int (pe_op op_modI (pe_op op_divI (pe_ix (kx_seq (K := K) rfl) (pv 0) pe_int (fun _ _ => rfl)) pe_int) (pv 2))))
    (pss_cons (ps_set (i := 5) nd rfl (by first | exact Or.inl rfl | exact Or.inr rfl) (pe_op (ok_addA (K := K) rfl) (pv 1) (pe_op op_modI (pe_ix (kx_seq (K := K) rfl) (pv 0) pe_int (fun _ _ => rfl)) pe_int)))
    (pss_cons (ps_if (pt_cmpR (ok_eqA (K := K) rfl hu) (pv 3) pe_int (nomark _)) (pss_one (ps_ret (pe_tup (pa_cons pe_str (pa_cons (pv 5) (pa_cons (pv 4) pa_nil)))))) pss_nil)
    (pss_cons (ps_if (pt_cmpR (ok_eqA (K := K) rfl hu) (pv 3) pe_int (nomark _)) (pss_one (ps_ret (pe_tup (pa_cons pe_str (pa_cons (pv 5) (pa_cons (pv 4) (pa_cons (pe_op (ok_addA (K := K) rfl) pe_int (pe_op op_modI (pe_ix (kx_seq (K := K) rfl) (pv 0) pe_int (fun _ _ => rfl)) pe_int)) pa_nil))))))) pss_nil)
    (pss_cons (ps_if (pt_cmpR (ok_eqA (K := K) rfl hu) (pv 3) pe_int (nomark _)) (pss_one (ps_ret (pe_tup (pa_cons pe_str (pa_cons (pe_callF c__law_weekdays (hr.mono (by decide)) rfl pass0 (pa_cons (pe_op (ok_addA (K := K) rfl) pe_int (pe_op op_modI (pe_ix (kx_seq (K := K) rfl) (pv 0) pe_int (fun _ _ => rfl)) pe_int)) pa_nil)) (pa_cons (pe_op op_modI (pe_ix (kx_seq (K := K) rfl) (pv 0) pe_int (fun _ _ => rfl)) pe_int) (pa_cons (pv 4) pa_nil))))))) pss_nil)
    (pss_cons (ps_set (i := 6) nd rfl (by first | exact Or.inl rfl | exact Or.inr rfl) (pe_op op_subI (pe_op op_modI (pe_ix (kx_seq (K := K) rfl) (pv 0) pe_int (fun _ _ => rfl)) pe_int) pe_int))
    (pss_cons (ps_if (pt_cmpR (ok_eqA (K := K) rfl hu) (pe_op op_modI (pe_op op_divI (pe_ix (kx_seq (K := K) rfl) (pv 0) pe_int (fun _ _ => rfl)) pe_int) pe_int) pe_int (nomark _)) (pss_one (ps_set (i := 6) nd rfl (by first | exact Or.inl rfl | exact Or.inr rfl) (pe_ix (kx_seq (K := K) rfl) (pe_lst (pa_cons (pe_un un_neg pe_int) (pa_cons pe_int (pa_cons pe_int (pa_cons pe_int (pa_cons pe_int (pa_cons (pe_un un_neg pe_int) (pa_cons (pe_un un_neg pe_int) (pa_cons (pe_un un_neg pe_int) (pa_cons (pe_un un_neg pe_int) (pa_cons pe_int pa_nil))))))))))) (pe_op op_modI (pe_op op_divI (pe_ix (kx_seq (K := K) rfl) (pv 0) pe_int (fun _ _ => rfl)) pe_int) pe_int) (fun _ _ => rfl)))) pss_nil)
    (pss_one (ps_ret (pe_tup (pa_cons pe_str (pa_cons (pe_op (ok_addA (K := K) rfl) (pv 6) (pe_callTy call_intA rfl T.b_int bb_int (pa_cons (pe_cmpR op_geI (pv 6) pe_int (nomark _)) pa_nil))) (pa_cons (pe_op op_modI (pe_ix (kx_seq (K := K) rfl) (pv 0) pe_int (fun _ _ => rfl)) pe_int) (pa_cons (pv 4) pa_nil))))))))))))))), ?_⟩
  clear hr hu hu1 hu66 nd F c__law_weekdays
  rintro ds d ⟨c0, c1, c2, far, most, hp, rfl, rfl⟩
  show WpD _ _ _ [.dat (.list [.int c0, .int c1, .int c2]), .dat (.int far), .dat (.int most), .no, .no, .no, .no] _
  k_offL
  all_goals simp [plainBy, monthDay, *]
end
section

theorem ok__law_free_by {P : Program} {w : World} {K : PySem.W.Frag} {mg : Str → Option Value} {base : Heap} {a_MONTHS a_BEARING C_HourError C_NoRule C_NoName C_Taken C_Stranger C_Twice C_NoTime C_NoMeeting C_Clash C_Book : Addr} (T : Txt K mg a_MONTHS a_BEARING C_HourError C_NoRule C_NoName C_Taken C_Stranger C_Twice C_NoTime C_NoMeeting C_Clash C_Book)
    (c__law_plain_by : FnB P w K mg base CX0 2 "_law_plain_by" ["_law_cells", "_law_far_here", "_law_most"] (spV K R__law_plain_by))
    (c__law_weekdays : FnB P w K mg base CX0 1 "_law_weekdays" ["_law_bits"] (spV K R__law_weekdays)) :
    FnB P w K mg base CX0 3 "_law_free_by" ["_law_cells", "_law_far_here"] (spV K R__law_free_by) := by
  refine T.t__law_free_by.ok (fun _ _ _ _ _ _ us hl => match us, hl with | [_, _], _ => rfl) fun f fd F => fn_ok F sc__law_free_by (by rintro ds d ⟨c0, c1, c2, far, hp, rfl, rfl⟩; rfl) fun cdv A outer s H E hr => ?_
  have hu66 := room66 hr
  have hu := hr.units
  have hu1 := Nat.lt_of_le_of_lt (Nat.add_le_add_left (show 1 ≤ 64 by decide) _) hu
  have nd := sc__law_free_by.nd
  refine ⟨_, (pss_cons (ps_set (i := 2) nd rfl (by first | exact Or.inl rfl | exact Or.inr rfl) (pe_op op_modI (pe_ix (kx_seq (K := K) rfl) (pv 0) pe_int (fun _ _ => rfl)) pe_int))
    (pss_cons (ps_set (i := 3) nd rfl (by first | exact Or.inl rfl | exact Or.inr rfl) (pe_op (ok_addA (K := K) rfl) pe_int (pe_op op_modI (pe_op op_divI (pe_ix (kx_seq (K := K) rfl) (pv 0) pe_int (fun _ _ => rfl)) pe_int) pe_int)))
    (pss_cons (ps_if (pt_cmpR (ok_eqA (K := K) rfl hu) (pe_op op_modI (pe_op op_divI (pe_ix (kx_seq (K := K) rfl) (pv 0) pe_int (fun _ _ => rfl)) pe_int) pe_int) pe_int (nomark _)) (pss_one (ps_ret (pe_tup (pa_cons pe_str (pa_cons (pe_op (ok_addA (K := K) rfl) (pv 1) (pe_op op_modI (pe_ix (kx_seq (K := K) rfl) (pv 0) pe_int (fun _ _ => rfl)) pe_int)) (pa_cons (pe_op (ok_addA (K := K) rfl) pe_int (pe_op op_modI (pe_op op_divI (pe_ix (kx_seq (K := K) rfl) (pv 0) pe_int (fun _ _ => rfl)) pe_int) pe_int)) (pa_cons (pe_op (ok_addA (K := K) rfl) pe_int (pe_op op_modI (pe_ix (kx_seq (K := K) rfl) (pv 0) pe_int (fun _ _ => rfl)) pe_int)) pa_nil))))))) pss_nil)
    (pss_cons (ps_if (pt_cmpR op_ltI (pv 2) pe_int (nomark _)) (pss_one (ps_ret (pe_tup (pa_cons pe_str (pa_cons (pe_op (ok_addA (K := K) rfl) (pv 1) (pe_op op_modI (pe_ix (kx_seq (K := K) rfl) (pv 0) pe_int (fun _ _ => rfl)) pe_int)) (pa_cons (pv 3) (pa_cons (pe_op (ok_addA (K := K) rfl) pe_int (pe_op op_modI (pe_ix (kx_seq (K := K) rfl) (pv 0) pe_int (fun _ _ => rfl)) pe_int)) pa_nil))))))) pss_nil)
    (pss_cons (ps_if (pt_cmpR (ok_eqA (K := K) rfl hu) (pv 2) pe_int (nomark _)) (pss_one (ps_ret (pe_tup (pa_cons pe_str (pa_cons (pe_callF c__law_weekdays (hr.mono (by decide)) rfl pass0 (pa_cons (pe_op (ok_addA (K := K) rfl) pe_int (pe_op op_modI (pe_ix (kx_seq (K := K) rfl) (pv 0) pe_int (fun _ _ => rfl)) pe_int)) pa_nil)) (pa_cons (pe_op op_modI (pe_ix (kx_seq (K := K) rfl) (pv 0) pe_int (fun _ _ => rfl)) pe_int) (pa_cons (pe_op (ok_addA (K := K) rfl) (pv 3) pe_int) pa_nil))))))) pss_nil)
    (pss_one (ps_ret (pe_callF c__law_plain_by (hr.mono (by decide)) rfl pass0 (pa_cons (pv 0) (pa_cons (pv 1) (pa_cons pe_int pa_nil))))))))))), ?_⟩
  clear hr hu hu1 hu66 nd F c__law_plain_by c__law_weekdays
  rintro ds d ⟨c0, c1, c2, far, hp, rfl, rfl⟩
  show WpD _ _ _ [.dat (.list [.int c0, .int c1, .int c2]), .dat (.int far), .no, .no] _
  k_offL
  all_goals (unfold freeBy; first | (simp_all; done) | rw [if_neg (by assumption), if_neg (by omega), if_neg (by assumption)])
end
section

theorem ok__law_head_by {P : Program} {w : World} {K : PySem.W.Frag} {mg : Str → Option Value} {base : Heap} {a_MONTHS a_BEARING C_HourError C_NoRule C_NoName C_Taken C_Stranger C_Twice C_NoTime C_NoMeeting C_Clash C_Book : Addr} (T : Txt K mg a_MONTHS a_BEARING C_HourError C_NoRule C_NoName C_Taken C_Stranger C_Twice C_NoTime C_NoMeeting C_Clash C_Book) :
    FnB P w K mg base CX0 1 "_law_head_by" ["_law_cell", "_law_far_here", "_law_rule"] (spV K R__law_head_by) := by
  refine T.t__law_head_by.ok (fun _ _ _ _ _ _ us hl => match us, hl with | [_, _, _], _ => rfl) fun f fd F => fn_ok F sc__law_head_by (by rintro ds d ⟨c, far, r, hp, rfl, rfl⟩; rfl) fun cdv A outer s H E hr => ?_
  have hu66 := room66 hr
  have hu := hr.units
  have hu1 := Nat.lt_of_le_of_lt (Nat.add_le_add_left (show 1 ≤ 64 by decide) _) hu
  have nd := sc__law_head_by.nd
  refine ⟨_, (pss_cons (ps_set (i := 3) nd rfl (by first | exact Or.inl rfl | exact Or.inr rfl) (pe_ix (kx_seq (K := K) rfl) (pe_lst (pa_cons pe_str (pa_cons pe_str (pa_cons pe_str (pa_cons pe_str pa_nil))))) (pe_op op_modI (pv 0) pe_int) (fun _ _ => rfl)))
    (pss_cons (ps_set (i := 4) nd rfl (by first | exact Or.inl rfl | exact Or.inr rfl) (pe_op (ok_addA (K := K) rfl) (pv 1) (pe_op op_modI (pe_op op_divI (pv 0) pe_int) pe_int)))
    (pss_cons (ps_if (pt_cmpR (ok_neA (K := K) rfl hu) (pv 3) pe_str (nomark _)) (pss_one (ps_ret (pe_tup (pa_cons (pv 3) (pa_cons (pv 4) (pa_cons (pv 2) pa_nil)))))) pss_nil)
    (pss_cons (ps_set (i := 5) nd rfl (by first | exact Or.inl rfl | exact Or.inr rfl) (pe_ix (kx_seq (K := K) rfl) (pe_lst (pa_cons pe_int (pa_cons pe_int (pa_cons pe_int (pa_cons pe_int pa_nil))))) (pe_op op_modI (pe_op op_divI (pv 0) pe_int) pe_int) (fun _ _ => rfl)))
    (pss_one (ps_ret (pe_tup (pa_cons (pv 3) (pa_cons (pe_callTy (kc_tup (K := K) rfl) rfl T.b_tuple bb_tuple (pa_cons (pe_lc (own := [("_law_k", 6)]) rfl nd (pi_range1 rfl T.b_range (pa_cons (pv 5) pa_nil)) (blkOk_by (N := ["_law_cell", "_law_far_here", "_law_rule", "_law_word", "_law_hour", "_law_many", "_law_k"]) (sc := defScope s__law_head_by) (by decide +kernel)) (fun _ _ _ _ _ => (pg_name (i := 6) nd rfl (by first | exact Or.inl rfl | exact Or.inr rfl))) (fun _ _ _ _ _ => pts_nil) (fun _ _ _ _ _ => (pe_op (ok_addA (K := K) rfl) (pe_op op_divI (pv 4) pe_int) (pe_op op_mulI (pv 6) (pe_op (ok_addA (K := K) rfl) pe_int (pe_op op_modI (pe_op op_divI (pv 0) pe_int) pe_int)))))) pa_nil)) (pa_cons (pv 2) pa_nil)))))))))), ?_⟩
  clear hr hu hu1 hu66 nd F
  rintro ds d ⟨c, far, r, hp, rfl, rfl⟩
  show WpD _ _ _ [.dat (.int c), .dat (.int far), .dat (toD r), .no, .no, .no, .no] _
  have hb : ∀ i : Nat, i < 4 → 1 ≤ ([1, 2, 5, 20] : List Int).getD i 0 ∧ ([1, 2, 5, 20] : List Int).getD i 0 ≤ 20 := by decide
  have hb := hb (c / 280 % 4).toNat (by omega)
  have h4 : c % 4 = 0 ∨ c % 4 = 1 ∨ c % 4 = 2 ∨ c % 4 = 3 := by omega
  rcases h4 with h | h | h | h
  · refine wp_seq (wp_asg (d := .str "from") (c_ixLs (i := 0) (w_lst (ea_cons ev_str (ea_cons ev_str (ea_cons ev_str (ea_cons ev_str ea_nil)))) ⟨by decide⟩).ev (ev_to (w_mod (ev_var rfl) ev_int ⟨by decide⟩) (by rw [h])) ⟨rfl⟩) ?_)
    have e : headBy c far r = .fr (far + c / 4 % 70) r := by unfold headBy; simp [h]
    rw [e]
    k_offL
  · refine wp_seq (wp_asg (d := .str "until") (c_ixLs (i := 1) (w_lst (ea_cons ev_str (ea_cons ev_str (ea_cons ev_str (ea_cons ev_str ea_nil)))) ⟨by decide⟩).ev (ev_to (w_mod (ev_var rfl) ev_int ⟨by decide⟩) (by rw [h])) ⟨rfl⟩) ?_)
    have e : headBy c far r = .un (far + c / 4 % 70) r := by unfold headBy; simp [h]
    rw [e]
    k_offL
  · refine wp_seq (wp_asg (d := .str "also") (c_ixLs (i := 2) (w_lst (ea_cons ev_str (ea_cons ev_str (ea_cons ev_str (ea_cons ev_str ea_nil)))) ⟨by decide⟩).ev (ev_to (w_mod (ev_var rfl) ev_int ⟨by decide⟩) (by rw [h])) ⟨rfl⟩) ?_)
    have e : headBy c far r = .al (far + c / 4 % 70) r := by unfold headBy; simp [h]
    rw [e]
    k_offL
  · refine wp_seq (wp_asg (d := .str "but") (c_ixLs (i := 3) (w_lst (ea_cons ev_str (ea_cons ev_str (ea_cons ev_str (ea_cons ev_str ea_nil)))) ⟨by decide⟩).ev (ev_to (w_mod (ev_var rfl) ev_int ⟨by decide⟩) (by rw [h])) ⟨rfl⟩) ?_)
    have e : headBy c far r = .bu ((List.range (([1, 2, 5, 20] : List Int).getD (c / 280 % 4).toNat 0).toNat).map fun k : Nat => (far + c / 4 % 70) / 24 + (0 + (k : Int)) * (1 + c / 1120 % 3)) r := by unfold headBy; simp [h]
    rw [e]
    k_offL
    simp only [toD, List.map_map]; rfl
end
section

theorem ok__law_name_by {P : Program} {w : World} {K : PySem.W.Frag} {mg : Str → Option Value} {base : Heap} {a_MONTHS a_BEARING C_HourError C_NoRule C_NoName C_Taken C_Stranger C_Twice C_NoTime C_NoMeeting C_Clash C_Book : Addr} (T : Txt K mg a_MONTHS a_BEARING C_HourError C_NoRule C_NoName C_Taken C_Stranger C_Twice C_NoTime C_NoMeeting C_Clash C_Book) :
    FnB P w K mg base CX0 1 "_law_name_by" ["_law_shape", "_law_cell", "_law_k"] (spV K R__law_name_by) := by
  refine T.t__law_name_by.ok (fun _ _ _ _ _ _ us hl => match us, hl with | [_, _, _], _ => rfl) fun f fd F => fn_ok F sc__law_name_by (by rintro ds d ⟨sh, c, k, hp, rfl, rfl⟩; rfl) fun cdv A outer s H E hr => ?_
  have hu66 := room66 hr
  have hu := hr.units
  have hu1 := Nat.lt_of_le_of_lt (Nat.add_le_add_left (show 1 ≤ 64 by decide) _) hu
  have nd := sc__law_name_by.nd
  refine ⟨_, (pss_cons (ps_set (i := 3) nd rfl (by first | exact Or.inl rfl | exact Or.inr rfl) pe_str)
    (pss_cons (ps_set (i := 4) nd rfl (by first | exact Or.inl rfl | exact Or.inr rfl) (pe_op op_modI (pe_op op_divI (pv 0) pe_int) pe_int))
    (pss_cons (ps_if (pt_cmpR (ok_eqA (K := K) rfl hu) (pe_op op_modI (pv 0) pe_int) pe_int (nomark _)) (pss_one (ps_set (i := 1) nd rfl (by first | exact Or.inl rfl | exact Or.inr rfl) (pe_op op_divI (pv 0) pe_int))) pss_nil)
    (pss_cons (ps_set (i := 5) nd rfl (by first | exact Or.inl rfl | exact Or.inr rfl) pe_str)
    (pss_cons (ps_if (pt_cmpR (ok_eqA (K := K) rfl hu) (pe_op op_modI (pv 0) pe_int) pe_int (nomark _)) (pss_cons (ps_for PassesOwn.never rfl (pi_range1 rfl T.b_range (pa_cons (pe_op (ok_addA (K := K) rfl) (pv 2) pe_int) pa_nil)) (pg_name (i := 6) nd rfl (by first | exact Or.inl rfl | exact Or.inr rfl)) (pss_one (ps_set (i := 5) nd rfl (by first | exact Or.inl rfl | exact Or.inr rfl) (pe_op (ok_addA (K := K) rfl) (pv 5) (pe_ix (kx_seq (K := K) rfl) (pv 3) (pe_op op_modI (pe_op (ok_addA (K := K) rfl) (pe_op op_divI (pv 0) pe_int) (pe_op op_mulI (pv 6) (pe_op (ok_addA (K := K) rfl) pe_int (pe_op op_modI (pe_op op_divI (pv 0) pe_int) pe_int)))) pe_int) (fun _ _ => rfl))))))
    (pss_one (ps_ret (pv 5)))) pss_nil)
    (pss_cons (ps_for PassesOwn.never rfl (pi_range1 rfl T.b_range (pa_cons (pe_op (ok_addA (K := K) rfl) (pe_op (ok_addA (K := K) rfl) (pv 4) pe_int) (pe_op op_modI (pe_op op_divI (pv 1) pe_int) (pe_op op_subI pe_int (pv 4)))) pa_nil)) (pg_name (i := 6) nd rfl (by first | exact Or.inl rfl | exact Or.inr rfl)) (pss_one (ps_if (pt_cmpR (ok_eqA (K := K) rfl hu) (pv 6) (pv 4) (nomark _)) (pss_one (ps_set (i := 5) nd rfl (by first | exact Or.inl rfl | exact Or.inr rfl) (pe_op (ok_addA (K := K) rfl) (pv 5) (pe_ix (kx_seq (K := K) rfl) (pv 3) (pe_op (ok_addA (K := K) rfl) (pe_op op_mulI (pe_op op_modI (pe_op op_divI (pv 0) pe_int) pe_int) pe_int) (pv 2)) (fun _ _ => rfl))))) (pss_one (ps_set (i := 5) nd rfl (by first | exact Or.inl rfl | exact Or.inr rfl) (pe_op (ok_addA (K := K) rfl) (pv 5) (pe_ix (kx_seq (K := K) rfl) (pv 3) (pe_op op_modI (pe_op (ok_addA (K := K) rfl) (pe_op op_divI (pv 1) pe_int) (pe_op op_mulI (pv 6) (pe_op (ok_addA (K := K) rfl) pe_int (pe_op op_modI (pv 1) pe_int)))) pe_int) (fun _ _ => rfl))))))))
    (pss_one (ps_ret (pv 5))))))))), ?_⟩
  clear hr hu hu1 hu66 nd F
  rintro ds d ⟨sh, c, k, hp, rfl, rfl⟩
  show WpD _ _ _ [.dat (.int sh), .dat (.int c), .dat (.int k), .no, .no, .no, .no] _
  obtain ⟨h1, h2⟩ := hp
  refine wp_seq (wp_asg (d := .str "abcdefghijklmnopqrstuvwxyz") (by k_clsL) ?_)
  dsimp only [List.set_cons_succ, List.set_cons_zero]
  refine wp_seq (wp_asg (d := .int (sh / 2 % 12)) (by k_clsL) ?_)
  dsimp only [List.set_cons_succ, List.set_cons_zero]
  refine wp_seq (wp_cut (fun Γ' => Γ' = [.dat (.int sh), .dat (.int (nmC sh c)), .dat (.int k), .dat (.str "abcdefghijklmnopqrstuvwxyz"), .dat (.int (sh / 2 % 12)), .no, .no]) ?_ ?_)
  · refine wp_if (b := decide (sh % 2 = 1)) (by k_clsL) (fun h => ?_) fun h => wp_next ?_
    · refine wp_asg (d := .int (sh / 48)) (by k_clsL) ?_
      rw [show nmC sh c = sh / 48 by unfold nmC; rw [if_pos (of_decide_eq_true h)]]; rfl
    · rw [show nmC sh c = c by unfold nmC; rw [if_neg (of_decide_eq_false h)]]
  rintro _ rfl
  dsimp only
  refine wp_seq (wp_asg (d := .str (nmS (nmA sh) 0)) (ev_to (by k_clsL) (by rfl)) ?_)
  dsimp only [List.set_cons_succ, List.set_cons_zero]
  have hL : ("abcdefghijklmnopqrstuvwxyz" : Str).length ≤ 100000 := by decide +kernel
  refine wp_seq (wp_if (b := decide (sh % 6 = 4)) (by k_clsL) (fun h => ?_) fun h => wp_next ?_)
  · have e : nameOf sh c k = nmS (nmA sh) (k + 1).toNat := by unfold nameOf; rw [if_pos (of_decide_eq_true h)]
    rw [e]
    refine wp_seq (wp_forn (xs := (List.range (k + 1).toNat).map fun t : Nat => .int (0 + (t : Int))) (fun i Γ' => ∃ e6, Γ' = [.dat (.int sh), .dat (.int (nmC sh c)), .dat (.int k), .dat (.str "abcdefghijklmnopqrstuvwxyz"), .dat (.int (sh / 2 % 12)), .dat (.str (nmS (nmA sh) i)), e6]) (w_rng1 ?_ ⟨by omega⟩ ⟨by omega⟩) ⟨_, rfl⟩ ?_ ?_)
    · k_clsL
    · rintro i x _ hx ⟨e6, rfl⟩
      have hi := (List.getElem?_eq_some_iff.mp hx).1
      rw [List.length_map, List.length_range] at hi
      rw [List.getElem?_map, List.getElem?_range hi] at hx
      obtain rfl := Option.some.inj hx
      dsimp only [List.set_cons_succ, List.set_cons_zero]
      refine wp_asg (d := .str (nmS (nmA sh) (i + 1))) (ev_to (ev_op (ev_var rfl) (y := .str ⟨#[letN (nmA sh i)]⟩) (ev_op (ev_var rfl) (y := .int (nmA sh i)) (by unfold nmA; k_clsL) (oq_ix_str ⟨hL⟩ ⟨letN_at (nmA_in sh i).1 (nmA_in sh i).2⟩)) (oq_add_str ⟨by rw [nmS_len]; show _ + 1 ≤ _; omega⟩)) (by rw [nmS_succ])) ⟨_, rfl⟩
    rintro _ ⟨e6, rfl⟩
    rw [List.length_map, List.length_range]
    dsimp only
    exact wp_ret (ev_var rfl) rfl
  dsimp only
  have e : nameOf sh c k = nmS (nmB sh (nmC sh c) k) (sh / 2 % 12 + 1 + nmC sh c / 24 % (12 - sh / 2 % 12)).toNat := by unfold nameOf; rw [if_neg (of_decide_eq_false h)]
  rw [e]
  have hn := nlen sh (nmC sh c)
  generalize nmC sh c = c at *
  refine wp_seq (wp_forn (xs := (List.range (sh / 2 % 12 + 1 + c / 24 % (12 - sh / 2 % 12)).toNat).map fun t : Nat => .int (0 + (t : Int))) (fun i Γ' => ∃ e6, Γ' = [.dat (.int sh), .dat (.int c), .dat (.int k), .dat (.str "abcdefghijklmnopqrstuvwxyz"), .dat (.int (sh / 2 % 12)), .dat (.str (nmS (nmB sh c k) i)), e6]) (w_rng1 ?_ ⟨by omega⟩ ⟨by omega⟩) ⟨_, rfl⟩ ?_ ?_)
  · k_clsL
  · rintro i x _ hx ⟨e6, rfl⟩
    have hi := (List.getElem?_eq_some_iff.mp hx).1
    rw [List.length_map, List.length_range] at hi
    rw [List.getElem?_map, List.getElem?_range hi] at hx
    obtain rfl := Option.some.inj hx
    have hb := nmB_in sh c (k := k) i h1 (by omega)
    dsimp only [List.set_cons_succ, List.set_cons_zero]
    refine wp_if (b := decide ((0 + (i : Int)) = sh / 2 % 12)) (by k_clsL) (fun h => ?_) fun h => ?_
    · have e2 : nmB sh c k i = sh / 24 % 2 * 13 + k := by unfold nmB; rw [if_pos (of_decide_eq_true h)]
      refine wp_asg (d := .str (nmS (nmB sh c k) (i + 1))) (ev_to (ev_op (ev_var rfl) (y := .str ⟨#[letN (nmB sh c k i)]⟩) (ev_op (ev_var rfl) (y := .int (nmB sh c k i)) (by rw [e2]; k_clsL) (oq_ix_str ⟨hL⟩ ⟨letN_at hb.1 hb.2⟩)) (oq_add_str ⟨by rw [nmS_len]; show _ + 1 ≤ _; omega⟩)) (by rw [nmS_succ])) ⟨_, rfl⟩
    · have e2 : nmB sh c k i = (c / 288 + (0 + (i : Int)) * (1 + c % 5)) % 26 := by unfold nmB; rw [if_neg (of_decide_eq_false h)]
      refine wp_asg (d := .str (nmS (nmB sh c k) (i + 1))) (ev_to (ev_op (ev_var rfl) (y := .str ⟨#[letN (nmB sh c k i)]⟩) (ev_op (ev_var rfl) (y := .int (nmB sh c k i)) (by rw [e2]; k_clsL) (oq_ix_str ⟨hL⟩ ⟨letN_at hb.1 hb.2⟩)) (oq_add_str ⟨by rw [nmS_len]; show _ + 1 ≤ _; omega⟩)) (by rw [nmS_succ])) ⟨_, rfl⟩
  rintro _ ⟨e6, rfl⟩
  rw [List.length_map, List.length_range]
  dsimp only
  exact wp_ret (ev_var rfl) rfl
end
section

theorem ok__law_people_by {P : Program} {w : World} {K : PySem.W.Frag} {mg : Str → Option Value} {base : Heap} {a_MONTHS a_BEARING C_HourError C_NoRule C_NoName C_Taken C_Stranger C_Twice C_NoTime C_NoMeeting C_Clash C_Book : Addr} (T : Txt K mg a_MONTHS a_BEARING C_HourError C_NoRule C_NoName C_Taken C_Stranger C_Twice C_NoTime C_NoMeeting C_Clash C_Book)
    (c__law_cell_at : FnB P w K mg base CX0 1 "_law_cell_at" ["_law_script", "_law_k"] (spV K R__law_cell_at))
    (c__law_free_by : FnB P w K mg base CX0 3 "_law_free_by" ["_law_cells", "_law_far_here"] (spV K R__law_free_by))
    (c__law_head_by : FnB P w K mg base CX0 1 "_law_head_by" ["_law_cell", "_law_far_here", "_law_rule"] (spV K R__law_head_by))
    (c__law_plain_by : FnB P w K mg base CX0 2 "_law_plain_by" ["_law_cells", "_law_far_here", "_law_most"] (spV K R__law_plain_by))
    (c__law_name_by : FnB P w K mg base CX0 1 "_law_name_by" ["_law_shape", "_law_cell", "_law_k"] (spV K R__law_name_by)) :
    FnB P w K mg base CX0 4 "_law_people_by" ["_law_script", "_law_at", "_law_many", "_law_far_here"] (spW (uw K) R__law_people_by) := by
  refine T.t__law_people_by.ok (fun _ _ _ _ _ _ us hl => match us, hl with | [_, _, _, _], _ => rfl) fun f fd F => fn_okW F sc__law_people_by (by rintro es s0 O ⟨s, ns, at0, many, far, hp, rfl, rfl, rfl⟩; rfl) fun cdv A outer s H E hr => ?_
  have hu66 := room66 hr
  have hu := hr.units
  have hu1 := Nat.lt_of_le_of_lt (Nat.add_le_add_left (show 1 ≤ 64 by decide) _) hu
  have nd := sc__law_people_by.nd
  refine ⟨_, (pss_cons (ps_set (i := 4) nd rfl (by first | exact Or.inl rfl | exact Or.inr rfl) (pe_lst pa_nil))
    (pss_cons (ps_set (i := 5) nd rfl (by first | exact Or.inl rfl | exact Or.inr rfl) (pe_op op_divI (pe_callF c__law_cell_at (hr.mono (by decide)) rfl pass0 (pa_cons (pv 0) (pa_cons (pe_op (ok_addA (K := K) rfl) (pv 1) pe_int) pa_nil))) pe_int))
    (pss_cons (ps_for PassesOwn.never rfl (pi_range1 rfl T.b_range (pa_cons (pv 2) pa_nil)) (pg_name (i := 6) nd rfl (by first | exact Or.inl rfl | exact Or.inr rfl)) (pss_cons (ps_setLc (i := 7) (own := [("_law_j", 10)]) rfl nd rfl rfl (sw_true rfl rfl rfl (by decide +kernel)) (pi_range1 rfl T.b_range (pa_cons pe_int pa_nil)) (blkOk_by (N := ["_law_script", "_law_at", "_law_many", "_law_far_here", "_law_people", "_law_shape", "_law_k", "_law_cells", "_law_free", "_law_taken_here", "_law_j"]) (sc := defScope s__law_people_by) (by decide +kernel)) (fun _ _ _ _ _ => (pg_name (i := 10) nd rfl (by first | exact Or.inl rfl | exact Or.inr rfl))) (fun _ _ _ _ _ => pts_nil) (fun _ _ _ _ _ => (pe_callF c__law_cell_at (hr.mono (by decide)) rfl pass0 (pa_cons (pv 0) (pa_cons (pe_op (ok_addA (K := K) rfl) (pe_op (ok_addA (K := K) rfl) (pv 1) (pe_op op_mulI pe_int (pv 6))) (pv 10)) pa_nil)))))
    (pss_cons (ps_set (i := 8) nd rfl (by first | exact Or.inl rfl | exact Or.inr rfl) (pe_lst (pa_cons (pe_callF c__law_free_by (hr.mono (by decide)) rfl pass0 (pa_cons (pe_slice (kl_any (K := K) rfl) (pv 7) (po_some pe_int) (po_some pe_int)) (pa_cons (pv 3) pa_nil))) pa_nil)))
    (pss_cons (ps_if (pt_cmpR (ok_eqA (K := K) rfl hu) (pe_op op_modI (pe_ix (kx_seq (K := K) rfl) (pv 7) pe_int (fun _ _ => rfl)) pe_int) pe_int (nomark _)) (pss_one (ps_expr (kpe_app (K := K) rfl (pv 8) (pe_callF c__law_plain_by (hr.mono (by decide)) rfl pass0 (pa_cons (pe_slice (kl_any (K := K) rfl) (pv 7) (po_some pe_int) (po_some pe_int)) (pa_cons (pv 3) (pa_cons pe_int pa_nil))))))) pss_nil)
    (pss_cons (ps_if (pt_cmpR (ok_eqA (K := K) rfl hu) (pe_op op_modI (pe_op op_divI (pe_ix (kx_seq (K := K) rfl) (pv 7) pe_int (fun _ _ => rfl)) pe_int) pe_int) pe_int (nomark _)) (pss_one (ps_asg (pe_callF c__law_head_by (hr.mono (by decide)) rfl pass0 (pa_cons (pe_ix (kx_seq (K := K) rfl) (pv 7) pe_int (fun _ _ => rfl)) (pa_cons (pv 3) (pa_cons (pe_ix (kx_seq (K := K) rfl) (pv 8) pe_int (fun _ _ => rfl)) pa_nil)))) (pg_sub (pv 8) pe_int set_list))) pss_nil)
    (pss_cons (ps_set (i := 9) nd rfl (by first | exact Or.inl rfl | exact Or.inr rfl) (pe_lst pa_nil))
    (pss_cons (ps_if (pt_cmpR op_gtI (pe_op op_modI (pe_op op_divI (pe_ix (kx_seq (K := K) rfl) (pv 7) pe_int (fun _ _ => rfl)) pe_int) pe_int) pe_int (nomark _)) (pss_one (ps_expr (kpe_app (K := K) rfl (pv 9) (pe_callF c__law_plain_by (hr.mono (by decide)) rfl pass0 (pa_cons (pe_slice (kl_any (K := K) rfl) (pv 7) (po_some pe_int) (po_some pe_int)) (pa_cons (pv 3) (pa_cons (pe_ix (kx_seq (K := K) rfl) (pe_lst (pa_cons pe_int (pa_cons pe_int pa_nil))) (pe_callTy call_intA rfl T.b_int bb_int (pa_cons (pe_cmpR (ok_eqA (K := K) rfl hu) (pe_op op_modI (pe_op op_divI (pe_ix (kx_seq (K := K) rfl) (pv 7) pe_int (fun _ _ => rfl)) pe_int) pe_int) pe_int (nomark _)) pa_nil)) (fun _ _ => rfl)) pa_nil))))))) pss_nil)
    (pss_cons (ps_if (pt_cmpR (ok_eqA (K := K) rfl hu) (pe_op op_modI (pe_op op_divI (pe_ix (kx_seq (K := K) rfl) (pv 7) pe_int (fun _ _ => rfl)) pe_int) pe_int) pe_int (nomark _)) (pss_one (ps_expr (kpe_app (K := K) rfl (pv 9) (pe_callF c__law_head_by (hr.mono (by decide)) rfl pass0 (pa_cons (pe_ix (kx_seq (K := K) rfl) (pv 7) pe_int (fun _ _ => rfl)) (pa_cons (pv 3) (pa_cons (pe_callF c__law_plain_by (hr.mono (by decide)) rfl pass0 (pa_cons (pe_slice (kl_any (K := K) rfl) (pv 7) (po_some pe_int) (po_some pe_int)) (pa_cons (pv 3) (pa_cons pe_int pa_nil)))) pa_nil))))))) pss_nil)
    (pss_cons (ps_if (pt_cmpR (ok_eqA (K := K) rfl hu) (pe_op op_modI (pe_op op_divI (pe_ix (kx_seq (K := K) rfl) (pv 7) pe_int (fun _ _ => rfl)) pe_int) pe_int) pe_int (nomark _)) (pss_one (ps_set (i := 8) nd rfl (by first | exact Or.inl rfl | exact Or.inr rfl) (pe_lst pa_nil))) pss_nil)
    (pss_one (ps_expr (kpe_app (K := K) rfl (pv 4) (pe_lst (pa_cons (pe_callF c__law_name_by (hr.mono (by decide)) rfl pass0 (pa_cons (pv 5) (pa_cons (pe_op op_divI (pe_ix (kx_seq (K := K) rfl) (pv 7) pe_int (fun _ _ => rfl)) pe_int) (pa_cons (pv 6) pa_nil)))) (pa_cons (pv 8) (pa_cons (pv 9) (pa_cons (pe_lst pa_nil) pa_nil)))))))))))))))))
    (pss_one (ps_ret (pv 4)))))), ?_⟩
  clear hr hu hu1 hu66 nd F c__law_cell_at c__law_free_by c__law_head_by c__law_plain_by c__law_name_by
  rintro es s0 O ⟨s, ns, at0, many, far, hp, rfl, rfl, rfl⟩
  show WpW _ _ _ [.dat (.list (ns.map .int)), .dat (.int at0), .dat (.int many), .dat (.int far), .no, .no, .no, .no, .no, .no, .no] (s) _
  obtain ⟨hl, ⟨f1, f2⟩, m1, m2⟩ := hp
  refine ww_seq (ww_asg (N := fun e s2 => ∃ q, q ∉ s.foot ∧ e = .val (.ref q) ∧ s2 = s.add [(q, .lst [])] []) (ew_lstV (eaw_nil ⟨[], rfl, by decide, fun q hq => ⟨q, hq, rfl, rfl⟩⟩)) ?_)
  rintro _ _ ⟨q, hq, rfl, rfl⟩
  have hpe0 : PeAt (s.add [(q, .lst [])] []) q [] := ⟨List.mem_cons_self, (fun x h => by cases h), by simp [peAdr]⟩
  generalize (s.add [(q, .lst [])] []) = s1 at *
  dsimp only [List.set_cons_succ, List.set_cons_zero]
  refine ww_seq (ww_pure (wp_asg (d := .int (cw ns (at0 + 12) / 7)) (by k_clsL) ?_))
  dsimp only [List.set_cons_succ, List.set_cons_zero]
  generalize cw ns (at0 + 12) / 7 = sh
  refine ww_seq (ww_forn (xs := (List.range many.toNat).map fun k : Nat => .int (0 + (k : Int))) (fun i Γ' s' => ∃ (xs : List PRow) (e6 e7 e8 e9 : Ent), PeAt s' q xs ∧ xs.length = i ∧ (∃ cs : Nat → Int, xs.map PRow.name = (List.range i).map fun k : Nat => nameOf sh (cs k) (0 + (k : Int))) ∧ (∀ x ∈ xs, RowOk x ∧ x.fr.length ≤ 2 ∧ x.bz.length ≤ 2 ∧ x.mt = [] ∧ x.name ≠ "zz") ∧ Γ' = [.dat (.list (ns.map .int)), .dat (.int at0), .dat (.int many), .dat (.int far), .val (.ref q), .dat (.int sh), e6, e7, e8, e9, .no]) (w_rng1 ?_ ⟨by omega⟩ ⟨by omega⟩) ⟨[], _, _, _, _, hpe0, rfl, ⟨fun _ => 0, rfl⟩, (fun o h => by cases h), rfl⟩ ?_ ?_)
  · k_clsL
  · rintro i x _ s' hx ⟨xs, e6, e7, e8, e9, hpe, hlen, ⟨cs, hcs⟩, hok, rfl⟩
    have hi := (List.getElem?_eq_some_iff.mp hx).1
    rw [List.length_map, List.length_range] at hi
    rw [List.getElem?_map, List.getElem?_range hi] at hx
    obtain rfl := Option.some.inj hx
    dsimp only [List.set_cons_succ, List.set_cons_zero]
    obtain ⟨f, hf⟩ : ∃ f : Nat → Int, f = fun j : Nat => cw ns (at0 + 13 * (0 + (i : Int)) + (0 + (j : Int))) := ⟨_, rfl⟩
    refine ww_seq (ww_pure (wp_asg (d := .list [.int (f 0), .int (f 1), .int (f 2), .int (f 3), .int (f 4), .int (f 5), .int (f 6), .int (f 7), .int (f 8), .int (f 9), .int (f 10), .int (f 11), .int (f 12)]) (ev_to (EvF.ev (w_lcm (zs := List.range 13) (c := fun k : Nat => .int (0 + (k : Int))) (h := fun j : Nat => .int (f j)) (w_rng1 (n := 13) (ea_cons ev_int ea_nil) ⟨by decide⟩ ⟨by decide⟩) ⟨by decide⟩ ⟨by decide⟩ fun y hy => ?_)) (by rfl)) ?_))
    · rw [hf]
      k_clsL
    clear hf
    dsimp only [List.set_cons_succ, List.set_cons_zero]
    generalize f 0 = c0
    generalize f 1 = c1
    generalize f 2 = c2
    generalize f 3 = c3
    generalize f 4 = c4
    generalize f 5 = c5
    generalize f 6 = c6
    generalize f 7 = c7
    generalize f 8 = c8
    generalize f 9 = c9
    generalize f 10 = c10
    generalize f 11 = c11
    generalize f 12 = c12
    have gf := freeBy_good (c0 := c1) (c1 := c2) (c2 := c3) f1 f2
    generalize hCd : PyData.list [.int c0, .int c1, .int c2, .int c3, .int c4, .int c5, .int c6, .int c7, .int c8, .int c9, .int c10, .int c11, .int c12] = cd
    have sl : ∀ {s0 : US} {Γ : List Ent} {a b : Int} {ds : List PyData}, Γ[7]? = some (.dat cd) → cutD [.int c0, .int c1, .int c2, .int c3, .int c4, .int c5, .int c6, .int c7, .int c8, .int c9, .int c10, .int c11, .int c12] (some a) (some b) = ds → EvD ((uw K).g s0) (tSl (Pd.rSlA K) (tVar 7) (tPart (tC (.int a))) (tPart (tC (.int b)))) Γ (.list ds) := fun h1 h2 => by
      subst hCd
      exact ev_to (EvF.ev (ef_sl_list (ev_var h1) (eo_some ev_int) (eo_some ev_int))) (by rw [h2])
    have ix : ∀ {s0 : US} {Γ : List Ent} {a : Int} {d : PyData}, Γ[7]? = some (.dat cd) → atI [.int c0, .int c1, .int c2, .int c3, .int c4, .int c5, .int c6, .int c7, .int c8, .int c9, .int c10, .int c11, .int c12] a = some d → EvD ((uw K).g s0) (tOp (rIx K) (tVar 7) (tC (.int a))) Γ d := fun h1 h2 => by
      subst hCd
      exact ev_op (ev_var h1) ev_int (oq_ix_list ⟨h2⟩)
    have i0 : ∀ {s0 : US} {Γ : List Ent}, Γ[7]? = some (.dat cd) → EvD ((uw K).g s0) (tOp (rIx K) (tVar 7) (tC (.int 0))) Γ (.int c0) := fun h1 => ix h1 rfl
    refine ww_seq (ww_pure (wp_asg_own (ds := [toD (freeBy c1 c2 c3 far)]) (w_lst (ea_cons (v__law_free_by (ea_cons (sl rfl rfl) (ea_cons (ev_var rfl) ea_nil)) ⟨trivial⟩) ea_nil) ⟨show 1 ≤ 100000 by decide⟩) ?_))
    dsimp only [List.set_cons_succ, List.set_cons_zero]
    refine ww_seq (ww_pure (wp_cut (fun Γ' => ∃ fr : List Rule, (∀ r ∈ freeBy c1 c2 c3 far :: fr, GoodR r ∧ depth r = 0) ∧ fr.length ≤ 1 ∧ Γ' = [.dat (.list (ns.map .int)), .dat (.int at0), .dat (.int many), .dat (.int far), .val (.ref q), .dat (.int sh), .dat (.int (0 + (i : Int))), .dat cd, .own (toD (freeBy c1 c2 c3 far) :: fr.map toD), e9, .no]) ?_ ?_))
    · refine wp_if (b := decide (c0 % 3 = 1)) (et_test (ev_op (w_mod (i0 rfl) ev_int ⟨by decide⟩) ev_int od_eq_int)) (fun _ => ?_) fun _ => wp_next ⟨[], (fun r hr => by simp at hr; subst hr; exact gf), by simp, rfl⟩
      refine wp_app (i := 8) rfl (d := toD (plainBy c4 c5 c6 far 5)) (v__law_plain_by (ea_cons (sl rfl rfl) (ea_cons (ev_var rfl) (ea_cons ev_int ea_nil))) ⟨by decide⟩) (show 1 < 100000 by decide) ⟨[plainBy c4 c5 c6 far 5], (fun r hr => ?_), by simp, rfl⟩
      simp at hr
      rcases hr with rfl | rfl
      · exact gf
      · exact ⟨plainBy_good f1 f2 (by decide) (by decide), plainBy_depth _ _ _ _ _⟩
    rintro _ ⟨fr, hfr, hfl, rfl⟩
    dsimp only
    refine ww_seq (ww_pure (wp_cut (fun Γ' => ∃ fr : List Rule, (∀ r ∈ fr, GoodR r ∧ depth r ≤ 1) ∧ fr.length ≤ 2 ∧ Γ' = [.dat (.list (ns.map .int)), .dat (.int at0), .dat (.int many), .dat (.int far), .val (.ref q), .dat (.int sh), .dat (.int (0 + (i : Int))), .dat cd, .own (fr.map toD), e9, .no]) ?_ ?_))
    · refine wp_if (b := decide (c0 / 3 % 4 = 1)) (et_test (ev_op (w_mod (ev_op (i0 rfl) ev_int (oq_div ⟨by unfold CDiv; omega⟩)) ev_int ⟨by decide⟩) ev_int od_eq_int)) (fun _ => ?_) fun _ => wp_next ⟨freeBy c1 c2 c3 far :: fr, (fun r hr => ⟨(hfr r hr).1, by have := (hfr r hr).2; omega⟩), by simp; omega, rfl⟩
      refine wp_setL (i := 8) (j := 0) (k := 0) (d := toD (headBy c4 far (freeBy c1 c2 c3 far))) rfl (v__law_head_by (ea_cons (ix rfl rfl) (ea_cons (ev_var rfl) (ea_cons (ev_ownix ⟨rfl⟩ ev_int ⟨atI_zero⟩) ea_nil))) ⟨trivial⟩) ev_int (ixN_at (j := 0) (Nat.succ_pos _)) ⟨headBy c4 far (freeBy c1 c2 c3 far) :: fr, (fun r hr => ?_), by simp; omega, rfl⟩
      rcases List.mem_cons.mp hr with rfl | hr
      · exact ⟨headBy_good f1 f2 gf.1, by rw [(headBy_size _ _ _).2, gf.2]; decide⟩
      · exact ⟨(hfr r (List.mem_cons_of_mem _ hr)).1, by have := (hfr r (List.mem_cons_of_mem _ hr)).2; omega⟩
    clear hfr hfl fr
    rintro _ ⟨fr, hfr, hfl, rfl⟩
    dsimp only
    refine ww_seq (ww_pure (wp_asg_own (ds := ([] : List Rule).map toD) (w_lst (ds := []) ea_nil ⟨show 0 ≤ 100000 by decide⟩) ?_))
    dsimp only [List.set_cons_succ, List.set_cons_zero]
    have hM : ∀ b : Bool, 1 ≤ ([4, 48] : List Int).getD (if b = true then (1 : Int) else 0).toNat 0 ∧ ([4, 48] : List Int).getD (if b = true then (1 : Int) else 0).toNat 0 ≤ 48 := by decide
    refine ww_seq (ww_pure (wp_cut (fun Γ' => ∃ bz : List Rule, (∀ r ∈ bz, GoodR r ∧ depth r ≤ 1) ∧ bz.length ≤ 1 ∧ Γ' = [.dat (.list (ns.map .int)), .dat (.int at0), .dat (.int many), .dat (.int far), .val (.ref q), .dat (.int sh), .dat (.int (0 + (i : Int))), .dat cd, .own (fr.map toD), .own (bz.map toD), .no]) ?_ ?_))
    · refine wp_if (b := decide (0 < c0 / 12 % 3)) (et_test (ev_op (w_mod (ev_op (i0 rfl) ev_int (oq_div ⟨by unfold CDiv; omega⟩)) ev_int ⟨by decide⟩) ev_int od_gt)) (fun _ => ?_) fun _ => wp_next ⟨[], (fun r hr => by cases hr), by simp, rfl⟩
      have hm := hM (decide (c0 / 5 % 8 = 1))
      have hi2 : 0 ≤ (if decide (c0 / 5 % 8 = 1) = true then (1 : Int) else 0) ∧ (if decide (c0 / 5 % 8 = 1) = true then (1 : Int) else 0) < 2 := by split <;> omega
      refine wp_app (i := 9) rfl (d := toD (plainBy c7 c8 c9 far _)) (v__law_plain_by (ea_cons (sl rfl rfl) (ea_cons (ev_var rfl) (ea_cons (ev_op (ev_to (y := .list (([4, 48] : List Int).map .int)) (EvF.ev (w_lst (ea_cons ev_int (ea_cons ev_int ea_nil)) ⟨show 2 ≤ 100000 by decide⟩)) rfl) (ev_cb (ea_cons (ev_op (w_mod (ev_op (i0 rfl) ev_int (oq_div ⟨by unfold CDiv; omega⟩)) ev_int ⟨by decide⟩) ev_int od_eq_int) ea_nil) ca_int_bl) (oq_ix_ints ⟨hi2⟩)) ea_nil))) ⟨by omega⟩) (by decide) ⟨[plainBy c7 c8 c9 far (([4, 48] : List Int).getD (if decide (c0 / 5 % 8 = 1) = true then (1 : Int) else 0).toNat 0)], (fun r hr => ?_), by simp, rfl⟩
      simp only [List.mem_singleton] at hr
      subst hr
      exact ⟨plainBy_good f1 f2 hm.1 hm.2, by rw [plainBy_depth]; decide⟩
    rintro _ ⟨bz, hbz, hbl, rfl⟩
    dsimp only
    refine ww_seq (ww_pure (wp_cut (fun Γ' => ∃ bz : List Rule, (∀ r ∈ bz, GoodR r ∧ depth r ≤ 1) ∧ bz.length ≤ 2 ∧ Γ' = [.dat (.list (ns.map .int)), .dat (.int at0), .dat (.int many), .dat (.int far), .val (.ref q), .dat (.int sh), .dat (.int (0 + (i : Int))), .dat cd, .own (fr.map toD), .own (bz.map toD), .no]) ?_ ?_))
    · refine wp_if (b := decide (c0 / 12 % 3 = 2)) (et_test (ev_op (w_mod (ev_op (i0 rfl) ev_int (oq_div ⟨by unfold CDiv; omega⟩)) ev_int ⟨by decide⟩) ev_int od_eq_int)) (fun _ => ?_) fun _ => wp_next ⟨bz, hbz, by omega, rfl⟩
      refine wp_app (i := 9) rfl (d := toD (headBy c10 far (plainBy c10 c11 c12 far 3))) (v__law_head_by (ea_cons (ix rfl rfl) (ea_cons (ev_var rfl) (ea_cons (v__law_plain_by (ea_cons (sl rfl rfl) (ea_cons (ev_var rfl) (ea_cons ev_int ea_nil))) ⟨by decide⟩) ea_nil))) ⟨trivial⟩) (by rw [List.length_map]; omega) ⟨bz ++ [headBy c10 far (plainBy c10 c11 c12 far 3)], (fun r hr => ?_), by simp; omega, by rw [List.map_append]; rfl⟩
      rcases List.mem_append.mp hr with hr | hr
      · exact hbz r hr
      · simp at hr; subst hr
        exact ⟨headBy_good f1 f2 (plainBy_good f1 f2 (by decide) (by decide)), by rw [(headBy_size _ _ _).2, plainBy_depth]; decide⟩
    clear hbz hbl bz
    rintro _ ⟨bz, hbz, hbl, rfl⟩
    dsimp only
    refine ww_seq (ww_pure (wp_cut (fun Γ' => ∃ fr : List Rule, (∀ r ∈ fr, GoodR r ∧ depth r ≤ 1) ∧ fr.length ≤ 2 ∧ Γ' = [.dat (.list (ns.map .int)), .dat (.int at0), .dat (.int many), .dat (.int far), .val (.ref q), .dat (.int sh), .dat (.int (0 + (i : Int))), .dat cd, .own (fr.map toD), .own (bz.map toD), .no]) ?_ ?_))
    · refine wp_if (b := decide (c0 / 7 % 9 = 4)) (et_test (ev_op (w_mod (ev_op (i0 rfl) ev_int (oq_div ⟨by unfold CDiv; omega⟩)) ev_int ⟨by decide⟩) ev_int od_eq_int)) (fun _ => ?_) fun _ => wp_next ⟨fr, hfr, hfl, rfl⟩
      exact wp_asg_own (ds := ([] : List Rule).map toD) (w_lst (ds := []) ea_nil ⟨show 0 ≤ 100000 by decide⟩) ⟨[], (fun r hr => by cases hr), by simp, rfl⟩
    clear hfr hfl fr
    rintro _ ⟨fr, hfr, hfl, rfl⟩
    dsimp only

    refine ww_give (i := 8) rfl fun pf fv hpf => ?_
    dsimp only [List.set_cons_succ, List.set_cons_zero]
    refine ww_give (i := 9) rfl fun pt tv hpt => ?_
    dsimp only [List.set_cons_succ, List.set_cons_zero]
    have hn := nameOf_good sh (c0 / 36) (k := 0 + (i : Int)) (by omega) (by omega)
    have hzz := name_zz (sh := sh) (c := c0 / 36) (k := 0 + (i : Int)) (by omega) (by omega)
    refine ww_appV (ee_val rfl) (List.mem_cons_of_mem _ (List.mem_cons_of_mem _ hpe.li)) (by rw [refs_len]; omega) (ew_lstV (eaw_cons (ew_ee (ee_str (x := nameOf sh (c0 / 36) (0 + (i : Int))) (v__law_name_by (ea_cons (ev_var rfl) (ea_cons (ev_op (i0 rfl) ev_int (oq_div ⟨by unfold CDiv; omega⟩)) (ea_cons (ev_var rfl) ea_nil))) ⟨by omega, by omega⟩)) (eaw_cons (ew_ee (ee_val rfl) (eaw_cons (ew_ee (ee_val rfl) (eaw_cons ((ew_cell (ds := []) (w_lst (ds := []) ea_nil ⟨by decide⟩)).mono ?_)))))))))
    rintro _ _ ⟨m, mv, hm, rfl, rfl⟩
    refine eaw_nil ⟨[.str (nameOf sh (c0 / 36) (0 + (i : Int))), .ref pf, .ref pt, .ref m], rfl, (show 4 ≤ 100000 by decide), fun r hr => ⟨.ref r, rfl, ?_, ?_⟩⟩
    · exact List.mem_cons_of_mem _ (List.mem_cons_of_mem _ (List.mem_cons_of_mem _ (List.mem_cons_of_mem _ hpe.li)))
    obtain ⟨hpe2, _, _⟩ := hpe.row (n := nameOf sh (c0 / 36) (0 + (i : Int))) (fr := fr) (bz := bz) (mv := mv) hpf hpt hm hr
    refine ⟨_, _, _, _, _, hpe2, by rw [List.length_append, hlen]; rfl, ⟨fun k => if k < i then cs k else c0 / 36, ?_⟩, (fun o ho => ?_), rfl⟩
    · rw [List.map_append, hcs, List.range_succ, List.map_append]
      refine congr (congrArg _ ?_) ?_
      · exact List.map_congr_left fun k hk => by simp only [if_pos (List.mem_range.mp hk)]
      · simp
    · rcases List.mem_append.mp ho with ho | ho
      · exact hok o ho
      · rw [List.mem_singleton] at ho; subst ho
        exact ⟨⟨hn.1, hn.2, ⟨Nat.le_trans hfl (by decide), fun r hr => ⟨(hfr r hr).1, by have := (hfr r hr).2; omega⟩⟩, ⟨Nat.le_trans hbl (by decide), fun r hr => ⟨(hbz r hr).1, by have := (hbz r hr).2; omega⟩⟩⟩, hfl, hbl, rfl, hzz⟩
  rintro _ s' ⟨xs, e6, e7, e8, e9, hpe, hlen, ⟨cs, hcs⟩, hok, rfl⟩
  rw [List.length_map, List.length_range] at hlen hcs
  dsimp only
  refine ww_ret (ew_ee (ee_val (v := .ref q) rfl) (N := fun e s2 => e = .val (.ref q) ∧ s2 = s') ⟨rfl, rfl⟩) ?_
  rintro _ _ ⟨rfl, rfl⟩
  refine ⟨_, q, xs, rfl, hpe, hlen, ?_, hok, sh, cs, hcs⟩
  rw [hcs]
  show List.Pairwise _ _
  rw [List.pairwise_map]
  refine List.Pairwise.imp_of_mem ?_ (List.nodup_range (n := many.toNat))
  intro a b ha hb hne e
  have ha := List.mem_range.mp ha
  have hb := List.mem_range.mp hb
  have := nameOf_inj (by omega) (by omega) (by omega) (by omega) e
  omega
end
section

theorem ok_Book_init {P : Program} {w : World} {K : PySem.W.Frag} {mg : Str → Option Value} {base : Heap} {a_MONTHS a_BEARING C_HourError C_NoRule C_NoName C_Taken C_Stranger C_Twice C_NoTime C_NoMeeting C_Clash C_Book : Addr} (T : Txt K mg a_MONTHS a_BEARING C_HourError C_NoRule C_NoName C_Taken C_Stranger C_Twice C_NoTime C_NoMeeting C_Clash C_Book) :
    MkB P w K mg base CX0 1 C_Book "Book" ["self"] (spW (uw K) (R_Book_init C_Book)) := by
  refine T.t_Book_init.ok (fun _ _ _ _ _ _ us hl => match us, hl with | [_], _ => rfl) fun f fd F => fn_okW F sc_Book_init (by rintro es s0 O ⟨s, a, dx, hp, rfl, rfl, rfl⟩; rfl) fun cdv A outer s H E hr => ?_
  have hu66 := room66 hr
  have hu := hr.units
  have hu1 := Nat.lt_of_le_of_lt (Nat.add_le_add_left (show 1 ≤ 64 by decide) _) hu
  have nd := sc_Book_init.nd
  refine ⟨_, (pss_cons (kps_fld (K := K) rfl (pv 0) pe_dnewK)
    (pss_cons (kps_fld (K := K) rfl (pv 0) (pe_lst pa_nil))
    (pss_one (kps_fld (K := K) rfl (pv 0) pe_int)))), ?_⟩
  clear hr hu hu1 hu66 nd F
  rintro es s0 O ⟨s, a, dx, hp, rfl, rfl, rfl⟩
  show WpW _ _ _ [.val (.ref a)] (s) _
  refine ww_seq (ww_fldD (ee_val rfl) hp T.cl_Book T.na_known (by decide) (fun _ => ee_val rfl) fun p hpf => ?_)
  have ha := in_foot hp
  have nap : p ≠ a := fun e => hpf (e ▸ ha)
  dsimp only
  have k1 : Keeps s ((s.add [(p, .dK [])] []).put a (.ins C_Book dx (putF "known" (.ref p) [])) []) [a] := (add_keeps (own := [a])).trans put_keeps
  have c1 : (a, HO.ins C_Book dx (putF "known" (.ref p) [])) ∈ ((s.add [(p, .dK [])] []).put a (.ins C_Book dx (putF "known" (.ref p) [])) []).cells := put_mem (List.mem_append_right _ hp)
  have c1p : (p, HO.dK []) ∈ ((s.add [(p, .dK [])] []).put a (.ins C_Book dx (putF "known" (.ref p) [])) []).cells := put_keeps.cell _ (by simp [US.add]) (by simpa using nap)
  have f1 : ∀ x, x ∉ ((s.add [(p, .dK [])] []).put a (.ins C_Book dx (putF "known" (.ref p) [])) []).foot → x ∉ s.foot ∧ x ≠ p := fun x h => by
    rw [put_foot] at h
    simp [US.foot, US.add] at h
    exact ⟨fun z => by obtain ⟨c, hc, e⟩ := List.mem_map.mp z; exact h.2 c.2 (by rw [← e]; exact hc), h.1⟩
  generalize ((s.add [(p, .dK [])] []).put a (.ins C_Book dx (putF "known" (.ref p) [])) []) = s1 at *
  refine ww_seq (ww_fldL (by k_clsL) c1 T.cl_Book T.na_booked (Nat.lt_of_le_of_lt (length_putF _ _ _) (by decide)) (fun _ _ => ee_val rfl) fun q vs hqf => ?_)
  have ha1 := in_foot c1
  have naq : q ≠ a := fun e => hqf (e ▸ ha1)
  obtain ⟨hqs, nqp⟩ := f1 q hqf
  dsimp only
  have k2 : Keeps s1 ((s1.add [(q, .lst vs)] [(vs, [])]).put a (.ins C_Book dx (putF "booked" (.ref q) (putF "known" (.ref p) []))) []) [a] := (add_keeps (own := [a])).trans put_keeps
  have c2 : (a, HO.ins C_Book dx (putF "booked" (.ref q) (putF "known" (.ref p) []))) ∈ ((s1.add [(q, .lst vs)] [(vs, [])]).put a (.ins C_Book dx (putF "booked" (.ref q) (putF "known" (.ref p) []))) []).cells := put_mem (List.mem_append_right _ c1)
  have c2q : (q, HO.lst vs) ∈ ((s1.add [(q, .lst vs)] [(vs, [])]).put a (.ins C_Book dx (putF "booked" (.ref q) (putF "known" (.ref p) []))) []).cells := put_keeps.cell _ (by simp [US.add]) (by simpa using naq)
  have c2r : (vs, ([] : List PyData)) ∈ ((s1.add [(q, .lst vs)] [(vs, [])]).put a (.ins C_Book dx (putF "booked" (.ref q) (putF "known" (.ref p) []))) []).rel := put_keeps.rel _ (by simp [US.add])
  have c2p := k2.cell _ c1p (by simpa using nap)
  generalize ((s1.add [(q, .lst vs)] [(vs, [])]).put a (.ins C_Book dx (putF "booked" (.ref q) (putF "known" (.ref p) []))) []) = s2 at *
  refine ww_fld (ee_int ev_int) (ee_val rfl) c2 T.cl_Book T.na_given (Nat.lt_of_le_of_lt (Nat.le_trans (length_putF _ _ _) (Nat.succ_le_succ (length_putF _ _ _))) (by decide)) ?_
  have k3 : Keeps s2 (s2.put a (.ins C_Book dx (putF "given" (.int 0) (putF "booked" (.ref q) (putF "known" (.ref p) [])))) []) [a] := put_keeps
  have c3 : (a, HO.ins C_Book dx (putF "given" (.int 0) (putF "booked" (.ref q) (putF "known" (.ref p) [])))) ∈ (s2.put a (.ins C_Book dx (putF "given" (.int 0) (putF "booked" (.ref q) (putF "known" (.ref p) [])))) []).cells := put_mem c2
  have efs : putF "given" (.int 0) (putF "booked" (.ref q) (putF "known" (.ref p) [])) = (⟨a, dx, p, q, [], vs, [], 0⟩ : Bk).fs := by
    have n1 : ¬ (("known" : Str) = "booked") := by decide +kernel
    have n2 : ¬ (("known" : Str) = "given") := by decide +kernel
    have n3 : ¬ (("booked" : Str) = "given") := by decide +kernel
    simp [putF, Bk.fs, n1, n2, n3]
  rw [efs] at c3
  refine ⟨_, ⟨a, dx, p, q, [], vs, [], 0⟩, rfl, ⟨by rw [efs]; exact c3, k3.cell _ c2p (by simpa using nap), ⟨k3.cell _ c2q (by simpa using naq), k3.rel _ c2r⟩, (fun p hp => by cases hp), (fun p hp => by cases hp), (fun p hp => by cases hp), ?_, by simp, by simp, (fun p hp => by cases hp), (fun m hm => by cases hm)⟩, rfl, rfl, rfl, rfl, (k1.trans k2).trans k3, ?_⟩
  · simp [Bk.adr, Ne.symm nap, Ne.symm naq, Ne.symm nqp]
  · intro x hx
    simp [Bk.adr] at hx
    rcases hx with rfl | rfl | rfl
    · exact .inl rfl
    · exact .inr hpf
    · exact .inr hqs
end
section

theorem ok_is_name {P : Program} {w : World} {K : PySem.W.Frag} {mg : Str → Option Value} {base : Heap} {a_MONTHS a_BEARING C_HourError C_NoRule C_NoName C_Taken C_Stranger C_Twice C_NoTime C_NoMeeting C_Clash C_Book : Addr} (T : Txt K mg a_MONTHS a_BEARING C_HourError C_NoRule C_NoName C_Taken C_Stranger C_Twice C_NoTime C_NoMeeting C_Clash C_Book) :
    FnB P w K mg base CX0 1 "is_name" ["thing"] (spV K R_is_name) := by
  refine T.t_is_name.ok (fun _ _ _ _ _ _ us hl => match us, hl with | [_], _ => rfl) fun f fd F => fn_ok F sc_is_name (by rintro ds d ⟨x, hp, rfl, rfl⟩; rfl) fun cdv A outer s H E hr => ?_
  have hu66 := room66 hr
  have hu := hr.units
  have hu1 := Nat.lt_of_le_of_lt (Nat.add_le_add_left (show 1 ≤ 64 by decide) _) hu
  have nd := sc_is_name.nd
  refine ⟨_, (pss_cons (ps_if (PW.pt (pw_or (pt_not (pt_val (pe_callB (kc_isi (K := K) rfl) rfl T.b_isinstance bb_isinstance (pa_cons (pv 0) (pa_cons (pe_ty T.b_str bb_str rfl) pa_nil))))) (pw_or1 (pt_not (pt_chain op_leI op_leI pe_int (pe_callB (kc_len (K := K) rfl) rfl T.b_len bb_len (pa_cons (pv 0) pa_nil)) (pe_gint T.g_MOST_SIGNS rfl)))))) (pss_one (ps_ret pe_bl)) pss_nil)
    (pss_one (ps_ret (pe_callB (kc_all (K := K) rfl rfl) rfl T.b_all bb_all (pa_cons (pe_lc (own := [("sign", 1)]) rfl nd (ki_any (K := K) rfl (pv 0)) (blkOk_by (N := ["thing", "sign"]) (sc := defScope s_is_name) (by decide +kernel)) (fun _ _ _ _ _ => (pg_name (i := 1) nd rfl (by first | exact Or.inl rfl | exact Or.inr rfl))) (fun _ _ _ _ _ => pts_nil) (fun _ _ _ _ _ => (pe_cmpR (ok_inA (K := K) rfl) (pv 1) (pe_gstr T.g_LETTERS rfl) rfl))) pa_nil))))), ?_⟩
  clear hr hu hu1 hu66 nd F
  rintro ds d ⟨x, hp, rfl, rfl⟩
  show WpD _ _ _ [.dat (x), .no] _
  cases x
  case str t =>
    have hl := hp t rfl
    refine wp_seq (wp_if (b := !(decide (1 ≤ (t.length : Int)) && decide ((t.length : Int) ≤ 12))) (et_to (et_or (et_not (et_test (ev_isStr (ev_var rfl)))) fun _ => et_not (et_test (w_chain_ll ev_int (by k_clsL) fun _ => ev_int))) ?_) (fun z => wp_ret ev_bl ?_) fun z => wp_next ?_)
    · rfl
    · show PyData.bool false = .bool ((decide (1 ≤ (t.length : Int)) && decide ((t.length : Int) ≤ 12)) && _)
      rw [show (decide (1 ≤ (t.length : Int)) && decide ((t.length : Int) ≤ 12)) = false by simpa only [Bool.not_eq_true'] using z]; rfl
    dsimp only
    have hz : (decide (1 ≤ (t.length : Int)) && decide ((t.length : Int) ≤ 12)) = true := by simpa only [Bool.not_eq_false'] using z
    refine wp_ret (ev_to (ev_cb (ea_cons (EvF.ev (w_lcm (zs := t.cps.toList) (c := fun c => .str ⟨#[c]⟩) (h := fun c => .bool (decide (c ∈ LETS))) (it_any_str (ev_var rfl)) ⟨?_⟩ ⟨by decide⟩ fun y hy => ?_)) ea_nil) (cq_all ⟨?_⟩)) ?_) rfl
    · show t.cps.toList.length ≤ _
      rw [Array.length_toList]
      have : t.cps.size = t.length := rfl
      omega
    · refine ev_op (ev_var rfl) ev_str ?_
      exact oq_in_sign
    · intro d hd
      obtain ⟨r, _, rfl⟩ := List.mem_map.mp hd
      exact ⟨_, rfl⟩
    · show PyData.bool _ = .bool ((decide (1 ≤ (t.length : Int)) && decide ((t.length : Int) ≤ 12)) && _)
      rw [hz, List.all_map]; rfl
  all_goals k_offL
end
section

theorem ok_is_whole {P : Program} {w : World} {K : PySem.W.Frag} {mg : Str → Option Value} {base : Heap} {a_MONTHS a_BEARING C_HourError C_NoRule C_NoName C_Taken C_Stranger C_Twice C_NoTime C_NoMeeting C_Clash C_Book : Addr} (T : Txt K mg a_MONTHS a_BEARING C_HourError C_NoRule C_NoName C_Taken C_Stranger C_Twice C_NoTime C_NoMeeting C_Clash C_Book) :
    FnB P w K mg base CX0 1 "is_whole" ["thing"] (spV K R_is_whole) := by
  refine T.t_is_whole.ok (fun _ _ _ _ _ _ us hl => match us, hl with | [_], _ => rfl) fun f fd F => fn_ok F sc_is_whole (by rintro ds d ⟨x, hp, rfl, rfl⟩; rfl) fun cdv A outer s H E hr => ?_
  have hu66 := room66 hr
  have hu := hr.units
  have hu1 := Nat.lt_of_le_of_lt (Nat.add_le_add_left (show 1 ≤ 64 by decide) _) hu
  have nd := sc_is_whole.nd
  refine ⟨_, (pss_one (ps_ret (pe_and (pe_callB (kc_isi (K := K) rfl) rfl T.b_isinstance bb_isinstance (pa_cons (pv 0) (pa_cons (pe_ty T.b_int bb_int rfl) pa_nil))) (pe_one (pe_not (pe_callB (kc_isi (K := K) rfl) rfl T.b_isinstance bb_isinstance (pa_cons (pv 0) (pa_cons (pe_ty T.b_bool bb_bool rfl) pa_nil)))))))), ?_⟩
  clear hr hu hu1 hu66 nd F
  rintro ds d ⟨x, hp, rfl, rfl⟩
  show WpD _ _ _ [.dat (x)] _
  k_offL
end
section

theorem ok_is_between {P : Program} {w : World} {K : PySem.W.Frag} {mg : Str → Option Value} {base : Heap} {a_MONTHS a_BEARING C_HourError C_NoRule C_NoName C_Taken C_Stranger C_Twice C_NoTime C_NoMeeting C_Clash C_Book : Addr} (T : Txt K mg a_MONTHS a_BEARING C_HourError C_NoRule C_NoName C_Taken C_Stranger C_Twice C_NoTime C_NoMeeting C_Clash C_Book)
    (c_is_whole : FnB P w K mg base CX0 1 "is_whole" ["thing"] (spV K R_is_whole)) :
    FnB P w K mg base CX0 2 "is_between" ["thing", "low", "high"] (spV K R_is_between) := by
  refine T.t_is_between.ok (fun _ _ _ _ _ _ us hl => match us, hl with | [_, _, _], _ => rfl) fun f fd F => fn_ok F sc_is_between (by rintro ds d ⟨x, lo, hi, hp, rfl, rfl⟩; rfl) fun cdv A outer s H E hr => ?_
  have hu66 := room66 hr
  have hu := hr.units
  have hu1 := Nat.lt_of_le_of_lt (Nat.add_le_add_left (show 1 ≤ 64 by decide) _) hu
  have nd := sc_is_between.nd
  refine ⟨_, (pss_one (ps_ret (pe_and (pe_callF c_is_whole (hr.mono (by decide)) rfl pass0 (pa_cons (pv 0) pa_nil)) (pe_one (pe_chain op_leI op_leI (pv 1) (pv 0) (pv 2)))))), ?_⟩
  clear hr hu hu1 hu66 nd F c_is_whole
  rintro ds d ⟨x, lo, hi, hp, rfl, rfl⟩
  show WpD _ _ _ [.dat (x), .dat (.int lo), .dat (.int hi)] _
  cases x <;> k_offL
end
section

theorem ok_is_row {P : Program} {w : World} {K : PySem.W.Frag} {mg : Str → Option Value} {base : Heap} {a_MONTHS a_BEARING C_HourError C_NoRule C_NoName C_Taken C_Stranger C_Twice C_NoTime C_NoMeeting C_Clash C_Book : Addr} (T : Txt K mg a_MONTHS a_BEARING C_HourError C_NoRule C_NoName C_Taken C_Stranger C_Twice C_NoTime C_NoMeeting C_Clash C_Book)
    (c_is_between : FnB P w K mg base CX0 2 "is_between" ["thing", "low", "high"] (spV K R_is_between)) :
    FnB P w K mg base CX0 3 "is_row" ["thing", "below", "most"] (spV K R_is_row) := by
  refine T.t_is_row.ok (fun _ _ _ _ _ _ us hl => match us, hl with | [_, _, _], _ => rfl) fun f fd F => fn_ok F sc_is_row (by rintro ds d ⟨x, below, most, hp, rfl, rfl⟩; rfl) fun cdv A outer s H E hr => ?_
  have hu66 := room66 hr
  have hu := hr.units
  have hu1 := Nat.lt_of_le_of_lt (Nat.add_le_add_left (show 1 ≤ 64 by decide) _) hu
  have nd := sc_is_row.nd
  refine ⟨_, (pss_cons (ps_if (PW.pt (pw_or (pt_not (pt_val (pe_callB (kc_isi (K := K) rfl) rfl T.b_isinstance bb_isinstance (pa_cons (pv 0) (pa_cons (pe_ty T.b_tuple bb_tuple rfl) pa_nil))))) (pw_or1 (pt_not (pt_chain op_leI op_leI pe_int (pe_callB (kc_len (K := K) rfl) rfl T.b_len bb_len (pa_cons (pv 0) pa_nil)) (pv 2)))))) (pss_one (ps_ret pe_bl)) pss_nil)
    (pss_cons (ps_set (i := 3) nd rfl (by first | exact Or.inl rfl | exact Or.inr rfl) (pe_un un_neg pe_int))
    (pss_cons (ps_for PassesOwn.never rfl (ki_any (K := K) rfl (pv 0)) (pg_name (i := 4) nd rfl (by first | exact Or.inl rfl | exact Or.inr rfl)) (pss_cons (ps_if (pt_not (pt_val (pe_callF c_is_between (hr.mono (by decide)) rfl pass0 (pa_cons (pv 4) (pa_cons (pe_op (ok_addA (K := K) rfl) (pv 3) pe_int) (pa_cons (pe_op op_subI (pv 1) pe_int) pa_nil)))))) (pss_one (ps_ret pe_bl)) pss_nil)
    (pss_one (ps_set (i := 3) nd rfl (by first | exact Or.inl rfl | exact Or.inr rfl) (pv 4)))))
    (pss_one (ps_ret pe_bl))))), ?_⟩
  clear hr hu hu1 hu66 nd F c_is_between
  rintro ds d ⟨x, below, most, hp, rfl, rfl⟩
  show WpD _ _ _ [.dat (x), .dat (.int below), .dat (.int most), .no, .no] _
  cases x
  case tuple ds =>
    by_cases hl : 1 ≤ (ds.length : Int) ∧ (ds.length : Int) ≤ most
    · refine wp_seq ?_
      with_reducible apply wp_ifF
      · k_clsL
      · simp [isTup, hl]
      refine wp_next ?_
      dsimp only
      refine wp_seq (wp_asg (d := .int (-1)) (by k_clsL) ?_)
      dsimp only [List.set_cons_succ, List.set_cons_zero]
      have e0 : rowB (.tuple ds) below most = rowGo below (-1) ds := by simp [rowB, hl]
      rw [e0]
      refine wp_seq (wp_forn (xs := ds) (fun i Γ' => ∃ last e, rowGo below last (ds.drop i) = rowGo below (-1) ds ∧ Γ' = [.dat (.tuple ds), .dat (.int below), .dat (.int most), .dat (.int last), e]) (it_any_tup (ev_var rfl)) ⟨-1, _, rfl, rfl⟩ ?_ ?_)
      · rintro i x _ hx ⟨last, e, hr, rfl⟩
        have hi := (List.getElem?_eq_some_iff.mp hx).1
        have hd : ds.drop i = x :: ds.drop (i + 1) := by rw [List.drop_eq_getElem_cons hi, (List.getElem?_eq_some_iff.mp hx).2]
        rw [hd] at hr
        rw [← hr]
        k_offL
        · simp_all [rowGo]
        · rename_i h
          obtain ⟨j, rfl, -, -⟩ := isBetween_int h
          refine ⟨j, _, ?_, rfl⟩
          simp [rowGo, h, intOf]
      rintro _ ⟨last, e, hr, rfl⟩
      rw [List.drop_length] at hr
      rw [← hr]
      k_offL
    · have e0 : rowB (.tuple ds) below most = false := by
        show (decide (1 ≤ (ds.length : Int)) && decide ((ds.length : Int) ≤ most) && rowGo below (-1) ds) = false
        rw [← Bool.decide_and, decide_eq_false hl]; rfl
      rw [e0]
      refine wp_seq ?_
      with_reducible apply wp_ifT
      · k_clsL
      · rw [← Bool.decide_and, decide_eq_false hl]; rfl
      k_offL
  all_goals k_offL
end
section

theorem ok_is_time {P : Program} {w : World} {K : PySem.W.Frag} {mg : Str → Option Value} {base : Heap} {a_MONTHS a_BEARING C_HourError C_NoRule C_NoName C_Taken C_Stranger C_Twice C_NoTime C_NoMeeting C_Clash C_Book : Addr} (T : Txt K mg a_MONTHS a_BEARING C_HourError C_NoRule C_NoName C_Taken C_Stranger C_Twice C_NoTime C_NoMeeting C_Clash C_Book)
    (c_is_between : FnB P w K mg base CX0 2 "is_between" ["thing", "low", "high"] (spV K R_is_between)) :
    FnB P w K mg base CX0 3 "is_time" ["thing"] (spV K R_is_time) := by
  refine T.t_is_time.ok (fun _ _ _ _ _ _ us hl => match us, hl with | [_], _ => rfl) fun f fd F => fn_ok F sc_is_time (by rintro ds d ⟨x, hp, rfl, rfl⟩; rfl) fun cdv A outer s H E hr => ?_
  have hu66 := room66 hr
  have hu := hr.units
  have hu1 := Nat.lt_of_le_of_lt (Nat.add_le_add_left (show 1 ≤ 64 by decide) _) hu
  have nd := sc_is_time.nd
  refine ⟨_, (pss_one (ps_ret (pe_callF c_is_between (hr.mono (by decide)) rfl pass0 (pa_cons (pv 0) (pa_cons pe_int (pa_cons (pe_op op_subI (pe_gint T.g_TIMES rfl) pe_int) pa_nil)))))), ?_⟩
  clear hr hu hu1 hu66 nd F c_is_between
  rintro ds d ⟨x, hp, rfl, rfl⟩
  show WpD _ _ _ [.dat (x)] _
  k_offL
end
section

theorem ok_is_length {P : Program} {w : World} {K : PySem.W.Frag} {mg : Str → Option Value} {base : Heap} {a_MONTHS a_BEARING C_HourError C_NoRule C_NoName C_Taken C_Stranger C_Twice C_NoTime C_NoMeeting C_Clash C_Book : Addr} (T : Txt K mg a_MONTHS a_BEARING C_HourError C_NoRule C_NoName C_Taken C_Stranger C_Twice C_NoTime C_NoMeeting C_Clash C_Book)
    (c_is_between : FnB P w K mg base CX0 2 "is_between" ["thing", "low", "high"] (spV K R_is_between)) :
    FnB P w K mg base CX0 3 "is_length" ["thing"] (spV K R_is_length) := by
  refine T.t_is_length.ok (fun _ _ _ _ _ _ us hl => match us, hl with | [_], _ => rfl) fun f fd F => fn_ok F sc_is_length (by rintro ds d ⟨x, hp, rfl, rfl⟩; rfl) fun cdv A outer s H E hr => ?_
  have hu66 := room66 hr
  have hu := hr.units
  have hu1 := Nat.lt_of_le_of_lt (Nat.add_le_add_left (show 1 ≤ 64 by decide) _) hu
  have nd := sc_is_length.nd
  refine ⟨_, (pss_one (ps_ret (pe_callF c_is_between (hr.mono (by decide)) rfl pass0 (pa_cons (pv 0) (pa_cons pe_int (pa_cons (pe_gint T.g_LONGEST rfl) pa_nil)))))), ?_⟩
  clear hr hu hu1 hu66 nd F c_is_between
  rintro ds d ⟨x, hp, rfl, rfl⟩
  show WpD _ _ _ [.dat (x)] _
  k_offL
end
section

theorem ok_is_plain {P : Program} {w : World} {K : PySem.W.Frag} {mg : Str → Option Value} {base : Heap} {a_MONTHS a_BEARING C_HourError C_NoRule C_NoName C_Taken C_Stranger C_Twice C_NoTime C_NoMeeting C_Clash C_Book : Addr} (T : Txt K mg a_MONTHS a_BEARING C_HourError C_NoRule C_NoName C_Taken C_Stranger C_Twice C_NoTime C_NoMeeting C_Clash C_Book)
    (c_is_row : FnB P w K mg base CX0 3 "is_row" ["thing", "below", "most"] (spV K R_is_row))
    (c_is_between : FnB P w K mg base CX0 2 "is_between" ["thing", "low", "high"] (spV K R_is_between))
    (c_is_time : FnB P w K mg base CX0 3 "is_time" ["thing"] (spV K R_is_time))
    (c_is_length : FnB P w K mg base CX0 3 "is_length" ["thing"] (spV K R_is_length)) :
    FnB P w K mg base CX0 4 "is_plain" ["thing"] (spV K R_is_plain) := by
  refine T.t_is_plain.ok (fun _ _ _ _ _ _ us hl => match us, hl with | [_], _ => rfl) fun f fd F => fn_ok F sc_is_plain (by rintro ds d ⟨w, a, b, rest, hp, rfl, rfl⟩; rfl) fun cdv A outer s H E hr => ?_
  have hu66 := room66 hr
  have hu := hr.units
  have hu1 := Nat.lt_of_le_of_lt (Nat.add_le_add_left (show 1 ≤ 64 by decide) _) hu
  have nd := sc_is_plain.nd
  refine ⟨_, (pss_cons (ps_set (i := 1) nd rfl (by first | exact Or.inl rfl | exact Or.inr rfl) (pe_ix (kx_seq (K := K) rfl) (pv 0) pe_int (fun _ _ => rfl)))
    (pss_cons (ps_if (pt_cmpR (ok_eqA (K := K) rfl hu) (pv 1) pe_str (nomark _)) (pss_one (ps_ret (pe_and (pe_cmpR (ok_eqA (K := K) rfl hu) (pe_callB (kc_len (K := K) rfl) rfl T.b_len bb_len (pa_cons (pv 0) pa_nil)) pe_int (nomark _)) (pe_and (pe_callF c_is_time (hr.mono (by decide)) rfl pass0 (pa_cons (pe_ix (kx_seq (K := K) rfl) (pv 0) pe_int (fun _ _ => rfl)) pa_nil)) (pe_one (pe_callF c_is_length (hr.mono (by decide)) rfl pass0 (pa_cons (pe_ix (kx_seq (K := K) rfl) (pv 0) pe_int (fun _ _ => rfl)) pa_nil))))))) pss_nil)
    (pss_cons (ps_if (pt_cmpR (ok_neA (K := K) rfl hu) (pe_callB (kc_len (K := K) rfl) rfl T.b_len bb_len (pa_cons (pv 0) pa_nil)) pe_int (nomark _)) (pss_one (ps_ret pe_bl)) pss_nil)
    (pss_cons (ps_if (pt_cmpR (ok_eqA (K := K) rfl hu) (pv 1) pe_str (nomark _)) (pss_one (ps_ret (pe_and (pe_callF c_is_time (hr.mono (by decide)) rfl pass0 (pa_cons (pe_ix (kx_seq (K := K) rfl) (pv 0) pe_int (fun _ _ => rfl)) pa_nil)) (pe_and (pe_callF c_is_length (hr.mono (by decide)) rfl pass0 (pa_cons (pe_ix (kx_seq (K := K) rfl) (pv 0) pe_int (fun _ _ => rfl)) pa_nil)) (pe_one (pe_callF c_is_between (hr.mono (by decide)) rfl pass0 (pa_cons (pe_ix (kx_seq (K := K) rfl) (pv 0) pe_int (fun _ _ => rfl)) (pa_cons pe_int (pa_cons (pe_gint T.g_MOST_STEP rfl) pa_nil))))))))) pss_nil)
    (pss_cons (ps_if (PW.pt (pw_or (pt_not (pt_val (pe_callF c_is_between (hr.mono (by decide)) rfl pass0 (pa_cons (pe_ix (kx_seq (K := K) rfl) (pv 0) pe_int (fun _ _ => rfl)) (pa_cons pe_int (pa_cons pe_int pa_nil)))))) (pw_or1 (pt_not (pt_val (pe_callF c_is_length (hr.mono (by decide)) rfl pass0 (pa_cons (pe_ix (kx_seq (K := K) rfl) (pv 0) pe_int (fun _ _ => rfl)) pa_nil))))))) (pss_one (ps_ret pe_bl)) pss_nil)
    (pss_cons (ps_if (pt_cmpR (ok_eqA (K := K) rfl hu) (pv 1) pe_str (nomark _)) (pss_one (ps_ret (pe_callF c_is_row (hr.mono (by decide)) rfl pass0 (pa_cons (pe_ix (kx_seq (K := K) rfl) (pv 0) pe_int (fun _ _ => rfl)) (pa_cons pe_int (pa_cons pe_int pa_nil)))))) pss_nil)
    (pss_one (ps_ret (pe_and (pe_cmpR (ok_eqA (K := K) rfl hu) (pv 1) pe_str (nomark _)) (pe_and (pe_callF c_is_between (hr.mono (by decide)) rfl pass0 (pa_cons (pe_ix (kx_seq (K := K) rfl) (pv 0) pe_int (fun _ _ => rfl)) (pa_cons (pe_un un_neg pe_int) (pa_cons pe_int pa_nil)))) (pe_one (pe_cmpR (ok_neA (K := K) rfl hu) (pe_ix (kx_seq (K := K) rfl) (pv 0) pe_int (fun _ _ => rfl)) pe_int (nomark _))))))))))))), ?_⟩
  clear hr hu hu1 hu66 nd F c_is_row c_is_between c_is_time c_is_length
  rintro ds d ⟨w, a, b, rest, hp, rfl, rfl⟩
  show WpD _ _ _ [.dat (.tuple (.str w :: a :: b :: rest)), .no] _
  rcases rest with _ | ⟨c, _ | ⟨c2, rest⟩⟩
  all_goals
    by_cases h1 : w = "once"
    · subst h1; k_offL <;> (first | (simp_all [plainB, intOf]; done) | (cases hb : isBetween b 0 23 <;> cases hc : isLen c <;> simp_all [plainB, intOf] <;> done) | (exfalso; apply ha; assumption))
    by_cases h2 : w = "every"
    · subst h2; k_offL <;> (first | (simp_all [plainB, intOf]; done) | (cases hb : isBetween b 0 23 <;> cases hc : isLen c <;> simp_all [plainB, intOf] <;> done) | (exfalso; apply ha; assumption))
    by_cases h3 : w = "week"
    · subst h3; k_offL <;> (first | (simp_all [plainB, intOf]; done) | (cases hb : isBetween b 0 23 <;> cases hc : isLen c <;> simp_all [plainB, intOf] <;> done) | (exfalso; apply ha; assumption))
    by_cases h4 : w = "month"
    · subst h4
      by_cases ha : isBetween a (-31) 31 = true
      · obtain ⟨i, rfl, hi⟩ := isBetween_int ha
        k_offL
        all_goals simp only [plainB, if_neg h1, if_neg h2, if_neg h3]
        all_goals cases hb : isBetween b 0 23 <;> cases hc : isLen c <;> simp_all [intOf]
        all_goals rfl
      · k_offL <;> (first | (simp_all [plainB, intOf]; done) | (cases hb : isBetween b 0 23 <;> cases hc : isLen c <;> simp_all [plainB, intOf] <;> done) | (exfalso; apply ha; assumption))
    k_offL <;> (first | (simp_all [plainB, intOf]; done) | (cases hb : isBetween b 0 23 <;> cases hc : isLen c <;> simp_all [plainB, intOf] <;> done) | (exfalso; apply ha; assumption))
end
section

theorem ok_is_rule {P : Program} {w : World} {K : PySem.W.Frag} {mg : Str → Option Value} {base : Heap} {a_MONTHS a_BEARING C_HourError C_NoRule C_NoName C_Taken C_Stranger C_Twice C_NoTime C_NoMeeting C_Clash C_Book : Addr} (T : Txt K mg a_MONTHS a_BEARING C_HourError C_NoRule C_NoName C_Taken C_Stranger C_Twice C_NoTime C_NoMeeting C_Clash C_Book)
    (c_is_plain : FnB P w K mg base CX0 4 "is_plain" ["thing"] (spV K R_is_plain))
    (c_is_row : FnB P w K mg base CX0 3 "is_row" ["thing", "below", "most"] (spV K R_is_row))
    (c_is_time : FnB P w K mg base CX0 3 "is_time" ["thing"] (spV K R_is_time)) :
    FnB P w K mg base CX0 5 "is_rule" ["thing"] (spV K R_is_rule) := by
  refine T.t_is_rule.ok (fun _ _ _ _ _ _ us hl => match us, hl with | [_], _ => rfl) fun f fd F => fn_ok F sc_is_rule (by rintro ds d ⟨x, hp, rfl, rfl⟩; rfl) fun cdv A outer s H E hr => ?_
  have hu66 := room66 hr
  have hu := hr.units
  have hu1 := Nat.lt_of_le_of_lt (Nat.add_le_add_left (show 1 ≤ 64 by decide) _) hu
  have nd := sc_is_rule.nd
  have hg_BEARING := T.g_BEARING.d
  refine ⟨_, (pss_cons (ps_for PassesOwn.never rfl (pi_range1 rfl T.b_range (pa_cons (pe_gint T.g_DEEPEST rfl) pa_nil)) (pg_name (i := 1) nd rfl (by first | exact Or.inl rfl | exact Or.inr rfl)) (pss_cons (ps_if (PW.pt (pw_or (pt_not (pt_val (pe_callB (kc_isi (K := K) rfl) rfl T.b_isinstance bb_isinstance (pa_cons (pv 0) (pa_cons (pe_ty T.b_tuple bb_tuple rfl) pa_nil))))) (pw_or (pt_cmpR op_ltI (pe_callB (kc_len (K := K) rfl) rfl T.b_len bb_len (pa_cons (pv 0) pa_nil)) pe_int (nomark _)) (pw_or1 (pt_not (pt_val (pe_callB (kc_isi (K := K) rfl) rfl T.b_isinstance bb_isinstance (pa_cons (pe_ix (kx_seq (K := K) rfl) (pv 0) pe_int (fun _ _ => rfl)) (pa_cons (pe_ty T.b_str bb_str rfl) pa_nil))))))))) (pss_one (ps_ret pe_bl)) pss_nil)
    (pss_cons (ps_if (pt_cmpR (ok_notInA (K := K) rfl) (pe_ix (kx_seq (K := K) rfl) (pv 0) pe_int (fun _ _ => rfl)) (pe_gdat T.g_BEARING rfl) rfl) (pss_one (ps_ret (pe_callF c_is_plain (hr.mono (by decide)) rfl pass0 (pa_cons (pv 0) pa_nil)))) pss_nil)
    (pss_cons (ps_if (PW.pt (pw_or (pt_cmpR op_gtI (pe_callB (kc_len (K := K) rfl) rfl T.b_len bb_len (pa_cons (pv 0) pa_nil)) pe_int (nomark _)) (pw_or1 (PW.pt (pw_and (pt_cmpR (ok_neA (K := K) rfl hu) (pe_ix (kx_seq (K := K) rfl) (pv 0) pe_int (fun _ _ => rfl)) pe_str (nomark _)) (pw_and1 (pt_not (pt_val (pe_callF c_is_time (hr.mono (by decide)) rfl pass0 (pa_cons (pe_ix (kx_seq (K := K) rfl) (pv 0) pe_int (fun _ _ => rfl)) pa_nil)))))))))) (pss_one (ps_ret pe_bl)) pss_nil)
    (pss_cons (ps_if (PW.pt (pw_and (pt_cmpR (ok_eqA (K := K) rfl hu) (pe_ix (kx_seq (K := K) rfl) (pv 0) pe_int (fun _ _ => rfl)) pe_str (nomark _)) (pw_and1 (pt_not (pt_val (pe_callF c_is_row (hr.mono (by decide)) rfl pass0 (pa_cons (pe_ix (kx_seq (K := K) rfl) (pv 0) pe_int (fun _ _ => rfl)) (pa_cons (pe_gint T.g_DAYS rfl) (pa_cons pe_int pa_nil))))))))) (pss_one (ps_ret pe_bl)) pss_nil)
    (pss_one (ps_set (i := 0) nd rfl (by first | exact Or.inl rfl | exact Or.inr rfl) (pe_ix (kx_seq (K := K) rfl) (pv 0) pe_int (fun _ _ => rfl)))))))))
    (pss_one (ps_ret pe_bl))), ?_⟩
  clear hr hu hu1 hu66 nd F c_is_plain c_is_row c_is_time
  rintro ds d ⟨x, hp, rfl, rfl⟩
  show WpD _ _ _ [.dat (x), .no] _
  refine wp_seq (wp_forn (xs := (List.range 8).map fun k : Nat => .int (0 + (k : Int))) (fun i Γ' => ∃ y e, ruleB (8 - i) y = ruleB 8 x ∧ Γ' = [.dat y, e]) (w_rng1 (n := 8) ?_ ⟨by decide⟩ ⟨by decide⟩) ⟨x, _, rfl, rfl⟩ ?_ ?_)
  · k_clsL
  · rintro i z _ hx ⟨y, e, hr, rfl⟩
    have hi := (List.getElem?_eq_some_iff.mp hx).1
    rw [List.length_map, List.length_range] at hi
    obtain ⟨n, hn, hn2⟩ : ∃ n, 8 - i = n + 1 ∧ 8 - (i + 1) = n := ⟨8 - (i + 1), by omega, rfl⟩
    rw [hn] at hr
    rw [← hr, hn2]
    dsimp only [List.set_cons_succ, List.set_cons_zero]
    cases y
    case tuple ds =>
      rcases ds with _ | ⟨a, _ | ⟨b, _ | ⟨c, rest⟩⟩⟩
      case cons.cons.cons =>
        cases a
        case str w =>
          k_offL
          · rename_i h1 h2
            show PyData.bool (plainB w b c rest) = .bool (if inD (.str w) BEARD = true then _ else plainB w b c rest)
            rw [if_neg (by unfold BEARD; rw [h2]; exact Bool.false_ne_true)]
          all_goals
            rcases rest with _ | ⟨c2, rest⟩
            all_goals first
              | (simp_all [ruleB, BEARD]; done)
              | (refine ⟨c, _, ?_, rfl⟩; simp_all [ruleB, BEARD]; done)
              | (simp at *; omega)
              | trace_state
        all_goals k_offL
      all_goals k_offL
      all_goals (cases a <;> rfl)
    all_goals k_offL
  rintro _ ⟨y, e, hr, rfl⟩
  have e0 : ruleB 8 x = false := by rw [← hr]; rfl
  rw [e0]
  k_offL
end
section

theorem ok_Book_come {P : Program} {w : World} {K : PySem.W.Frag} {mg : Str → Option Value} {base : Heap} {a_MONTHS a_BEARING C_HourError C_NoRule C_NoName C_Taken C_Stranger C_Twice C_NoTime C_NoMeeting C_Clash C_Book : Addr} (T : Txt K mg a_MONTHS a_BEARING C_HourError C_NoRule C_NoName C_Taken C_Stranger C_Twice C_NoTime C_NoMeeting C_Clash C_Book)
    (c_is_name : FnB P w K mg base CX0 1 "is_name" ["thing"] (spV K R_is_name))
    (c_is_rule : FnB P w K mg base CX0 5 "is_rule" ["thing"] (spV K R_is_rule)) :
    MtB P w K mg base CX0 6 C_Book "come" ["self", "name", "free"] (spW (uw K) (R_Book_come C_Book)) := by
  refine T.t_Book_come.ok (fun _ _ _ _ _ _ us hl => match us, hl with | [_, _, _], _ => rfl) fun f fd F => fn_okW F sc_Book_come (by rintro es s0 O ⟨s, b, n, e, fr, hp, rfl, rfl, rfl⟩; rfl) fun cdv A outer s H E hr => ?_
  have hu66 := room66 hr
  have hu := hr.units
  have hu1 := Nat.lt_of_le_of_lt (Nat.add_le_add_left (show 1 ≤ 64 by decide) _) hu
  have nd := sc_Book_come.nd
  refine ⟨_, (pss_cons (ps_if (pt_not (pt_val (pe_callF c_is_name (hr.mono (by decide)) rfl pass0 (pa_cons (pv 1) pa_nil)))) (pss_one L2.ps_never) pss_nil)
    (pss_cons (ps_if (pt_cmp (pc_din hu1 (pv 1) (kpe_fld (K := K) rfl (pv 0))) rfl) (pss_one L2.ps_never) pss_nil)
    (pss_cons (ps_if (PW.pt (pw_or (pt_cmpR op_gtI (pe_callB (kc_len (K := K) rfl) rfl T.b_len bb_len (pa_cons (pv 2) pa_nil)) (pe_gint T.g_MOST_RULES rfl) (nomark _)) (pw_or1 (pt_not (pt_val (pe_callB (kc_all (K := K) rfl rfl) rfl T.b_all bb_all (pa_cons (pe_lc (own := [("rule", 3)]) rfl nd (ki_any (K := K) rfl (pv 2)) (blkOk_by (N := ["self", "name", "free", "rule"]) (sc := defScope s_Book_come) (by decide +kernel)) (fun _ _ _ _ _ => (pg_name (i := 3) nd rfl (by first | exact Or.inl rfl | exact Or.inr rfl))) (fun _ _ _ _ _ => pts_nil) (fun _ _ _ _ _ => (pe_callF c_is_rule (hr.mono (by decide)) rfl pass0 (pa_cons (pv 3) pa_nil)))) pa_nil))))))) (pss_one L2.ps_never) pss_nil)
    (pss_one (ps_dput hu1 (kpe_fld (K := K) rfl (pv 0)) (pv 1) (pe_tup (pa_cons (pe_callTy (kc_list (K := K) rfl) rfl T.b_list bb_list (pa_cons (pv 2) pa_nil)) (pa_cons (pe_lst pa_nil) pa_nil))) rfl))))), ?_⟩
  clear hr hu hu1 hu66 nd F c_is_name c_is_rule
  rintro es s0 O ⟨s, b, n, e, fr, hp, rfl, rfl, rfl⟩
  show WpW _ _ _ [.val (.ref b.a), .dat (.str n), e, .no] (s) _
  obtain ⟨hb, hnm, hnl, hn, hr, he, hl⟩ := hp
  have hlen : ((fr.map toD).length : Int) ≤ 20 := by rw [List.length_map]; have := hr.few; omega
  have hall : ((fr.map fun r => PyData.bool (ruleB 8 (toD r))).all boD) = true := by
    rw [List.all_map]
    exact List.all_eq_true.mpr fun r hm => ruleB_good 8 (hr.good r hm).1 (hr.good r hm).2
  refine ww_seq (ww_pure (wp_if (b := !nameB (.str n)) (et_not (et_test (v_is_name (ea_cons (ev_var rfl) ea_nil) ⟨fun t z => by cases z; exact hnl⟩))) (fun z => by rw [hnm] at z; cases z) fun _ => wp_next ?_))
  dsimp only
  refine ww_seq (ww_pure (wp_if (b := false) (et_to (et_B (ed_din (ev_var rfl) (ee_known hb T.cl_Book T.na_known (ee_val rfl)) hb.kn)) ?_) (fun z => by cases z) fun _ => wp_next ?_))
  · rw [show b.kvs = b.ps.map _ from rfl, kv_none hn]; rfl
  dsimp only
  refine ww_seq (ww_pure (wp_if (b := false) (et_to (et_or (a := decide ((20 : Int) < (fr.map toD).length)) (b := !((fr.map fun r => PyData.bool (ruleB 8 (toD r))).all boD)) (et_test (ev_op (le_len he rfl) (by k_clsL) od_gt)) fun _ => et_not (et_test (ev_cb (ea_cons (EvF.ev (w_lcm (zs := fr) (c := toD) (h := fun r => .bool (ruleB 8 (toD r))) (le_it he rfl) ⟨by have := hr.few; omega⟩ ⟨by decide⟩ fun y hy => ?_)) ea_nil) (cq_all ⟨?_⟩)))) ?_) (fun z => by cases z) fun _ => wp_next ?_))
  · k_clsL
  · intro d hd
    obtain ⟨r, _, rfl⟩ := List.mem_map.mp hd
    exact ⟨_, rfl⟩
  · rw [hall, decide_eq_false (by omega)]; rfl
  dsimp only
  refine ww_dputP (le_list he rfl) (fun s2 k => ee_fld (ee_val rfl) (k.cell _ hb.ob (by simp)) T.cl_Book T.na_known f_known) (fun s2 k => ev_var rfl) hb.kn (by unfold Bk.kvs; rw [List.length_map]; omega) fun t f u fv nf nu nt fu ft ut => ?_
  obtain ⟨h1, h2⟩ := hb.come (fv := fv) hn hr (by omega) nf nu nt fu ft ut
  refine ⟨_, _, rfl, rfl, rfl, rfl, h1, h2, fun x hx => ?_⟩
  simp [Pers.adr] at hx
  rcases hx with rfl | rfl | rfl
  · exact nt
  · exact nf
  · exact nu
end
section

theorem ok_Book_need {P : Program} {w : World} {K : PySem.W.Frag} {mg : Str → Option Value} {base : Heap} {a_MONTHS a_BEARING C_HourError C_NoRule C_NoName C_Taken C_Stranger C_Twice C_NoTime C_NoMeeting C_Clash C_Book : Addr} (T : Txt K mg a_MONTHS a_BEARING C_HourError C_NoRule C_NoName C_Taken C_Stranger C_Twice C_NoTime C_NoMeeting C_Clash C_Book) :
    MtB P w K mg base CX0 1 C_Book "need" ["self", "name"] (spW (uw K) (R_Book_need C_Book)) := by
  refine T.t_Book_need.ok (fun _ _ _ _ _ _ us hl => match us, hl with | [_, _], _ => rfl) fun f fd F => fn_okW F sc_Book_need (by rintro es s0 O ⟨s, b, p, hp, rfl, rfl, rfl⟩; rfl) fun cdv A outer s H E hr => ?_
  have hu66 := room66 hr
  have hu := hr.units
  have hu1 := Nat.lt_of_le_of_lt (Nat.add_le_add_left (show 1 ≤ 64 by decide) _) hu
  have nd := sc_Book_need.nd
  refine ⟨_, (pss_one (ps_if (pt_cmp (pc_dnotin hu1 (pv 1) (kpe_fld (K := K) rfl (pv 0))) rfl) (pss_one L2.ps_never) pss_nil)), ?_⟩
  clear hr hu hu1 hu66 nd F
  rintro es s0 O ⟨s, b, p, hp, rfl, rfl, rfl⟩
  show WpW _ _ _ [.val (.ref b.a), .dat (.str p.name)] (s) _
  obtain ⟨hb, hp⟩ := hp
  refine ww_pure (wp_if (b := false) (et_to (et_B (ed_dnotin (ev_var rfl) (ee_known hb T.cl_Book T.na_known (ee_val rfl)) hb.kn)) ?_) (fun z => by cases z) fun _ => wp_next rfl)
  rw [show b.kvs = b.ps.map _ from rfl, kv_find hb.nn hp]
  rfl
end
section

theorem ok_innermost {P : Program} {w : World} {K : PySem.W.Frag} {mg : Str → Option Value} {base : Heap} {a_MONTHS a_BEARING C_HourError C_NoRule C_NoName C_Taken C_Stranger C_Twice C_NoTime C_NoMeeting C_Clash C_Book : Addr} (T : Txt K mg a_MONTHS a_BEARING C_HourError C_NoRule C_NoName C_Taken C_Stranger C_Twice C_NoTime C_NoMeeting C_Clash C_Book) :
    FnB P w K mg base CX0 1 "innermost" ["rule"] (spV K R_innermost) := by
  refine T.t_innermost.ok (fun _ _ _ _ _ _ us hl => match us, hl with | [_], _ => rfl) fun f fd F => fn_ok F sc_innermost (by rintro ds d ⟨r, hp, rfl, rfl⟩; rfl) fun cdv A outer s H E hr => ?_
  have hu66 := room66 hr
  have hu := hr.units
  have hu1 := Nat.lt_of_le_of_lt (Nat.add_le_add_left (show 1 ≤ 64 by decide) _) hu
  have nd := sc_innermost.nd
  have hg_BEARING := T.g_BEARING.d
  refine ⟨_, (pss_cons (ps_while PassesOwn.never (pt_cmpR (ok_inA (K := K) rfl) (pe_ix (kx_seq (K := K) rfl) (pv 0) pe_int (fun _ _ => rfl)) (pe_gdat T.g_BEARING rfl) rfl) (pss_one (ps_set (i := 0) nd rfl (by first | exact Or.inl rfl | exact Or.inr rfl) (pe_ix (kx_seq (K := K) rfl) (pv 0) pe_int (fun _ _ => rfl)))))
    (pss_one (ps_ret (pv 0)))), ?_⟩
  clear hr hu hu1 hu66 nd F
  rintro ds d ⟨r, hp, rfl, rfl⟩
  show WpD _ _ _ [.dat (toD r)] _
  refine wp_seq (wp_wh (fun n Γ' => ∃ q, core q = core r ∧ depth q = n ∧ Γ' = [.dat (toD q)]) (depth r) ⟨r, rfl, rfl, rfl⟩ ?_)
  rintro _ _ ⟨q, hq, rfl, rfl⟩
  cases q <;> simp only [toD] <;> k_offL
  all_goals first | (refine ⟨_, Nat.lt_succ_self _, _, ?_, rfl, rfl⟩; exact hq) | (rw [← hq]; rfl)
end
section

theorem ok_length_of {P : Program} {w : World} {K : PySem.W.Frag} {mg : Str → Option Value} {base : Heap} {a_MONTHS a_BEARING C_HourError C_NoRule C_NoName C_Taken C_Stranger C_Twice C_NoTime C_NoMeeting C_Clash C_Book : Addr} (T : Txt K mg a_MONTHS a_BEARING C_HourError C_NoRule C_NoName C_Taken C_Stranger C_Twice C_NoTime C_NoMeeting C_Clash C_Book)
    (c_innermost : FnB P w K mg base CX0 1 "innermost" ["rule"] (spV K R_innermost)) :
    FnB P w K mg base CX0 2 "length_of" ["rule"] (spV K R_length_of) := by
  refine T.t_length_of.ok (fun _ _ _ _ _ _ us hl => match us, hl with | [_], _ => rfl) fun f fd F => fn_ok F sc_length_of (by rintro ds d ⟨r, hp, rfl, rfl⟩; rfl) fun cdv A outer s H E hr => ?_
  have hu66 := room66 hr
  have hu := hr.units
  have hu1 := Nat.lt_of_le_of_lt (Nat.add_le_add_left (show 1 ≤ 64 by decide) _) hu
  have nd := sc_length_of.nd
  refine ⟨_, (pss_cons (ps_set (i := 1) nd rfl (by first | exact Or.inl rfl | exact Or.inr rfl) (pe_callF c_innermost (hr.mono (by decide)) rfl pass0 (pa_cons (pv 0) pa_nil)))
    (pss_cons (ps_if (PW.pt (pw_or (pt_cmpR (ok_eqA (K := K) rfl hu) (pe_ix (kx_seq (K := K) rfl) (pv 1) pe_int (fun _ _ => rfl)) pe_str (nomark _)) (pw_or1 (pt_cmpR (ok_eqA (K := K) rfl hu) (pe_ix (kx_seq (K := K) rfl) (pv 1) pe_int (fun _ _ => rfl)) pe_str (nomark _))))) (pss_one (ps_ret (pe_ix (kx_seq (K := K) rfl) (pv 1) pe_int (fun _ _ => rfl)))) pss_nil)
    (pss_one (ps_ret (pe_ix (kx_seq (K := K) rfl) (pv 1) pe_int (fun _ _ => rfl)))))), ?_⟩
  clear hr hu hu1 hu66 nd F c_innermost
  rintro ds d ⟨r, hp, rfl, rfl⟩
  show WpD _ _ _ [.dat (toD r), .no] _
  refine wp_seq (wp_asg (d := toD (core r)) ?_ ?_)
  · k_clsL
  dsimp only [List.set_cons_succ, List.set_cons_zero]
  have hp := plain_core r
  rw [← size_core]
  generalize core r = q at *
  cases q <;> first | (exfalso; revert hp; simp; done) | (simp only [toD]; k_offL)
end
section

theorem ok_month_days {P : Program} {w : World} {K : PySem.W.Frag} {mg : Str → Option Value} {base : Heap} {a_MONTHS a_BEARING C_HourError C_NoRule C_NoName C_Taken C_Stranger C_Twice C_NoTime C_NoMeeting C_Clash C_Book : Addr} (T : Txt K mg a_MONTHS a_BEARING C_HourError C_NoRule C_NoName C_Taken C_Stranger C_Twice C_NoTime C_NoMeeting C_Clash C_Book) :
    FnB P w K mg base CX0 1 "month_days" ["year", "month"] (spV K R_month_days) := by
  refine T.t_month_days.ok (fun _ _ _ _ _ _ us hl => match us, hl with | [_, _], _ => rfl) fun f fd F => fn_ok F sc_month_days (by rintro ds d ⟨y, m, hp, rfl, rfl⟩; rfl) fun cdv A outer s H E hr => ?_
  have hu66 := room66 hr
  have hu := hr.units
  have hu1 := Nat.lt_of_le_of_lt (Nat.add_le_add_left (show 1 ≤ 64 by decide) _) hu
  have nd := sc_month_days.nd
  have hg_MONTHS := T.g_MONTHS.d
  refine ⟨_, (pss_cons (ps_if (PW.pt (pw_and (pt_cmpR (ok_eqA (K := K) rfl hu) (pv 1) pe_int (nomark _)) (pw_and1 (pt_cmpR (ok_eqA (K := K) rfl hu) (pe_op op_modI (pv 0) pe_int) pe_int (nomark _))))) (pss_one (ps_ret pe_int)) pss_nil)
    (pss_one (ps_ret (pe_ix (kx_seq (K := K) rfl) (pe_gdat T.g_MONTHS rfl) (pe_op op_subI (pv 1) pe_int) (fun _ _ => rfl))))), ?_⟩
  clear hr hu hu1 hu66 nd F
  rintro ds d ⟨y, m, hp, rfl, rfl⟩
  show WpD _ _ _ [.dat (.int y), .dat (.int m)] _
  k_offL
  · rename_i h; unfold monthDays; rw [if_pos h]
  · rename_i h
    have h' : ¬ (m = 2 ∧ y % 4 = 0) := by simpa using h
    unfold monthDays; rw [if_neg h']; rfl
end
section

theorem ok_date_of {P : Program} {w : World} {K : PySem.W.Frag} {mg : Str → Option Value} {base : Heap} {a_MONTHS a_BEARING C_HourError C_NoRule C_NoName C_Taken C_Stranger C_Twice C_NoTime C_NoMeeting C_Clash C_Book : Addr} (T : Txt K mg a_MONTHS a_BEARING C_HourError C_NoRule C_NoName C_Taken C_Stranger C_Twice C_NoTime C_NoMeeting C_Clash C_Book)
    (c_month_days : FnB P w K mg base CX0 1 "month_days" ["year", "month"] (spV K R_month_days)) :
    FnB P w K mg base CX0 2 "date_of" ["day"] (spV K R_date_of) := by
  refine T.t_date_of.ok (fun _ _ _ _ _ _ us hl => match us, hl with | [_], _ => rfl) fun f fd F => fn_ok F sc_date_of (by rintro ds d ⟨d0, hp, rfl, rfl⟩; rfl) fun cdv A outer s H E hr => ?_
  have hu66 := room66 hr
  have hu := hr.units
  have hu1 := Nat.lt_of_le_of_lt (Nat.add_le_add_left (show 1 ≤ 64 by decide) _) hu
  have nd := sc_date_of.nd
  refine ⟨_, (pss_cons (ps_set (i := 1) nd rfl (by first | exact Or.inl rfl | exact Or.inr rfl) (pe_op op_mulI (pe_op op_divI (pv 0) (pe_gint T.g_FOUR_YEARS rfl)) pe_int))
    (pss_cons (ps_set (i := 2) nd rfl (by first | exact Or.inl rfl | exact Or.inr rfl) (pe_op op_modI (pv 0) (pe_gint T.g_FOUR_YEARS rfl)))
    (pss_cons (ps_if (pt_cmpR op_geI (pv 2) pe_int (nomark _)) (pss_cons (ps_set (i := 1) nd rfl (by first | exact Or.inl rfl | exact Or.inr rfl) (pe_op (ok_addA (K := K) rfl) (pe_op (ok_addA (K := K) rfl) (pv 1) pe_int) (pe_op op_divI (pe_op op_subI (pv 2) pe_int) pe_int)))
    (pss_one (ps_set (i := 2) nd rfl (by first | exact Or.inl rfl | exact Or.inr rfl) (pe_op op_modI (pe_op op_subI (pv 2) pe_int) pe_int)))) pss_nil)
    (pss_cons (ps_set (i := 3) nd rfl (by first | exact Or.inl rfl | exact Or.inr rfl) pe_int)
    (pss_cons (ps_while PassesOwn.never (pt_cmpR op_geI (pv 2) (pe_callF c_month_days (hr.mono (by decide)) rfl pass0 (pa_cons (pv 1) (pa_cons (pv 3) pa_nil))) (nomark _)) (pss_cons (ps_set (i := 2) nd rfl (by first | exact Or.inl rfl | exact Or.inr rfl) (pe_op op_subI (pv 2) (pe_callF c_month_days (hr.mono (by decide)) rfl pass0 (pa_cons (pv 1) (pa_cons (pv 3) pa_nil)))))
    (pss_one (ps_set (i := 3) nd rfl (by first | exact Or.inl rfl | exact Or.inr rfl) (pe_op (ok_addA (K := K) rfl) (pv 3) pe_int)))))
    (pss_one (ps_ret (pe_tup (pa_cons (pv 1) (pa_cons (pv 3) (pa_cons (pe_op (ok_addA (K := K) rfl) (pv 2) pe_int) pa_nil))))))))))), ?_⟩
  clear hr hu hu1 hu66 nd F c_month_days
  rintro ds d ⟨d0, hp, rfl, rfl⟩
  show WpD _ _ _ [.dat (.int d0), .no, .no, .no] _
  have sp := yd_spec d0
  have go : ∀ (W : WX) (ts tb : TS) (tt : TT) (P : Post), 
      (∀ (r m : Int), 1 ≤ m → m ≤ 12 → EvT (.pure K) tt [.dat (.int d0), .dat (.int (yr d0)), .dat (.int r), .dat (.int m)] (decide (monthDays (yr d0) m ≤ r))) →
      (∀ (r m : Int) (Q : Post), 1 ≤ m → m ≤ 12 → Q.nx [.dat (.int d0), .dat (.int (yr d0)), .dat (.int (r - monthDays (yr d0) m)), .dat (.int (m + 1))] → WpD (.pure K) W tb [.dat (.int d0), .dat (.int (yr d0)), .dat (.int r), .dat (.int m)] Q) →
      P.nx [.dat (.int d0), .dat (.int (yr d0)), .dat (.int (dn d0 - 1)), .dat (.int (mn d0))] →
      WpD (.pure K) W (tWhile tt tb) [.dat (.int d0), .dat (.int (yr d0)), .dat (.int (yd d0)), .dat (.int 1)] P := by
    intro W ts tb tt P ht hb hP
    refine wp_while (fun n Γ' => ∃ r m, m + (n : Int) = 13 ∧ 1 ≤ m ∧ 0 ≤ r ∧ r + cum (yr d0) m < cum (yr d0) 13 ∧ dateGo n (yr d0) r m = (mn d0, dn d0 - 1) ∧ Γ' = [.dat (.int d0), .dat (.int (yr d0)), .dat (.int r), .dat (.int m)]) 12
      ⟨yd d0, 1, rfl, by omega, sp.1, by rw [cum_one]; omega, by unfold mn dn; simp, rfl⟩ ?_
    rintro n _ ⟨r, m, hn, h1, h2, h3, hg, rfl⟩
    have hm : m ≤ 12 := by
      rcases Int.lt_or_le 12 m with h | h
      · have : m = 13 := by omega
        subst this; omega
      · exact h
    obtain ⟨k, rfl⟩ : ∃ k, n = k + 1 := ⟨n - 1, by omega⟩
    have hs := cum_step (yr d0) h1 hm
    refine ⟨_, ht r m h1 hm, fun hb' => hb r m _ h1 hm ?_, fun hb' => ?_⟩
    · have hle : monthDays (yr d0) m ≤ r := of_decide_eq_true hb'
      unfold dateGo at hg
      rw [if_pos hle] at hg
      exact ⟨k, by omega, r - monthDays (yr d0) m, m + 1, by omega, by omega, by omega, by omega, hg, rfl⟩
    · have hle : ¬ monthDays (yr d0) m ≤ r := of_decide_eq_false hb'
      unfold dateGo at hg
      rw [if_neg hle] at hg
      have e1 : m = mn d0 := congrArg (·.1) hg
      have e2 : r = dn d0 - 1 := congrArg (·.2) hg
      rw [e1, e2]; exact hP
  k_offL
  · rename_i h
    have ey : d0 / 1461 * 4 + 1 + (d0 % 1461 - 366) / 365 = yr d0 := by unfold yr; rw [if_pos h]
    have er : (d0 % 1461 - 366) % 365 = yd d0 := by unfold yd; rw [if_pos h]
    rw [ey, er]
    refine go _ tNext _ _ _ (fun r m h1 h2 => ?_) (fun r m Q h1 h2 hQ => ?_) ?_ <;> k_offL
    · exact hQ
    · show PyData.tuple [.int (yr d0), .int (mn d0), .int (dn d0 - 1 + 1)] = _
      rw [Int.sub_add_cancel]
  · rename_i h
    have h' : ¬ 366 ≤ d0 % 1461 := by omega
    have ey : d0 / 1461 * 4 = yr d0 := by unfold yr; rw [if_neg h']
    have er : d0 % 1461 = yd d0 := by unfold yd; rw [if_neg h']
    rw [ey, er]
    refine go _ tNext _ _ _ (fun r m h1 h2 => ?_) (fun r m Q h1 h2 hQ => ?_) ?_ <;> k_offL
    · exact hQ
    · show PyData.tuple [.int (yr d0), .int (mn d0), .int (dn d0 - 1 + 1)] = _
      rw [Int.sub_add_cancel]
end
section

theorem ok_from_end {P : Program} {w : World} {K : PySem.W.Frag} {mg : Str → Option Value} {base : Heap} {a_MONTHS a_BEARING C_HourError C_NoRule C_NoName C_Taken C_Stranger C_Twice C_NoTime C_NoMeeting C_Clash C_Book : Addr} (T : Txt K mg a_MONTHS a_BEARING C_HourError C_NoRule C_NoName C_Taken C_Stranger C_Twice C_NoTime C_NoMeeting C_Clash C_Book)
    (c_date_of : FnB P w K mg base CX0 2 "date_of" ["day"] (spV K R_date_of))
    (c_month_days : FnB P w K mg base CX0 1 "month_days" ["year", "month"] (spV K R_month_days)) :
    FnB P w K mg base CX0 3 "from_end" ["day"] (spV K R_from_end) := by
  refine T.t_from_end.ok (fun _ _ _ _ _ _ us hl => match us, hl with | [_], _ => rfl) fun f fd F => fn_ok F sc_from_end (by rintro ds d ⟨d0, hp, rfl, rfl⟩; rfl) fun cdv A outer s H E hr => ?_
  have hu66 := room66 hr
  have hu := hr.units
  have hu1 := Nat.lt_of_le_of_lt (Nat.add_le_add_left (show 1 ≤ 64 by decide) _) hu
  have nd := sc_from_end.nd
  refine ⟨_, (pss_cons (ps_set (i := 1) nd rfl (by first | exact Or.inl rfl | exact Or.inr rfl) (pe_callF c_date_of (hr.mono (by decide)) rfl pass0 (pa_cons (pv 0) pa_nil)))
    (pss_one (ps_ret (pe_op op_subI (pe_op op_subI (pe_ix (kx_seq (K := K) rfl) (pv 1) pe_int (fun _ _ => rfl)) pe_int) (pe_callF c_month_days (hr.mono (by decide)) rfl pass0 (pa_cons (pe_ix (kx_seq (K := K) rfl) (pv 1) pe_int (fun _ _ => rfl)) (pa_cons (pe_ix (kx_seq (K := K) rfl) (pv 1) pe_int (fun _ _ => rfl)) pa_nil))))))), ?_⟩
  clear hr hu hu1 hu66 nd F c_date_of c_month_days
  rintro ds d ⟨d0, hp, rfl, rfl⟩
  show WpD _ _ _ [.dat (.int d0), .no] _
  have sp := mn_spec d0
  k_offL
end
section

theorem ok_plain_begins {P : Program} {w : World} {K : PySem.W.Frag} {mg : Str → Option Value} {base : Heap} {a_MONTHS a_BEARING C_HourError C_NoRule C_NoName C_Taken C_Stranger C_Twice C_NoTime C_NoMeeting C_Clash C_Book : Addr} (T : Txt K mg a_MONTHS a_BEARING C_HourError C_NoRule C_NoName C_Taken C_Stranger C_Twice C_NoTime C_NoMeeting C_Clash C_Book)
    (c_from_end : FnB P w K mg base CX0 3 "from_end" ["day"] (spV K R_from_end))
    (c_date_of : FnB P w K mg base CX0 2 "date_of" ["day"] (spV K R_date_of)) :
    FnB P w K mg base CX0 4 "plain_begins" ["rule", "hour"] (spV K R_plain_begins) := by
  refine T.t_plain_begins.ok (fun _ _ _ _ _ _ us hl => match us, hl with | [_, _], _ => rfl) fun f fd F => fn_ok F sc_plain_begins (by rintro ds d ⟨r, x, hp, rfl, rfl⟩; rfl) fun cdv A outer s H E hr => ?_
  have hu66 := room66 hr
  have hu := hr.units
  have hu1 := Nat.lt_of_le_of_lt (Nat.add_le_add_left (show 1 ≤ 64 by decide) _) hu
  have nd := sc_plain_begins.nd
  refine ⟨_, (pss_cons (ps_if (pt_cmpR (ok_eqA (K := K) rfl hu) (pe_ix (kx_seq (K := K) rfl) (pv 0) pe_int (fun _ _ => rfl)) pe_str (nomark _)) (pss_one (ps_ret (pe_cmpR (ok_eqA (K := K) rfl hu) (pv 1) (pe_ix (kx_seq (K := K) rfl) (pv 0) pe_int (fun _ _ => rfl)) (nomark _)))) pss_nil)
    (pss_cons (ps_if (pt_cmpR (ok_eqA (K := K) rfl hu) (pe_ix (kx_seq (K := K) rfl) (pv 0) pe_int (fun _ _ => rfl)) pe_str (nomark _)) (pss_one (ps_ret (pe_and (pe_cmpR op_geI (pv 1) (pe_ix (kx_seq (K := K) rfl) (pv 0) pe_int (fun _ _ => rfl)) (nomark _)) (pe_one (pe_cmpR (ok_eqA (K := K) rfl hu) (pe_op op_modI (pe_op op_subI (pv 1) (pe_ix (kx_seq (K := K) rfl) (pv 0) pe_int (fun _ _ => rfl))) (pe_ix (kx_seq (K := K) rfl) (pv 0) pe_int (fun _ _ => rfl))) pe_int (nomark _)))))) pss_nil)
    (pss_cons (ps_if (pt_cmpR (ok_neA (K := K) rfl hu) (pe_op op_modI (pv 1) pe_int) (pe_ix (kx_seq (K := K) rfl) (pv 0) pe_int (fun _ _ => rfl)) (nomark _)) (pss_one (ps_ret pe_bl)) pss_nil)
    (pss_cons (ps_if (pt_cmpR (ok_eqA (K := K) rfl hu) (pe_ix (kx_seq (K := K) rfl) (pv 0) pe_int (fun _ _ => rfl)) pe_str (nomark _)) (pss_one (ps_ret (pe_cmpR (ok_inA (K := K) rfl) (pe_op op_modI (pe_op op_divI (pv 1) pe_int) pe_int) (pe_ix (kx_seq (K := K) rfl) (pv 0) pe_int (fun _ _ => rfl)) rfl))) pss_nil)
    (pss_cons (ps_if (pt_cmpR op_ltI (pe_ix (kx_seq (K := K) rfl) (pv 0) pe_int (fun _ _ => rfl)) pe_int (nomark _)) (pss_one (ps_ret (pe_cmpR (ok_eqA (K := K) rfl hu) (pe_callF c_from_end (hr.mono (by decide)) rfl pass0 (pa_cons (pe_op op_divI (pv 1) pe_int) pa_nil)) (pe_ix (kx_seq (K := K) rfl) (pv 0) pe_int (fun _ _ => rfl)) (nomark _)))) pss_nil)
    (pss_one (ps_ret (pe_cmpR (ok_eqA (K := K) rfl hu) (pe_ix (kx_seq (K := K) rfl) (pe_callF c_date_of (hr.mono (by decide)) rfl pass0 (pa_cons (pe_op op_divI (pv 1) pe_int) pa_nil)) pe_int (fun _ _ => rfl)) (pe_ix (kx_seq (K := K) rfl) (pv 0) pe_int (fun _ _ => rfl)) (nomark _))))))))), ?_⟩
  clear hr hu hu1 hu66 nd F c_from_end c_date_of
  rintro ds d ⟨r, x, hp, rfl, rfl⟩
  show WpD _ _ _ [.dat (toD r), .dat (.int x)] _
  obtain ⟨hp, ho⟩ := hp
  cases r <;> first | (exfalso; revert hp; simp; done) | simp only [toD, Ok] at *
  all_goals k_offL
  all_goals have sd := dn_sides (x / 24)
  all_goals simp_all
  all_goals (rw [← Bool.decide_or]; exact decide_eq_decide.mpr (by omega))
end
section

theorem ok_begins {P : Program} {w : World} {K : PySem.W.Frag} {mg : Str → Option Value} {base : Heap} {a_MONTHS a_BEARING C_HourError C_NoRule C_NoName C_Taken C_Stranger C_Twice C_NoTime C_NoMeeting C_Clash C_Book : Addr} (T : Txt K mg a_MONTHS a_BEARING C_HourError C_NoRule C_NoName C_Taken C_Stranger C_Twice C_NoTime C_NoMeeting C_Clash C_Book)
    (c_plain_begins : FnB P w K mg base CX0 4 "plain_begins" ["rule", "hour"] (spV K R_plain_begins)) :
    FnB P w K mg base CX0 5 "begins" ["rule", "hour"] (spV K R_begins) := by
  refine T.t_begins.ok (fun _ _ _ _ _ _ us hl => match us, hl with | [_, _], _ => rfl) fun f fd F => fn_ok F sc_begins (by rintro ds d ⟨r, x, hp, rfl, rfl⟩; rfl) fun cdv A outer s H E hr => ?_
  have hu66 := room66 hr
  have hu := hr.units
  have hu1 := Nat.lt_of_le_of_lt (Nat.add_le_add_left (show 1 ≤ 64 by decide) _) hu
  have nd := sc_begins.nd
  have hg_BEARING := T.g_BEARING.d
  refine ⟨_, (pss_cons (ps_if (pt_cmpR op_ltI (pv 1) pe_int (nomark _)) (pss_one (ps_ret pe_bl)) pss_nil)
    (pss_cons (ps_while PassesOwn.never (pt_cmpR (ok_inA (K := K) rfl) (pe_ix (kx_seq (K := K) rfl) (pv 0) pe_int (fun _ _ => rfl)) (pe_gdat T.g_BEARING rfl) rfl) (pss_cons (ps_if (PW.pt (pw_or (PW.pt (pw_and (pt_cmpR (ok_eqA (K := K) rfl hu) (pe_ix (kx_seq (K := K) rfl) (pv 0) pe_int (fun _ _ => rfl)) pe_str (nomark _)) (pw_and1 (pt_cmpR op_ltI (pv 1) (pe_ix (kx_seq (K := K) rfl) (pv 0) pe_int (fun _ _ => rfl)) (nomark _))))) (pw_or1 (PW.pt (pw_and (pt_cmpR (ok_eqA (K := K) rfl hu) (pe_ix (kx_seq (K := K) rfl) (pv 0) pe_int (fun _ _ => rfl)) pe_str (nomark _)) (pw_and1 (pt_cmpR op_geI (pv 1) (pe_ix (kx_seq (K := K) rfl) (pv 0) pe_int (fun _ _ => rfl)) (nomark _)))))))) (pss_one (ps_ret pe_bl)) pss_nil)
    (pss_cons (ps_if (PW.pt (pw_and (pt_cmpR (ok_eqA (K := K) rfl hu) (pe_ix (kx_seq (K := K) rfl) (pv 0) pe_int (fun _ _ => rfl)) pe_str (nomark _)) (pw_and1 (pt_cmpR (ok_eqA (K := K) rfl hu) (pv 1) (pe_ix (kx_seq (K := K) rfl) (pv 0) pe_int (fun _ _ => rfl)) (nomark _))))) (pss_one (ps_ret pe_bl)) pss_nil)
    (pss_cons (ps_if (PW.pt (pw_and (pt_cmpR (ok_eqA (K := K) rfl hu) (pe_ix (kx_seq (K := K) rfl) (pv 0) pe_int (fun _ _ => rfl)) pe_str (nomark _)) (pw_and1 (pt_cmpR (ok_inA (K := K) rfl) (pe_op op_divI (pv 1) pe_int) (pe_ix (kx_seq (K := K) rfl) (pv 0) pe_int (fun _ _ => rfl)) rfl)))) (pss_one (ps_ret pe_bl)) pss_nil)
    (pss_one (ps_set (i := 0) nd rfl (by first | exact Or.inl rfl | exact Or.inr rfl) (pe_ix (kx_seq (K := K) rfl) (pv 0) pe_int (fun _ _ => rfl))))))))
    (pss_one (ps_ret (pe_callF c_plain_begins (hr.mono (by decide)) rfl pass0 (pa_cons (pv 0) (pa_cons (pv 1) pa_nil))))))), ?_⟩
  clear hr hu hu1 hu66 nd F c_plain_begins
  rintro ds d ⟨r, x, hp, rfl, rfl⟩
  show WpD _ _ _ [.dat (toD r), .dat (.int x)] _
  refine wp_seq (wp_if (b := decide (x < 0)) ?_ (fun h => ?_) fun h => ?_)
  · k_clsL
  · have h := of_decide_eq_true h
    have e : begins r x = false := by unfold begins; rw [decide_eq_false (by omega)]; rfl
    rw [e]; k_offL
  have h := of_decide_eq_false h
  have e : begins r x = beg r x := by unfold begins; rw [decide_eq_true (by omega)]; rfl
  rw [e]
  refine wp_next ?_
  dsimp only
  refine wp_seq (wp_wh (fun n Γ' => ∃ q, beg q x = beg r x ∧ Ok q ∧ depth q = n ∧ Γ' = [.dat (toD q), .dat (.int x)]) (depth r) ⟨r, rfl, hp, rfl, rfl⟩ ?_)
  rintro _ _ ⟨q, hq, ho, rfl, rfl⟩
  rw [← hq]
  cases q
  iterate 4
    exact wh_mk (b := false) (by simp only [toD]; k_clsL) (fun z => by cases z) fun _ => wp_ret (v_plain_begins (ea_cons (ev_var rfl) (ea_cons (ev_var rfl) ea_nil)) ⟨rfl, ho⟩) rfl
  all_goals
    simp only [toD, beg, Ok] at *
    k_offL
  all_goals first | (simp_all; done) | (refine ⟨_, Nat.lt_succ_self _, _, ?_, ho, rfl, rfl⟩; simp_all; done) | (rename_i hh; simp at hh ⊢; intros; omega)
end
section

theorem ok_covers {P : Program} {w : World} {K : PySem.W.Frag} {mg : Str → Option Value} {base : Heap} {a_MONTHS a_BEARING C_HourError C_NoRule C_NoName C_Taken C_Stranger C_Twice C_NoTime C_NoMeeting C_Clash C_Book : Addr} (T : Txt K mg a_MONTHS a_BEARING C_HourError C_NoRule C_NoName C_Taken C_Stranger C_Twice C_NoTime C_NoMeeting C_Clash C_Book)
    (c_length_of : FnB P w K mg base CX0 2 "length_of" ["rule"] (spV K R_length_of))
    (c_begins : FnB P w K mg base CX0 5 "begins" ["rule", "hour"] (spV K R_begins)) :
    FnB P w K mg base CX0 6 "covers" ["rule", "hour"] (spV K R_covers) := by
  refine T.t_covers.ok (fun _ _ _ _ _ _ us hl => match us, hl with | [_, _], _ => rfl) fun f fd F => fn_ok F sc_covers (by rintro ds d ⟨r, x, hp, rfl, rfl⟩; rfl) fun cdv A outer s H E hr => ?_
  have hu66 := room66 hr
  have hu := hr.units
  have hu1 := Nat.lt_of_le_of_lt (Nat.add_le_add_left (show 1 ≤ 64 by decide) _) hu
  have nd := sc_covers.nd
  refine ⟨_, (pss_cons (ps_for PassesOwn.never rfl (pi_range1 rfl T.b_range (pa_cons (pe_callF c_length_of (hr.mono (by decide)) rfl pass0 (pa_cons (pv 0) pa_nil)) pa_nil)) (pg_name (i := 2) nd rfl (by first | exact Or.inl rfl | exact Or.inr rfl)) (pss_one (ps_if (pt_val (pe_callF c_begins (hr.mono (by decide)) rfl pass0 (pa_cons (pv 0) (pa_cons (pe_op op_subI (pv 1) (pv 2)) pa_nil)))) (pss_one (ps_ret pe_bl)) pss_nil)))
    (pss_one (ps_ret pe_bl))), ?_⟩
  clear hr hu hu1 hu66 nd F c_length_of c_begins
  rintro ds d ⟨r, x, hp, rfl, rfl⟩
  show WpD _ _ _ [.dat (toD r), .dat (.int x), .no] _
  obtain ⟨ho, h1, h2⟩ := hp
  refine wp_seq (wp_forn (xs := (List.range (size r).toNat).map fun k : Nat => .int (0 + (k : Int))) (fun i Γ' => ∃ e, (∀ k, k < i → begins r (x - (0 + (k : Int))) = false) ∧ Γ' = [.dat (toD r), .dat (.int x), e]) (w_rng1 (n := size r) ?_ ⟨by omega⟩ ⟨by omega⟩) ⟨_, (fun k hk => absurd hk (Nat.not_lt_zero k)), rfl⟩ ?_ ?_)
  · k_clsL
  · rintro i y _ hx ⟨e, hb, rfl⟩
    have hi := (List.getElem?_eq_some_iff.mp hx).1
    rw [List.length_map, List.length_range] at hi
    rw [List.getElem?_map, List.getElem?_range hi] at hx
    obtain rfl := Option.some.inj hx
    k_offL
    · rename_i hc
      show PyData.bool true = PyData.bool (covers r x)
      have : covers r x = true := List.any_eq_true.mpr ⟨i, List.mem_range.mpr hi, hc⟩
      rw [this]
    · rename_i hc
      refine ⟨_, fun k hk => ?_, rfl⟩
      rcases Nat.lt_succ_iff_lt_or_eq.mp hk with h | rfl
      · exact hb k h
      · exact hc
  rintro _ ⟨e, hb, rfl⟩
  rw [List.length_map, List.length_range] at hb
  have : covers r x = false := List.any_eq_false.mpr fun k hk => by rw [hb k (List.mem_range.mp hk)]; simp
  rw [this]
  k_offL
end
section

theorem ok_Book_busy {P : Program} {w : World} {K : PySem.W.Frag} {mg : Str → Option Value} {base : Heap} {a_MONTHS a_BEARING C_HourError C_NoRule C_NoName C_Taken C_Stranger C_Twice C_NoTime C_NoMeeting C_Clash C_Book : Addr} (T : Txt K mg a_MONTHS a_BEARING C_HourError C_NoRule C_NoName C_Taken C_Stranger C_Twice C_NoTime C_NoMeeting C_Clash C_Book)
    (c_Book_need : MtB P w K mg base CX0 1 C_Book "need" ["self", "name"] (spW (uw K) (R_Book_need C_Book)))
    (c_is_rule : FnB P w K mg base CX0 5 "is_rule" ["thing"] (spV K R_is_rule))
    (c_covers : FnB P w K mg base CX0 6 "covers" ["rule", "hour"] (spV K R_covers)) :
    MtB P w K mg base CX0 7 C_Book "busy" ["self", "name", "rule"] (spW (uw K) (R_Book_busy C_Book)) := by
  refine T.t_Book_busy.ok (fun _ _ _ _ _ _ us hl => match us, hl with | [_, _, _], _ => rfl) fun f fd F => fn_okW F sc_Book_busy (by rintro es s0 O ⟨s, b, p, r, hp, rfl, rfl, rfl⟩; rfl) fun cdv A outer s H E hr => ?_
  have hu66 := room66 hr
  have hu := hr.units
  have hu1 := Nat.lt_of_le_of_lt (Nat.add_le_add_left (show 1 ≤ 64 by decide) _) hu
  have nd := sc_Book_busy.nd
  refine ⟨_, (pss_cons (ps_expr (pe_methB T.cl_Book c_Book_need (hr.mono (by decide)) (pv 0) pass0 (pa_cons (pv 1) pa_nil)))
    (pss_cons (ps_if (PW.pt (pw_or (pt_not (pt_val (pe_callF c_is_rule (hr.mono (by decide)) rfl pass0 (pa_cons (pv 2) pa_nil)))) (pw_or1 (pt_cmpR op_geI (pe_callB (kc_len (K := K) rfl) rfl T.b_len bb_len (pa_cons (pe_ix (kx_seq (K := K) rfl) (pe_dget hu1 (kpe_fld (K := K) rfl (pv 0)) (pv 1) (fun _ _ => rfl)) pe_int (fun _ _ => rfl)) pa_nil)) (pe_gint T.g_MOST_RULES rfl) (nomark _))))) (pss_one L2.ps_never) pss_nil)
    (pss_cons (ps_for PassesOwn.never rfl (ki_any (K := K) rfl (kpe_fld (K := K) rfl (pv 0))) (pg_name (i := 3) nd rfl (by first | exact Or.inl rfl | exact Or.inr rfl)) (pss_one (ps_if (pt_cmpR (ok_inA (K := K) rfl) (pv 1) (pe_ix (kx_seq (K := K) rfl) (pv 3) pe_int (fun _ _ => rfl)) rfl) (pss_one (ps_for PassesOwn.never rfl (pi_range2 rfl T.b_range (pa_cons (pe_ix (kx_seq (K := K) rfl) (pv 3) pe_int (fun _ _ => rfl)) (pa_cons (pe_op (ok_addA (K := K) rfl) (pe_ix (kx_seq (K := K) rfl) (pv 3) pe_int (fun _ _ => rfl)) (pe_ix (kx_seq (K := K) rfl) (pv 3) pe_int (fun _ _ => rfl))) pa_nil))) (pg_name (i := 4) nd rfl (by first | exact Or.inl rfl | exact Or.inr rfl)) (pss_one (ps_if (pt_val (pe_callF c_covers (hr.mono (by decide)) rfl pass0 (pa_cons (pv 2) (pa_cons (pv 4) pa_nil)))) (pss_one L2.ps_never) pss_nil)))) pss_nil)))
    (pss_one (ps_expr (kpe_app (K := K) rfl (pe_ix (kx_seq (K := K) rfl) (pe_dget hu1 (kpe_fld (K := K) rfl (pv 0)) (pv 1) (fun _ _ => rfl)) pe_int (fun _ _ => rfl)) (pv 2))))))), ?_⟩
  clear hr hu hu1 hu66 nd F c_Book_need c_is_rule c_covers
  rintro es s0 O ⟨s, b, p, r, hp, rfl, rfl, rfl⟩
  show WpW _ _ _ [.val (.ref b.a), .dat (.str p.name), .dat (toD r), .no, .no] (s) _
  obtain ⟨hb, hp, hg, hl, hno⟩ := hp
  have hU := (hb.pu p hp).ls (K := K)
  have hE : ∀ Γ : List Ent, Γ[0]? = some (.val (.ref b.a)) → Γ[1]? = some (.dat (.str p.name)) → EvE ((uw K).g s) (tOp (rIx K) (tDGet (tFld K (tVar 0) "known") (tVar 1)) (tC (.int 1))) Γ (.val (.ref p.u)) := fun Γ h1 h2 => ee_bz hb hp (ee_pers hb hp T.cl_Book T.na_known (ee_val h1) (ev_var h2))
  refine ww_seq (ww_pure (wp_drop (v_Book_need (ee_val rfl) (eae_cons (ee_dat (ev_var rfl)) eae_nil) ⟨hb, hp⟩) ?_))
  dsimp only
  refine ww_seq (ww_pure (wp_if (b := false) (et_to (et_or (a := !ruleB 8 (toD r)) (b := decide ((20 : Int) ≤ (p.bz.map toD).length)) (et_not (et_test (by k_clsL))) fun _ => et_test (ev_op (ed_llen (hE _ rfl rfl) hU) (by k_clsL) od_ge)) ?_) (fun z => by cases z) fun _ => wp_next ?_))
  · rw [ruleB_good 8 hg.1 hg.2, List.length_map, decide_eq_false (by omega)]; rfl
  dsimp only
  refine ww_seq (ww_cut (fun Γ' s' => ∃ e3 e4, s' = s ∧ Γ' = [.val (.ref b.a), .dat (.str p.name), .dat (toD r), e3, e4]) (ww_pure ?_) ?_)
  · refine wp_forn (xs := b.mt.map Meet.d) (fun i Γ' => ∃ e3 e4, Γ' = [.val (.ref b.a), .dat (.str p.name), .dat (toD r), e3, e4]) (it_cell (ee_booked hb T.cl_Book T.na_booked (ee_val rfl)) (hb.bo.ls (K := K))) ⟨_, _, rfl⟩ ?_ ?_
    · rintro i d _ hx ⟨e3, e4, rfl⟩
      rw [List.getElem?_map] at hx
      obtain ⟨m, hm, rfl⟩ := Option.map_eq_some_iff.mp hx
      have hmm := List.mem_of_getElem? hm
      have hmo := hb.mok m hmm
      obtain ⟨m1, m2, m3, m4⟩ := hmo
      dsimp only [List.set_cons_succ, List.set_cons_zero]
      refine wp_if (b := decide (p.name ∈ m.who)) (et_test (by k_clsL)) (fun h1 => ?_) fun _ => wp_next ⟨_, _, rfl⟩
      refine wp_forn (xs := (List.range (m.at_ + m.hrs - m.at_).toNat).map fun k : Nat => .int (m.at_ + (k : Int))) (fun i Γ' => ∃ e4, Γ' = [.val (.ref b.a), .dat (.str p.name), .dat (toD r), .dat m.d, e4]) (w_rng2 (n := m.at_ + m.hrs) ?_ ⟨by omega⟩ ⟨by omega⟩ ⟨by omega⟩ ⟨by omega⟩) ⟨_, rfl⟩ ?_ ?_
      · k_clsL
      · rintro j d _ hx ⟨e4, rfl⟩
        have hj := (List.getElem?_eq_some_iff.mp hx).1
        rw [List.length_map, List.length_range] at hj
        rw [List.getElem?_map, List.getElem?_range hj] at hx
        obtain rfl := Option.some.inj hx
        have g := hg.1.cov
        dsimp only [List.set_cons_succ, List.set_cons_zero]
        refine wp_if (b := covers r (m.at_ + (j : Int))) (et_test (by k_clsL)) (fun z => ?_) fun _ => wp_next ⟨_, rfl⟩
        rw [hno m hmm (of_decide_eq_true h1) _ (by omega) (by omega)] at z
        cases z
      · rintro _ ⟨e4, rfl⟩
        exact ⟨_, _, rfl⟩
    · rintro _ ⟨e3, e4, rfl⟩
      exact ⟨_, _, rfl, rfl⟩
  rintro _ _ ⟨e3, e4, rfl, rfl⟩
  refine ww_app (hE _ rfl rfl) (hb.pu p hp).c (ev_var rfl) (hb.pu p hp).r (by rw [List.length_map]; omega) fun v => ?_
  obtain ⟨h1, h2⟩ := hb.busy hp v hg hl
  exact ⟨_, v, rfl, h1, h2⟩
end
section

theorem ok__law_book_of {P : Program} {w : World} {K : PySem.W.Frag} {mg : Str → Option Value} {base : Heap} {a_MONTHS a_BEARING C_HourError C_NoRule C_NoName C_Taken C_Stranger C_Twice C_NoTime C_NoMeeting C_Clash C_Book : Addr} (T : Txt K mg a_MONTHS a_BEARING C_HourError C_NoRule C_NoName C_Taken C_Stranger C_Twice C_NoTime C_NoMeeting C_Clash C_Book)
    (c_Book_init : MkB P w K mg base CX0 1 C_Book "Book" ["self"] (spW (uw K) (R_Book_init C_Book)))
    (c_Book_come : MtB P w K mg base CX0 6 C_Book "come" ["self", "name", "free"] (spW (uw K) (R_Book_come C_Book)))
    (c_Book_busy : MtB P w K mg base CX0 7 C_Book "busy" ["self", "name", "rule"] (spW (uw K) (R_Book_busy C_Book))) :
    FnB P w K mg base CX0 8 "_law_book_of" ["_law_people"] (spW (uw K) (R__law_book_of C_Book)) := by
  refine T.t__law_book_of.ok (fun _ _ _ _ _ _ us hl => match us, hl with | [_], _ => rfl) fun f fd F => fn_okW F sc__law_book_of (by rintro es s0 O ⟨s, q, xs, hp, rfl, rfl, rfl⟩; rfl) fun cdv A outer s H E hr => ?_
  have hu66 := room66 hr
  have hu := hr.units
  have hu1 := Nat.lt_of_le_of_lt (Nat.add_le_add_left (show 1 ≤ 64 by decide) _) hu
  have nd := sc__law_book_of.nd
  refine ⟨_, (pss_cons (ps_set (i := 1) nd rfl (by first | exact Or.inl rfl | exact Or.inr rfl) (pe_makeB0 c_Book_init (hr.mono (by decide)) rfl pass0))
    (pss_cons (ps_for PassesOwn.never rfl (ki_any (K := K) rfl (pv 0)) (pg_name (i := 2) nd rfl (by first | exact Or.inl rfl | exact Or.inr rfl)) (pss_cons (ps_expr (pe_methB T.cl_Book c_Book_come (hr.mono (by decide)) (pv 1) pass0 (pa_cons (pe_ix (kx_seq (K := K) rfl) (pv 2) pe_int (fun _ _ => rfl)) (pa_cons (pe_callTy (kc_list (K := K) rfl) rfl T.b_list bb_list (pa_cons (pe_ix (kx_seq (K := K) rfl) (pv 2) pe_int (fun _ _ => rfl)) pa_nil)) pa_nil))))
    (pss_one (ps_for PassesOwn.never rfl (ki_any (K := K) rfl (pe_ix (kx_seq (K := K) rfl) (pv 2) pe_int (fun _ _ => rfl))) (pg_name (i := 3) nd rfl (by first | exact Or.inl rfl | exact Or.inr rfl)) (pss_one (ps_expr (pe_methB T.cl_Book c_Book_busy (hr.mono (by decide)) (pv 1) pass0 (pa_cons (pe_ix (kx_seq (K := K) rfl) (pv 2) pe_int (fun _ _ => rfl)) (pa_cons (pv 3) pa_nil)))))))))
    (pss_one (ps_ret (pv 1))))), ?_⟩
  clear hr hu hu1 hu66 nd F c_Book_init c_Book_come c_Book_busy
  rintro es s0 O ⟨s, q, xs, hp, rfl, rfl, rfl⟩
  show WpW _ _ _ [.val (.ref q), .no, .no, .no] (s) _
  obtain ⟨hpe, hnd, hok, hlen⟩ := hp
  refine ww_seq (ww_asg (ew_make (N0 := fun e s2 => ∃ b, e = .val (.ref b.a) ∧ BkAt C_Book s2 b ∧ b.ps = [] ∧ b.mt = [] ∧ b.given = 0 ∧ Keeps s s2 [] ∧ ∀ x ∈ b.adr, x ∉ s.foot) fun a dx ha => ⟨_, ⟨_, a, dx, List.mem_cons_self, rfl, rfl, rfl⟩, ?_⟩) ?_)
  · rintro _ ⟨s2, b, rfl, hb, e1, e2, e3, e4, hk, hf⟩
    refine ⟨s2, rfl, b, by rw [e1], hb, e2, e3, e4, (add_keeps (own := [])).new hk (by simpa using ha), fun x hx => ?_⟩
    rcases hf x hx with rfl | h
    · exact ha
    · intro z
      exact h (by unfold US.foot US.add; rw [List.map_append]; exact List.mem_append_right _ z)
  rintro _ s1 ⟨b0, rfl, hb0, e1, e2, e3, hk0, hf0⟩
  dsimp only [List.set_cons_succ, List.set_cons_zero]
  have hpk : ∀ s', Keeps s s' [] → PeAt s' q xs := fun s' k => hpe.keep k (by simp)
  refine ww_seq (ww_forV (q := q) (ws := refsR xs) (fun i Γ' s' => ∃ b e2 e3, BkAt C_Book s' b ∧ b.ps.map Pers.one = (xs.map PRow.one).take i ∧ b.mt = [] ∧ b.given = 0 ∧ b.a = b0.a ∧ Keeps s s' [] ∧ (∀ x ∈ b.adr, x ∉ s.foot) ∧ Γ' = [.val (.ref q), .val (.ref b0.a), e2, e3]) rfl (ee_val rfl) (fun i Γ' s' ⟨b, e2, e3, _, _, _, _, _, k, _⟩ => (hpk s' k).li) ⟨b0, _, _, hb0, by rw [e1]; rfl, e2, e3, rfl, hk0, hf0, rfl⟩ ?_ ?_)
  · rintro i v _ s' hx ⟨b, e2, e3, hb, hps, hmt, hgv, hba, hk, hf, rfl⟩
    obtain ⟨x, hxx, rfl⟩ := refs_get hx
    clear hx
    have hx := hxx
    clear hxx
    have hxm := List.mem_of_getElem? hx
    have hrow := (hpk s' hk).ro x hxm
    obtain ⟨k1, k2, k3, k4⟩ := hok x hxm
    have hlt : i < xs.length := (List.getElem?_eq_some_iff.mp hx).1
    have hpl : b.ps.length = i := by
      have := congrArg List.length hps
      rw [List.length_map, List.length_take, List.length_map] at this
      omega
    have hxo : (xs.map PRow.one)[i]? = some x.one := by rw [List.getElem?_map, hx]; rfl
    have htk : (xs.map PRow.one).take (i + 1) = (xs.map PRow.one).take i ++ [x.one] := by rw [List.take_add_one, hxo]; rfl
    have hnd1 : ((xs.map PRow.one).map One.name).Nodup := by rw [List.map_map]; exact hnd
    have hnn : x.name ∉ ((xs.map PRow.one).take i).map One.name := by
      have : (((xs.map PRow.one).take (i + 1)).map One.name).Nodup := List.Nodup.sublist ((List.take_sublist _ _).map _) hnd1
      rw [htk, List.map_append, List.nodup_append] at this
      exact fun z => this.2.2 _ z _ (by simp [PRow.one]) rfl
    have hnb : x.name ∉ b.ps.map (·.name) := by
      have e : b.ps.map (·.name) = (b.ps.map Pers.one).map One.name := by rw [List.map_map]; rfl
      rw [e, hps]; exact hnn
    dsimp only [List.set_cons_succ, List.set_cons_zero]
    refine ww_seq (ww_drop (ew_meth (ee_val (v := .ref b.a) (by rw [hba]; rfl)) hb.ob (BkAt.nom (by decide +kernel)) (eae_cons (ee_dat (d := .str x.name) (er_name hrow (ee_val rfl))) (eae_cons (ee_dat (d := .list (x.fr.map toD)) (EvF.ev (ef_llist (er_fr hrow (ee_val rfl)) hrow.f.ls))) eae_nil)) ⟨s', b, x.name, .dat (.list (x.fr.map toD)), x.fr, ⟨hb, k1, by omega, hnb, k3, .inl rfl, by omega⟩, rfl, rfl, rfl⟩ (by rintro _ _ ⟨s2, p, h, _⟩; cases h)) ?_)
    rintro _ sB ⟨s2, p, h, p1, p2, p3, hb1, hk1, hf1⟩
    cases h
    dsimp only
    have hkd : b.kd ∈ b.adr := by simp [Bk.adr]
    have hk2 : Keeps s sB [] := hk.new hk1 (by intro x hx; simp at hx; subst hx; exact hf _ hkd)
    have eadr : (b.come p).adr = b.adr ++ p.adr := by
      unfold Bk.adr Bk.come
      rw [List.flatMap_append]; simp
    have hps1 : (b.come p).ps.map Pers.one = (xs.map PRow.one).take i ++ [⟨x.name, x.fr, x.bz.take 0⟩] := by
      show (b.ps ++ [p]).map Pers.one = _
      rw [List.map_append, hps, ← p1, ← p2]
      show _ ++ [Pers.one p] = _
      unfold Pers.one
      rw [p3]; rfl
    have hf2 : ∀ x ∈ (b.come p).adr, x ∉ s.foot := fun x hx => by
      rw [eadr] at hx
      rcases List.mem_append.mp hx with hx | hx
      · exact hf x hx
      · exact fun z => hf1 x hx (hk.foot x z)
    have hrB := ((hpk sB hk2).ro x hxm)
    refine ww_know (φ := x.tv.length = x.bz.length) (fun B hB => by have := dpa_len (hrB.t.ls.d B hB); rw [this, List.length_map]) fun hlt2 => ?_
    refine ww_forV (q := x.t) (ws := x.tv) (fun j Γ' s' => ∃ b e3, BkAt C_Book s' b ∧ b.ps.map Pers.one = (xs.map PRow.one).take i ++ [⟨x.name, x.fr, x.bz.take j⟩] ∧ b.mt = [] ∧ b.given = 0 ∧ b.a = b0.a ∧ Keeps s s' [] ∧ (∀ x ∈ b.adr, x ∉ s.foot) ∧ Γ' = [.val (.ref q), .val (.ref b0.a), .val (.ref x.r), e3]) rfl (er_bz hrB (ee_val rfl)) (fun j Γ' s' ⟨b, e3, _, _, _, _, _, k, _⟩ => ((hpk s' k).ro x hxm).t.c) ⟨b.come p, _, hb1, hps1, hmt, hgv, hba, hk2, hf2, rfl⟩ ?_ ?_
    · rintro j u _ s' hu ⟨b, e3, hb, hps, hmt, hgv, hba, hk, hf, rfl⟩
      have hrow := (hpk s' hk).ro x hxm
      have hj : j < x.bz.length := by rw [← hlt2]; exact (List.getElem?_eq_some_iff.mp hu).1
      have hr : x.bz[j]? = some x.bz[j] := List.getElem?_eq_getElem hj
      generalize x.bz[j] = r at hr
      have hrm := List.mem_of_getElem? hr
      dsimp only [List.set_cons_succ, List.set_cons_zero]
      refine ww_toDat (i := 3) (d := toD r) rfl hrow.t.r hu (by rw [List.getElem?_map, hr]; rfl) ?_
      dsimp only [List.set_cons_succ, List.set_cons_zero]
      obtain ⟨p, hq, eq⟩ : ∃ q ∈ b.ps, q.one = ⟨x.name, x.fr, x.bz.take j⟩ := List.mem_map.mp (by rw [hps]; simp)
      have en : p.name = x.name := congrArg One.name eq
      have eb : p.bz = x.bz.take j := congrArg One.bz eq
      refine ww_drop (ew_meth (ee_val (v := .ref b.a) (by rw [hba]; rfl)) hb.ob (BkAt.nom (by decide +kernel)) (eae_cons (ee_dat (d := .str p.name) (by rw [en]; exact er_name hrow (ee_val rfl))) (eae_cons (ee_dat (d := toD r) (ev_var rfl)) eae_nil)) ⟨s', b, p, r, ⟨hb, hq, k4.good r hrm, by rw [eb, List.length_take]; have := k4.few; omega, fun m hm => by rw [hmt] at hm; cases hm⟩, rfl, rfl, rfl⟩ (by rintro _ _ ⟨s2, p, h, _⟩; cases h)) ?_
      rintro _ s1' ⟨s2, v, h, hb1, hk1⟩
      cases h
      have hu : ∀ x ∈ p.adr, x ∈ b.adr := fun x hx => by unfold Bk.adr; simp only [List.mem_cons, List.mem_flatMap]; exact .inr (.inr (.inr ⟨p, hq, hx⟩))
      have ea : (b.busy p.name r v).adr = b.adr := by
        unfold Bk.adr Bk.busy
        have : ∀ z : Pers, (if z.name = p.name then z.more r v else z).adr = z.adr := fun z => by split <;> rfl
        simp only [List.flatMap_map, this]
      refine ⟨b.busy p.name r v, .dat (toD r), hb1, ?_, hmt, hgv, hba, hk.new hk1 (by intro x hx; simp at hx; subst hx; exact hf _ (hu _ (by simp [Pers.adr]))), by rw [ea]; exact hf, rfl⟩
      rw [busy_one, hps, en]
      have := more_last (os := (xs.map PRow.one).take i) (o := ⟨x.name, x.fr, x.bz.take j⟩) (r := r) hnn
      rw [this]
      have e5 : x.bz.take (j + 1) = x.bz.take j ++ [r] := by rw [List.take_add_one, hr]; rfl
      rw [e5]; rfl
    rintro _ s' ⟨b, e3, hb, hps, hmt, hgv, hba, hk, hf, rfl⟩
    refine ⟨b, _, _, hb, ?_, hmt, hgv, hba, hk, hf, rfl⟩
    rw [hlt2, List.take_length] at hps
    rw [htk, hps]; rfl
  rintro _ s' ⟨b, e2, e3, hb, hps, hmt, hgv, hba, hk, hf, rfl⟩
  rw [refs_len] at hps
  rw [List.take_of_length_le (by rw [List.length_map]; exact Nat.le_refl _)] at hps
  dsimp only
  refine ww_ret (ew_ee (ee_val (v := .ref b.a) (by rw [hba]; rfl)) (N := fun e s2 => e = .val (.ref b.a) ∧ s2 = s') ⟨rfl, rfl⟩) ?_
  rintro _ _ ⟨rfl, rfl⟩
  exact ⟨_, b, rfl, hb, hps, hmt, hgv, hk, hf⟩
end
section

theorem ok__law_in_time {P : Program} {w : World} {K : PySem.W.Frag} {mg : Str → Option Value} {base : Heap} {a_MONTHS a_BEARING C_HourError C_NoRule C_NoName C_Taken C_Stranger C_Twice C_NoTime C_NoMeeting C_Clash C_Book : Addr} (T : Txt K mg a_MONTHS a_BEARING C_HourError C_NoRule C_NoName C_Taken C_Stranger C_Twice C_NoTime C_NoMeeting C_Clash C_Book) :
    FnB P w K mg base CX0 1 "_law_in_time" ["_law_hour"] (spV K R__law_in_time) := by
  refine T.t__law_in_time.ok (fun _ _ _ _ _ _ us hl => match us, hl with | [_], _ => rfl) fun f fd F => fn_ok F sc__law_in_time (by rintro ds d ⟨x, hp, rfl, rfl⟩; rfl) fun cdv A outer s H E hr => ?_
  have hu66 := room66 hr
  have hu := hr.units
  have hu1 := Nat.lt_of_le_of_lt (Nat.add_le_add_left (show 1 ≤ 64 by decide) _) hu
  have nd := sc__law_in_time.nd
  refine ⟨_, (pss_one (ps_ret (pe_callB (call_minI rfl) rfl T.b_min bb_min (pa_cons (pv 0) (pa_cons (pe_op op_subI (pe_op op_powI pe_int pe_int) pe_int) pa_nil))))), ?_⟩
  clear hr hu hu1 hu66 nd F
  rintro ds d ⟨x, hp, rfl, rfl⟩
  show WpD _ _ _ [.dat (.int x)] _
  k_offL
end
section

theorem ok_Book_named {P : Program} {w : World} {K : PySem.W.Frag} {mg : Str → Option Value} {base : Heap} {a_MONTHS a_BEARING C_HourError C_NoRule C_NoName C_Taken C_Stranger C_Twice C_NoTime C_NoMeeting C_Clash C_Book : Addr} (T : Txt K mg a_MONTHS a_BEARING C_HourError C_NoRule C_NoName C_Taken C_Stranger C_Twice C_NoTime C_NoMeeting C_Clash C_Book)
    (c_Book_need : MtB P w K mg base CX0 1 C_Book "need" ["self", "name"] (spW (uw K) (R_Book_need C_Book))) :
    MtB P w K mg base CX0 2 C_Book "named" ["self", "names"] (spW (uw K) (R_Book_named C_Book)) := by
  refine T.t_Book_named.ok (fun _ _ _ _ _ _ us hl => match us, hl with | [_, _], _ => rfl) fun f fd F => fn_okW F sc_Book_named (by rintro es s0 O ⟨s, b, ps, hp, rfl, rfl, rfl⟩; rfl) fun cdv A outer s H E hr => ?_
  have hu66 := room66 hr
  have hu := hr.units
  have hu1 := Nat.lt_of_le_of_lt (Nat.add_le_add_left (show 1 ≤ 64 by decide) _) hu
  have nd := sc_Book_named.nd
  refine ⟨_, (pss_cons (ps_if (pt_cmpR (ok_eqA (K := K) rfl hu) (pe_callB (kc_len (K := K) rfl) rfl T.b_len bb_len (pa_cons (pv 1) pa_nil)) pe_int (nomark _)) (pss_one L2.ps_never) pss_nil)
    (pss_cons (ps_for PassesOwn.never rfl (ki_any (K := K) rfl (pv 1)) (pg_name (i := 2) nd rfl (by first | exact Or.inl rfl | exact Or.inr rfl)) (pss_one (ps_expr (pe_methB T.cl_Book c_Book_need (hr.mono (by decide)) (pv 0) pass0 (pa_cons (pv 2) pa_nil)))))
    (pss_one (ps_if (pt_cmpR op_ltI (pe_lenKinds rfl rfl T.b_len rfl T.b_set (pv 1)) (pe_callB (kc_len (K := K) rfl) rfl T.b_len bb_len (pa_cons (pv 1) pa_nil)) (nomark _)) (pss_one L2.ps_never) pss_nil)))), ?_⟩
  clear hr hu hu1 hu66 nd F c_Book_need
  rintro es s0 O ⟨s, b, ps, hp, rfl, rfl, rfl⟩
  show WpW _ _ _ [.val (.ref b.a), .dat (.list (NmsD ps)), .no] (s) _
  obtain ⟨hb, hps, hne, hnd, hl⟩ := hp
  have hln : (NmsD ps).length = ps.length := by unfold NmsD; rw [List.length_map, List.length_map]
  have hpos := List.length_pos_iff.mpr hne
  refine ww_pure ?_
  refine wp_seq (wp_if (b := decide (((NmsD ps).length : Int) = 0)) (by k_clsL) (fun z => absurd (of_decide_eq_true z) (by rw [hln]; omega)) fun _ => wp_next ?_)
  dsimp only
  refine wp_seq (wp_forn (xs := NmsD ps) (fun j Γ' => ∃ e2, Γ' = [.val (.ref b.a), .dat (.list (NmsD ps)), e2]) (it_any_list (ev_var rfl)) ⟨_, rfl⟩ ?_ ?_)
  · rintro j d _ hx ⟨e2, rfl⟩
    unfold NmsD at hx
    rw [List.map_map, List.getElem?_map] at hx
    obtain ⟨p, hp, rfl⟩ := Option.map_eq_some_iff.mp hx
    dsimp only [List.set_cons_succ, List.set_cons_zero]
    exact wp_drop (v_Book_need (ee_val rfl) (eae_cons (ee_dat (ev_var rfl)) eae_nil) ⟨hb, hps p (List.mem_of_getElem? hp)⟩) ⟨_, rfl⟩
  rintro _ ⟨e2, rfl⟩
  dsimp only
  refine wp_if (b := false) (et_to (et_test (ev_op (ed_kinds (xs := ps.map (·.name)) (ev_var rfl) (by rw [List.length_map]; omega)) (by k_clsL) od_lt)) ?_) (fun z => by cases z) fun _ => wp_next rfl
  refine decide_eq_false ?_
  have := (kinds_nodup (ps.map (·.name)).reverse).mpr ((List.reverse_perm _).nodup_iff.mpr hnd)
  rw [this, List.length_reverse, List.length_map, hln]
  omega
end
section

theorem ok_Book_is_open {P : Program} {w : World} {K : PySem.W.Frag} {mg : Str → Option Value} {base : Heap} {a_MONTHS a_BEARING C_HourError C_NoRule C_NoName C_Taken C_Stranger C_Twice C_NoTime C_NoMeeting C_Clash C_Book : Addr} (T : Txt K mg a_MONTHS a_BEARING C_HourError C_NoRule C_NoName C_Taken C_Stranger C_Twice C_NoTime C_NoMeeting C_Clash C_Book)
    (c_covers : FnB P w K mg base CX0 6 "covers" ["rule", "hour"] (spV K R_covers)) :
    MtB P w K mg base CX0 7 C_Book "is_open" ["self", "name", "hour", "without"] (spW (uw K) (R_Book_is_open C_Book)) := by
  refine T.t_Book_is_open.ok (fun _ _ _ _ _ _ us hl => match us, hl with | [_, _, _, _], _ => rfl) fun f fd F => fn_okW F sc_Book_is_open (by rintro es s0 O ⟨s, b, p, x, wo, hp, rfl, rfl, rfl⟩; rfl) fun cdv A outer s H E hr => ?_
  have hu66 := room66 hr
  have hu := hr.units
  have hu1 := Nat.lt_of_le_of_lt (Nat.add_le_add_left (show 1 ≤ 64 by decide) _) hu
  have nd := sc_Book_is_open.nd
  refine ⟨_, (pss_cons (ps_set (i := 4) nd rfl (by first | exact Or.inl rfl | exact Or.inr rfl) (pe_dget hu1 (kpe_fld (K := K) rfl (pv 0)) (pv 1) (fun _ _ => rfl)))
    (pss_cons (ps_if (pt_not (pt_val (pe_callB (kc_any (K := K) rfl rfl) rfl T.b_any bb_any (pa_cons (pe_lc (own := [("rule", 6)]) rfl nd (ki_any (K := K) rfl (pe_ix (kx_seq (K := K) rfl) (pv 4) pe_int (fun _ _ => rfl))) (blkOk_by (N := ["self", "name", "hour", "without", "rules", "meeting", "rule"]) (sc := defScope s_Book_is_open) (by decide +kernel)) (fun _ _ _ _ _ => (pg_name (i := 6) nd rfl (by first | exact Or.inl rfl | exact Or.inr rfl))) (fun _ _ _ _ _ => pts_nil) (fun _ _ _ _ _ => (pe_callF c_covers (hr.mono (by decide)) rfl pass0 (pa_cons (pv 6) (pa_cons (pv 2) pa_nil))))) pa_nil)))) (pss_one (ps_ret pe_bl)) pss_nil)
    (pss_cons (ps_if (pt_val (pe_callB (kc_any (K := K) rfl rfl) rfl T.b_any bb_any (pa_cons (pe_lc (own := [("rule", 6)]) rfl nd (ki_any (K := K) rfl (pe_ix (kx_seq (K := K) rfl) (pv 4) pe_int (fun _ _ => rfl))) (blkOk_by (N := ["self", "name", "hour", "without", "rules", "meeting", "rule"]) (sc := defScope s_Book_is_open) (by decide +kernel)) (fun _ _ _ _ _ => (pg_name (i := 6) nd rfl (by first | exact Or.inl rfl | exact Or.inr rfl))) (fun _ _ _ _ _ => pts_nil) (fun _ _ _ _ _ => (pe_callF c_covers (hr.mono (by decide)) rfl pass0 (pa_cons (pv 6) (pa_cons (pv 2) pa_nil))))) pa_nil))) (pss_one (ps_ret pe_bl)) pss_nil)
    (pss_cons (ps_for PassesOwn.never rfl (ki_any (K := K) rfl (kpe_fld (K := K) rfl (pv 0))) (pg_name (i := 5) nd rfl (by first | exact Or.inl rfl | exact Or.inr rfl)) (pss_one (ps_if (PW.pt (pw_and (pt_cmpR (ok_neA (K := K) rfl hu) (pe_ix (kx_seq (K := K) rfl) (pv 5) pe_int (fun _ _ => rfl)) (pv 3) (nomark _)) (pw_and (pt_cmpR (ok_inA (K := K) rfl) (pv 1) (pe_ix (kx_seq (K := K) rfl) (pv 5) pe_int (fun _ _ => rfl)) rfl) (pw_and1 (pt_chain op_leI op_ltI (pe_ix (kx_seq (K := K) rfl) (pv 5) pe_int (fun _ _ => rfl)) (pv 2) (pe_op (ok_addA (K := K) rfl) (pe_ix (kx_seq (K := K) rfl) (pv 5) pe_int (fun _ _ => rfl)) (pe_ix (kx_seq (K := K) rfl) (pv 5) pe_int (fun _ _ => rfl)))))))) (pss_one (ps_ret pe_bl)) pss_nil)))
    (pss_one (ps_ret pe_bl)))))), ?_⟩
  clear hr hu hu1 hu66 nd F c_covers
  rintro es s0 O ⟨s, b, p, x, wo, hp, rfl, rfl, rfl⟩
  show WpW _ _ _ [.val (.ref b.a), .dat (.str p.name), .dat (.int x), .dat (.int wo), .no, .no, .no] (s) _
  obtain ⟨hb, hp⟩ := hp
  have hF := (hb.pf p hp).ls (K := K)
  have hU := (hb.pu p hp).ls (K := K)
  obtain ⟨okF, okU⟩ := hb.ok p hp
  refine ww_seq (ww_asg (ew_ee (ee_pers hb hp T.cl_Book T.na_known (ee_val rfl) (ev_var rfl)) (N := fun e s2 => e = .val (.ref p.t) ∧ s2 = s) ⟨rfl, rfl⟩) ?_)
  rintro _ _ ⟨rfl, rfl⟩
  dsimp only [List.set_cons_succ, List.set_cons_zero]
  refine ww_pure ?_
  refine wp_seq (wp_if (b := !(p.fr.any fun r => covers r x)) (et_not (et_test (ev_to (ev_cb (ea_cons (EvF.ev (w_lcm (zs := p.fr) (c := toD) (h := fun r => .bool (covers r x)) (it_cell (ee_fr hb hp (ee_val rfl)) hF) ⟨by have := okF.few; omega⟩ ⟨by decide⟩ fun y hy => ?_)) ea_nil) (cq_any ⟨?_⟩)) ?_))) (fun h => wp_ret ev_bl ?_) fun h => wp_next ?_)
  · have g := (okF.good y hy).1.cov
    k_clsL
  · intro d hd
    obtain ⟨r, _, rfl⟩ := List.mem_map.mp hd
    exact ⟨_, rfl⟩
  · rw [List.any_map]; rfl
  · have : openB b.mt p x wo = false := by unfold openB freeB; simp at h ⊢; intro z; simp_all
    rw [this]
  have h1 : (p.fr.any fun r => covers r x) = true := by simpa using h
  dsimp only
  refine wp_seq (wp_if (b := p.bz.any fun r => covers r x) (et_test (ev_to (ev_cb (ea_cons (EvF.ev (w_lcm (zs := p.bz) (c := toD) (h := fun r => .bool (covers r x)) (it_cell (ee_bz hb hp (ee_val rfl)) hU) ⟨by have := okU.few; omega⟩ ⟨by decide⟩ fun y hy => ?_)) ea_nil) (cq_any ⟨?_⟩)) ?_)) (fun h => wp_ret ev_bl ?_) fun h => wp_next ?_)
  · have g := (okU.good y hy).1.cov
    k_clsL
  · intro d hd
    obtain ⟨r, _, rfl⟩ := List.mem_map.mp hd
    exact ⟨_, rfl⟩
  · rw [List.any_map]; rfl
  · have : openB b.mt p x wo = false := by unfold openB freeB; simp [h]
    rw [this]
  dsimp only
  have hop : ∀ z, z = (!(b.mt.any fun m => !decide (m.num = wo) && inM m p.name x)) → z = openB b.mt p x wo := fun z hz => by unfold openB freeB; rw [h1, h, hz]; rfl
  refine wp_seq (wp_forn (xs := b.mt.map Meet.d) (fun i Γ' => ∃ e5 e6, (∀ j m, j < i → b.mt[j]? = some m → (!decide (m.num = wo) && inM m p.name x) = false) ∧ Γ' = [.val (.ref b.a), .dat (.str p.name), .dat (.int x), .dat (.int wo), .val (.ref p.t), e5, e6]) (it_cell (ee_booked hb T.cl_Book T.na_booked (ee_val rfl)) (hb.bo.ls (K := K))) ⟨_, _, (fun j m hj => absurd hj (Nat.not_lt_zero j)), rfl⟩ ?_ ?_)
  · rintro i d _ hx ⟨e5, e6, hb2, rfl⟩
    rw [List.getElem?_map] at hx
    obtain ⟨m, hm, rfl⟩ := Option.map_eq_some_iff.mp hx
    dsimp only [List.set_cons_succ, List.set_cons_zero]
    refine wp_if (b := !decide (m.num = wo) && (decide (p.name ∈ m.who) && (decide (m.at_ ≤ x) && decide (x < m.at_ + m.hrs)))) ?_ (fun h2 => wp_ret ev_bl ?_) fun h2 => wp_next ⟨_, _, ?_, rfl⟩
    · refine et_and (et_test ?_) fun _ => et_and (et_test ?_) fun _ => et_test ?_ <;> k_clsL
    · have : openB b.mt p x wo = false := (hop _ (by
        have : (b.mt.any fun m => !decide (m.num = wo) && inM m p.name x) = true := List.any_eq_true.mpr ⟨m, List.mem_of_getElem? hm, h2⟩
        rw [this]; rfl)).symm
      rw [this]
    · intro j m' hj hm'
      rcases Nat.lt_succ_iff_lt_or_eq.mp hj with h3 | rfl
      · exact hb2 j m' h3 hm'
      · rw [hm] at hm'; cases hm'; exact h2
  rintro _ ⟨e5, e6, hb2, rfl⟩
  dsimp only
  refine wp_ret ev_bl ?_
  have : openB b.mt p x wo = true := (hop _ (by
    have : (b.mt.any fun m => !decide (m.num = wo) && inM m p.name x) = false := List.any_eq_false.mpr fun m hm => by
      obtain ⟨j, hj, e⟩ := List.getElem_of_mem hm
      rw [hb2 j m (by rw [List.length_map]; exact hj) (by rw [List.getElem?_eq_getElem hj, e])]; simp
    rw [this]; rfl)).symm
  rw [this]
end
section

theorem ok_blocked {P : Program} {w : World} {K : PySem.W.Frag} {mg : Str → Option Value} {base : Heap} {a_MONTHS a_BEARING C_HourError C_NoRule C_NoName C_Taken C_Stranger C_Twice C_NoTime C_NoMeeting C_Clash C_Book : Addr} (T : Txt K mg a_MONTHS a_BEARING C_HourError C_NoRule C_NoName C_Taken C_Stranger C_Twice C_NoTime C_NoMeeting C_Clash C_Book)
    (c_Book_is_open : MtB P w K mg base CX0 7 C_Book "is_open" ["self", "name", "hour", "without"] (spW (uw K) (R_Book_is_open C_Book))) :
    FnB P w K mg base CX0 8 "blocked" ["book", "names", "hour", "hours", "without"] (spW (uw K) (R_blocked C_Book)) := by
  refine T.t_blocked.ok (fun _ _ _ _ _ _ us hl => match us, hl with | [_, _, _, _, _], _ => rfl) fun f fd F => fn_okW F sc_blocked (by rintro es s0 O ⟨s, b, ps, nd, x, h, wo, hp, rfl, rfl, rfl⟩; rfl) fun cdv A outer s H E hr => ?_
  have hu66 := room66 hr
  have hu := hr.units
  have hu1 := Nat.lt_of_le_of_lt (Nat.add_le_add_left (show 1 ≤ 64 by decide) _) hu
  have nd := sc_blocked.nd
  refine ⟨_, (pss_cons (ps_for PassesOwn.never rfl (pi_revR rfl T.b_reversed (prg_1 rfl T.b_range (pv 3))) (pg_name (i := 5) nd rfl (by first | exact Or.inl rfl | exact Or.inr rfl)) (pss_one (ps_for PassesOwn.never rfl (ki_any (K := K) rfl (pv 1)) (pg_name (i := 6) nd rfl (by first | exact Or.inl rfl | exact Or.inr rfl)) (pss_one (ps_if (pt_not (pt_val (pe_methB T.cl_Book c_Book_is_open (hr.mono (by decide)) (pv 0) pass0 (pa_cons (pv 6) (pa_cons (pe_op (ok_addA (K := K) rfl) (pv 2) (pv 5)) (pa_cons (pv 4) pa_nil)))))) (pss_one (ps_ret (pe_tup (pa_cons (pv 6) (pa_cons (pe_op (ok_addA (K := K) rfl) (pv 2) (pv 5)) pa_nil))))) pss_nil)))))
    (pss_one (ps_ret pe_non))), ?_⟩
  clear hr hu hu1 hu66 nd F c_Book_is_open
  rintro es s0 O ⟨s, b, ps, nd, x, h, wo, hp, rfl, rfl, rfl⟩
  show WpW _ _ _ [.val (.ref b.a), .dat nd, .dat (.int x), .dat (.int h), .dat (.int wo), .no, .no] (s) _
  obtain ⟨hb, hps, hn, h1, h2⟩ := hp
  refine ww_pure ?_
  have hdl : (dwnD h.toNat).length = h.toNat := by unfold dwnD; rw [List.length_map, List.length_range]
  refine wp_seq (wp_forn (xs := dwnD h.toNat) (fun i Γ' => ∃ e5 e6, (∀ k : Int, h - (i : Int) ≤ k → k < h → ∀ p ∈ ps, openB b.mt p (x + k) wo = true) ∧ Γ' = [.val (.ref b.a), .dat nd, .dat (.int x), .dat (.int h), .dat (.int wo), e5, e6]) (it_rev1 (ev_var rfl) (by omega) (by omega)) ⟨_, _, (fun k z1 z2 => absurd z1 (by omega)), rfl⟩ ?_ ?_)
  · rintro i d _ hx ⟨e5, e6, hk, rfl⟩
    have hi := (List.getElem?_eq_some_iff.mp hx).1
    rw [hdl] at hi
    unfold dwnD at hx
    rw [List.getElem?_map, List.getElem?_range hi] at hx
    obtain rfl := Option.some.inj hx
    dsimp only [List.set_cons_succ, List.set_cons_zero]
    have ek : (h.toNat : Int) = h := by omega
    rw [ek]
    refine wp_forn (xs := NmsD ps) (fun j Γ' => ∃ e6, (∀ n p, n < j → ps[n]? = some p → openB b.mt p (x + (h - 1 - (i : Int))) wo = true) ∧ Γ' = [.val (.ref b.a), .dat nd, .dat (.int x), .dat (.int h), .dat (.int wo), .dat (.int (h - 1 - (i : Int))), e6]) (it_nms hn (ev_var rfl)) ⟨_, (fun n p z => absurd z (Nat.not_lt_zero n)), rfl⟩ ?_ ?_
    · rintro j d _ hx ⟨e6, hj, rfl⟩
      unfold NmsD at hx
      rw [List.map_map, List.getElem?_map] at hx
      obtain ⟨p, hp, rfl⟩ := Option.map_eq_some_iff.mp hx
      have hpm := List.mem_of_getElem? hp
      dsimp only [List.set_cons_succ, List.set_cons_zero]
      refine wp_if (b := !openB b.mt p (x + (h - 1 - (i : Int))) wo) (et_not (et_test (v_Book_is_open (ee_val rfl) (eae_cons (ee_dat (ev_var rfl)) (eae_cons (ee_dat (by k_clsL)) (eae_cons (ee_dat (ev_var rfl)) eae_nil))) ⟨hb, hps p hpm⟩))) (fun hc => ?_) fun hc => wp_next ⟨_, ?_, rfl⟩
      · refine wp_ret (d := .tuple [.str p.name, .int (x + (h - 1 - (i : Int)))]) (by k_clsL) ?_
        exact ⟨_, rfl, .inr ⟨p, hpm, _, by omega, by omega, rfl, by simpa using hc⟩⟩
      · intro n q hn hq
        rcases Nat.lt_succ_iff_lt_or_eq.mp hn with z | rfl
        · exact hj n q z hq
        · rw [hp] at hq; cases hq; simpa using hc
    rintro _ ⟨e6, hj, rfl⟩
    refine ⟨_, _, fun k z1 z2 p hp => ?_, rfl⟩
    by_cases hk2 : h - (i : Int) ≤ k
    · exact hk k hk2 z2 p hp
    · obtain ⟨n, hn2, e⟩ := List.getElem_of_mem hp
      have := hj n p (by unfold NmsD; rw [List.length_map, List.length_map]; exact hn2) (by rw [List.getElem?_eq_getElem hn2, e])
      rw [show k = h - 1 - (i : Int) by omega]; exact this
  rintro _ ⟨e5, e6, hk, rfl⟩
  refine wp_ret ev_non ⟨_, rfl, .inl ⟨rfl, fun k z1 z2 => hk k (by rw [hdl]; omega) z2⟩⟩
end
section

theorem ok_search {P : Program} {w : World} {K : PySem.W.Frag} {mg : Str → Option Value} {base : Heap} {a_MONTHS a_BEARING C_HourError C_NoRule C_NoName C_Taken C_Stranger C_Twice C_NoTime C_NoMeeting C_Clash C_Book : Addr} (T : Txt K mg a_MONTHS a_BEARING C_HourError C_NoRule C_NoName C_Taken C_Stranger C_Twice C_NoTime C_NoMeeting C_Clash C_Book)
    (c_blocked : FnB P w K mg base CX0 8 "blocked" ["book", "names", "hour", "hours", "without"] (spW (uw K) (R_blocked C_Book))) :
    FnB P w K mg base CX0 9 "search" ["book", "names", "hours", "stretch", "without"] (spW (uw K) (R_search C_Book)) := by
  refine T.t_search.ok (fun _ _ _ _ _ _ us hl => match us, hl with | [_, _, _, _, _], _ => rfl) fun f fd F => fn_okW F sc_search (by rintro es s0 O ⟨s, b, ps, nd, h, st, en, wo, c, hp, rfl, rfl, rfl⟩; rfl) fun cdv A outer s H E hr => ?_
  have hu66 := room66 hr
  have hu := hr.units
  have hu1 := Nat.lt_of_le_of_lt (Nat.add_le_add_left (show 1 ≤ 64 by decide) _) hu
  have nd := sc_search.nd
  refine ⟨_, (pss_cons (ps_set (i := 5) nd rfl (by first | exact Or.inl rfl | exact Or.inr rfl) (pe_ix (kx_seq (K := K) rfl) (pv 3) pe_int (fun _ _ => rfl)))
    (pss_cons (ps_set (i := 6) nd rfl (by first | exact Or.inl rfl | exact Or.inr rfl) (pe_op op_subI (pe_ix (kx_seq (K := K) rfl) (pv 3) pe_int (fun _ _ => rfl)) (pv 2)))
    (pss_cons (ps_set (i := 7) nd rfl (by first | exact Or.inl rfl | exact Or.inr rfl) (pe_lst pa_nil))
    (pss_cons (ps_while PassesOwn.never (pt_cmpR op_leI (pv 5) (pv 6) (nomark _)) (pss_cons (ps_set (i := 8) nd rfl (by first | exact Or.inl rfl | exact Or.inr rfl) (pe_callF c_blocked (hr.mono (by decide)) rfl pass0 (pa_cons (pv 0) (pa_cons (pv 1) (pa_cons (pv 5) (pa_cons (pv 2) (pa_cons (pv 4) pa_nil)))))))
    (pss_cons (ps_if (pt_cmpR op_isNI (pv 8) pe_non (nomark _)) (pss_one (ps_ret (pe_tup (pa_cons (pv 5) (pa_cons (pv 7) pa_nil))))) pss_nil)
    (pss_cons (ps_expr (kpe_app (K := K) rfl (pv 7) (pe_tup (pa_cons (pv 5) (pa_cons (pe_callB (call_minI rfl) rfl T.b_min bb_min (pa_cons (pe_ix (kx_seq (K := K) rfl) (pv 8) pe_int (fun _ _ => rfl)) (pa_cons (pv 6) pa_nil))) (pa_cons (pe_ix (kx_seq (K := K) rfl) (pv 8) pe_int (fun _ _ => rfl)) (pa_cons (pe_ix (kx_seq (K := K) rfl) (pv 8) pe_int (fun _ _ => rfl)) pa_nil)))))))
    (pss_one (ps_set (i := 5) nd rfl (by first | exact Or.inl rfl | exact Or.inr rfl) (pe_op (ok_addA (K := K) rfl) (pe_ix (kx_seq (K := K) rfl) (pv 8) pe_int (fun _ _ => rfl)) pe_int)))))))
    (pss_one (ps_ret (pe_tup (pa_cons pe_non (pa_cons (pv 7) pa_nil))))))))), ?_⟩
  clear hr hu hu1 hu66 nd F c_blocked
  rintro es s0 O ⟨s, b, ps, nd, h, st, en, wo, c, hp, rfl, rfl, rfl⟩
  show WpW _ _ _ [.val (.ref b.a), .dat nd, .dat (.int h), .dat (.tuple [.int st, .int en]), .dat (.int wo), .no, .no, .no, .no] (s) _
  obtain ⟨hb, hps, hn, h1, h2, h3⟩ := hp
  have fin : ∀ (P : PostW US), (∀ e s2, (∃ f rs, FRes s c f rs (.ok e s2) ∧ Found b.mt ps h st en wo f rs) → P.rt e s2) → ∀ (f : PyData) (rs : List PyData) (te : TE) (e8 : Ent) (y : Int), Found b.mt ps h st en wo f rs → (∀ s' Γ, Γ[5]? = some (.dat (.int y)) → EvE ((uw K).g s') te Γ (.val (fV f)) ∧ EvD ((uw K).g s') te Γ f) →
      WpW (uw K) WNo (tRet (tTup (tCons te (tCons (tVar 7) tNil)))) [.val (.ref b.a), .dat nd, .dat (.int h), .dat (.tuple [.int st, .int en]), .dat (.int wo), .dat (.int y), .dat (.int (en - h)), .own rs, e8] s P := fun P hP f rs te e8 y hF hte => by
    cases c with
    | false =>
      refine ww_pure (wp_freeze (i := 7) rfl ?_)
      dsimp only [List.set_cons_succ, List.set_cons_zero]
      exact wp_ret (d := .tuple [f, .list rs]) (ev_tup (ea_cons (hte s _ rfl).2 (ea_cons (ev_var rfl) ea_nil)) (show 2 ≤ 100000 by decide)) (hP _ _ ⟨_, _, by unfold FRes; rw [if_neg (by decide)], hF⟩)
    | true =>
      refine ww_give (i := 7) rfl fun l vs hl => ?_
      dsimp only [List.set_cons_succ, List.set_cons_zero]
      refine ww_ret (N := fun e s2 => ∃ t, t ∉ (s.add [(l, .lst vs)] [(vs, rs)]).foot ∧ e = .val (.ref t) ∧ s2 = sTup s l vs rs t (fV f)) (ew_tupV (eaw_cons (ew_ee (hte _ _ rfl).1 (eaw_cons (ew_ee (ee_val rfl) (eaw_nil ⟨[fV f, .ref l], rfl, (show 2 ≤ 100000 by decide), fun t ht => ⟨t, ht, rfl, rfl⟩⟩)))))) ?_
      rintro _ _ ⟨t, ht, rfl, rfl⟩
      have ht : t ∉ l :: s.foot := ht
      rw [List.mem_cons, not_or] at ht
      exact hP _ _ ⟨f, rs, by unfold FRes; rw [if_pos rfl]; exact ⟨l, vs, t, hl, ht.2, ht.1, rfl⟩, hF⟩
  refine ww_seq (ww_pure (wp_asg (d := .int st) (by k_clsL) ?_))
  dsimp only [List.set_cons_succ, List.set_cons_zero]
  refine ww_seq (ww_pure (wp_asg (d := .int (en - h)) (by k_clsL) ?_))
  dsimp only [List.set_cons_succ, List.set_cons_zero]
  refine ww_seq (ww_pure (wp_asg_own (ds := []) (by k_clsL) ?_))
  dsimp only [List.set_cons_succ, List.set_cons_zero]
  refine ww_seq (ww_while (fun n Γ' s' => ∃ y rs e8, RowsAt b.mt ps h (en - h) wo st rs y ∧ n = (en - h + 1 - y).toNat ∧ s' = s ∧ Γ' = [.val (.ref b.a), .dat nd, .dat (.int h), .dat (.tuple [.int st, .int en]), .dat (.int wo), .dat (.int y), .dat (.int (en - h)), .own rs, e8]) _ ⟨st, [], _, rfl, rfl, rfl, rfl⟩ ?_)
  rintro _ _ _ ⟨y, rs, e8, hr, rfl, rfl, rfl⟩
  refine ⟨decide (y ≤ en - h), by k_clsL, fun hc => ?_, fun hc => ?_⟩
  · have hc := of_decide_eq_true hc
    refine ww_seq (ww_pure (wp_asgS (eae_cons (ee_val (v := .ref b.a) rfl) (eae_cons (ee_dat (ev_var rfl)) (eae_cons (ee_dat (ev_var rfl)) (eae_cons (ee_dat (ev_var rfl)) (eae_cons (ee_dat (ev_var rfl)) eae_nil))))) ⟨_, b, ps, nd, y, h, wo, ⟨hb, hps, hn, by omega, by omega⟩, rfl, rfl, rfl⟩ (fun o z => z.elim fun d z => ⟨d, z.1⟩) ?_))
    rintro d ⟨d', e, hB⟩
    cases e
    dsimp only [List.set_cons_succ, List.set_cons_zero]
    rcases hB with ⟨rfl, ha⟩ | ⟨p, hp, k, k1, k2, rfl, ho⟩
    · refine ww_seq (ww_if (b := true) (et_test (ev_to (ev_isN (ev_var rfl)) rfl)) (fun _ => ?_) (fun z => by cases z))
      exact fin _ (fun _ _ z => z) (.int y) rs (tVar 5) _ y ⟨y, hr, .inl ⟨hc, ha, rfl⟩⟩ (fun s' Γ g => ⟨ee_int (ev_var g), ev_var g⟩)
    · refine ww_seq (ww_pure (wp_if (b := false) (et_test (ev_to (ev_isN (ev_var rfl)) rfl)) (fun z => by cases z) fun _ => wp_next ?_))
      dsimp only
      have hl := hr.len
      refine ww_seq (ww_pure (wp_app (i := 7) rfl (d := .tuple [.int y, .int (if en - h < y + k then en - h else y + k), .str p.name, .int (y + k)]) (by k_clsL) (by omega) ?_))
      dsimp only [List.set_cons_succ, List.set_cons_zero]
      refine ww_pure (wp_asg (d := .int (y + k + 1)) (by k_clsL) ⟨_, ?_, y + k + 1, _, _, hr.snoc hp (by omega) (by omega) hc ho rfl, rfl, rfl, rfl⟩)
      omega
  have hc := of_decide_eq_false hc
  exact fin _ (fun _ _ z => z) .none rs (tC .non) _ y ⟨y, hr, .inr ⟨by omega, rfl⟩⟩ fun s' Γ _ => ⟨ee_non, ev_non⟩
end
section

theorem ok_Book_stretch {P : Program} {w : World} {K : PySem.W.Frag} {mg : Str → Option Value} {base : Heap} {a_MONTHS a_BEARING C_HourError C_NoRule C_NoName C_Taken C_Stranger C_Twice C_NoTime C_NoMeeting C_Clash C_Book : Addr} (T : Txt K mg a_MONTHS a_BEARING C_HourError C_NoRule C_NoName C_Taken C_Stranger C_Twice C_NoTime C_NoMeeting C_Clash C_Book)
    (c_is_time : FnB P w K mg base CX0 3 "is_time" ["thing"] (spV K R_is_time)) :
    MtB P w K mg base CX0 4 C_Book "stretch" ["self", "start", "end"] (spW (uw K) (R_Book_stretch C_Book)) := by
  refine T.t_Book_stretch.ok (fun _ _ _ _ _ _ us hl => match us, hl with | [_, _, _], _ => rfl) fun f fd F => fn_okW F sc_Book_stretch (by rintro es s0 O ⟨s, b, st, en, hp, rfl, rfl, rfl⟩; rfl) fun cdv A outer s H E hr => ?_
  have hu66 := room66 hr
  have hu := hr.units
  have hu1 := Nat.lt_of_le_of_lt (Nat.add_le_add_left (show 1 ≤ 64 by decide) _) hu
  have nd := sc_Book_stretch.nd
  refine ⟨_, (pss_cons (ps_if (PW.pt (pw_or (pt_not (pt_val (pe_callF c_is_time (hr.mono (by decide)) rfl pass0 (pa_cons (pv 1) pa_nil)))) (pw_or (pt_not (pt_val (pe_callF c_is_time (hr.mono (by decide)) rfl pass0 (pa_cons (pv 2) pa_nil)))) (pw_or1 (pt_not (pt_chain op_leI op_leI (pv 1) (pv 2) (pe_op (ok_addA (K := K) rfl) (pv 1) (pe_gint T.g_STRETCH rfl)))))))) (pss_one L2.ps_never) pss_nil)
    (pss_one (ps_ret (pe_tup (pa_cons (pv 1) (pa_cons (pv 2) pa_nil)))))), ?_⟩
  clear hr hu hu1 hu66 nd F c_is_time
  rintro es s0 O ⟨s, b, st, en, hp, rfl, rfl, rfl⟩
  show WpW _ _ _ [.val (.ref b.a), .dat (.int st), .dat (.int en)] (s) _
  obtain ⟨hb, h1, h2, h3, h4⟩ := hp
  have t1 : isTime (.int st) = true := time_ok ⟨h1, by omega⟩
  have t2 : isTime (.int en) = true := time_ok ⟨by omega, h3⟩
  refine ww_pure ?_
  refine wp_seq (wp_if (b := !isTime (.int st) || (!isTime (.int en) || !(decide (st ≤ en) && decide (en ≤ st + 10000)))) (by k_clsL) (fun z => ?_) fun _ => wp_next ?_)
  · rw [t1, t2, decide_eq_true h2, decide_eq_true h4] at z; cases z
  dsimp only
  refine wp_ret (by k_clsL) rfl
end
section

theorem ok_Book_first {P : Program} {w : World} {K : PySem.W.Frag} {mg : Str → Option Value} {base : Heap} {a_MONTHS a_BEARING C_HourError C_NoRule C_NoName C_Taken C_Stranger C_Twice C_NoTime C_NoMeeting C_Clash C_Book : Addr} (T : Txt K mg a_MONTHS a_BEARING C_HourError C_NoRule C_NoName C_Taken C_Stranger C_Twice C_NoTime C_NoMeeting C_Clash C_Book)
    (c_Book_named : MtB P w K mg base CX0 2 C_Book "named" ["self", "names"] (spW (uw K) (R_Book_named C_Book)))
    (c_search : FnB P w K mg base CX0 9 "search" ["book", "names", "hours", "stretch", "without"] (spW (uw K) (R_search C_Book)))
    (c_is_length : FnB P w K mg base CX0 3 "is_length" ["thing"] (spV K R_is_length))
    (c_Book_stretch : MtB P w K mg base CX0 4 C_Book "stretch" ["self", "start", "end"] (spW (uw K) (R_Book_stretch C_Book))) :
    MtB P w K mg base CX0 10 C_Book "first" ["self", "names", "hours", "start", "end"] (spW (uw K) (R_Book_first C_Book)) := by
  refine T.t_Book_first.ok (fun _ _ _ _ _ _ us hl => match us, hl with | [_, _, _, _, _], _ => rfl) fun f fd F => fn_okW F sc_Book_first (by rintro es s0 O ⟨s, b, ps, h, st, en, c, hp, rfl, rfl, rfl⟩; rfl) fun cdv A outer s H E hr => ?_
  have hu66 := room66 hr
  have hu := hr.units
  have hu1 := Nat.lt_of_le_of_lt (Nat.add_le_add_left (show 1 ≤ 64 by decide) _) hu
  have nd := sc_Book_first.nd
  refine ⟨_, (pss_cons (ps_expr (pe_methB T.cl_Book c_Book_named (hr.mono (by decide)) (pv 0) pass0 (pa_cons (pv 1) pa_nil)))
    (pss_cons (ps_if (pt_not (pt_val (pe_callF c_is_length (hr.mono (by decide)) rfl pass0 (pa_cons (pv 2) pa_nil)))) (pss_one L2.ps_never) pss_nil)
    (pss_one (ps_ret (pe_callF c_search (hr.mono (by decide)) rfl pass0 (pa_cons (pv 0) (pa_cons (pv 1) (pa_cons (pv 2) (pa_cons (pe_methB T.cl_Book c_Book_stretch (hr.mono (by decide)) (pv 0) pass0 (pa_cons (pv 3) (pa_cons (pv 4) pa_nil))) (pa_cons pe_int pa_nil)))))))))), ?_⟩
  clear hr hu hu1 hu66 nd F c_Book_named c_search c_is_length c_Book_stretch
  rintro es s0 O ⟨s, b, ps, h, st, en, c, hp, rfl, rfl, rfl⟩
  show WpW _ _ _ [.val (.ref b.a), .dat (.list (NmsD ps)), .dat (.int h), .dat (.int st), .dat (.int en)] (s) _
  obtain ⟨hN, hh, h1, h2, h3, h4⟩ := hp
  obtain ⟨hb, hps, hne, hnd, hl⟩ := id hN
  refine ww_seq (ww_pure (wp_drop (v_Book_named (ee_val rfl) (eae_cons (ee_dat (ev_var rfl)) eae_nil) ⟨hN⟩) ?_))
  dsimp only
  refine ww_seq (ww_pure (wp_if (b := !isLen (.int h)) (by k_clsL) (fun z => ?_) fun _ => wp_next ?_))
  · rw [len_ok hh] at z; cases z
  dsimp only
  refine ww_ret (ew_call (eae_cons (ee_val (v := .ref b.a) rfl) (eae_cons (ee_dat (ev_var rfl)) (eae_cons (ee_dat (ev_var rfl)) (eae_cons (ee_dat (v_Book_stretch (ee_val rfl) (eae_cons (ee_dat (ev_var rfl)) (eae_cons (ee_dat (ev_var rfl)) eae_nil)) ⟨hb, h1, h2, h3, h4⟩)) (eae_cons (ee_dat ev_int) eae_nil))))) ⟨s, b, ps, _, h, st, en, 0, c, ⟨hb, hps, .inl rfl, hh, h1, by omega⟩, rfl, rfl, rfl⟩ ?_) ?_
  · rintro _ _ ⟨f, rs, h, _⟩
    cases c with
    | false => have := h.dat; cases this
    | true => obtain ⟨_, _, _, _, _, _, this⟩ := h.cel; cases this
  · rintro e s2 ⟨f, rs, h, hF⟩
    exact ⟨f, rs, h, hF⟩
end
section

theorem ok__law_whole {P : Program} {w : World} {K : PySem.W.Frag} {mg : Str → Option Value} {base : Heap} {a_MONTHS a_BEARING C_HourError C_NoRule C_NoName C_Taken C_Stranger C_Twice C_NoTime C_NoMeeting C_Clash C_Book : Addr} (T : Txt K mg a_MONTHS a_BEARING C_HourError C_NoRule C_NoName C_Taken C_Stranger C_Twice C_NoTime C_NoMeeting C_Clash C_Book) :
    FnB P w K mg base CX0 1 "_law_whole" ["_law_found"] (spV K R__law_whole) := by
  refine T.t__law_whole.ok (fun _ _ _ _ _ _ us hl => match us, hl with | [_], _ => rfl) fun f fd F => fn_ok F sc__law_whole (by rintro ds d ⟨x, hp, rfl, rfl⟩; rfl) fun cdv A outer s H E hr => ?_
  have hu66 := room66 hr
  have hu := hr.units
  have hu1 := Nat.lt_of_le_of_lt (Nat.add_le_add_left (show 1 ≤ 64 by decide) _) hu
  have nd := sc__law_whole.nd
  refine ⟨_, (pss_one (ps_ret (pe_and (pe_callB (kc_isi (K := K) rfl) rfl T.b_isinstance bb_isinstance (pa_cons (pv 0) (pa_cons (pe_ty T.b_int bb_int rfl) pa_nil))) (pe_one (pe_not (pe_callB (kc_isi (K := K) rfl) rfl T.b_isinstance bb_isinstance (pa_cons (pv 0) (pa_cons (pe_ty T.b_bool bb_bool rfl) pa_nil)))))))), ?_⟩
  clear hr hu hu1 hu66 nd F
  rintro ds d ⟨x, hp, rfl, rfl⟩
  show WpD _ _ _ [.dat (x)] _
  k_offL
end
section

theorem ok__law_is_told {P : Program} {w : World} {K : PySem.W.Frag} {mg : Str → Option Value} {base : Heap} {a_MONTHS a_BEARING C_HourError C_NoRule C_NoName C_Taken C_Stranger C_Twice C_NoTime C_NoMeeting C_Clash C_Book : Addr} (T : Txt K mg a_MONTHS a_BEARING C_HourError C_NoRule C_NoName C_Taken C_Stranger C_Twice C_NoTime C_NoMeeting C_Clash C_Book)
    (c__law_whole : FnB P w K mg base CX0 1 "_law_whole" ["_law_found"] (spV K R__law_whole)) :
    FnB P w K mg base CX0 2 "_law_is_told" ["_law_found"] (spV K R__law_is_told) := by
  refine T.t__law_is_told.ok (fun _ _ _ _ _ _ us hl => match us, hl with | [_], _ => rfl) fun f fd F => fn_ok F sc__law_is_told (by rintro ds d ⟨f, rs, hp, rfl, rfl⟩; rfl) fun cdv A outer s H E hr => ?_
  have hu66 := room66 hr
  have hu := hr.units
  have hu1 := Nat.lt_of_le_of_lt (Nat.add_le_add_left (show 1 ≤ 64 by decide) _) hu
  have nd := sc__law_is_told.nd
  refine ⟨_, (pss_cons (ps_if (PW.pt (pw_or (pt_not (pt_val (pe_callB (kc_isi (K := K) rfl) rfl T.b_isinstance bb_isinstance (pa_cons (pv 0) (pa_cons (pe_ty T.b_tuple bb_tuple rfl) pa_nil))))) (pw_or (pt_cmpR (ok_neA (K := K) rfl hu) (pe_callB (kc_len (K := K) rfl) rfl T.b_len bb_len (pa_cons (pv 0) pa_nil)) pe_int (nomark _)) (pw_or1 (pt_not (pt_val (pe_callB (kc_isi (K := K) rfl) rfl T.b_isinstance bb_isinstance (pa_cons (pe_ix (kx_seq (K := K) rfl) (pv 0) pe_int (fun _ _ => rfl)) (pa_cons (pe_ty T.b_list bb_list rfl) pa_nil))))))))) (pss_one (ps_ret pe_bl)) pss_nil)
    (pss_one (ps_ret (pe_or (pe_cmpR op_isNI (pe_ix (kx_seq (K := K) rfl) (pv 0) pe_int (fun _ _ => rfl)) pe_non (nomark _)) (pe_one (pe_callF c__law_whole (hr.mono (by decide)) rfl pass0 (pa_cons (pe_ix (kx_seq (K := K) rfl) (pv 0) pe_int (fun _ _ => rfl)) pa_nil))))))), ?_⟩
  clear hr hu hu1 hu66 nd F c__law_whole
  rintro ds d ⟨f, rs, hp, rfl, rfl⟩
  show WpD _ _ _ [.dat (.tuple [f, .list rs])] _
  rcases hp with rfl | ⟨y, rfl⟩ <;> k_offL
  all_goals simp_all [isTup, isList, isWhole, isInt, isBool, isNoneD]
end
section

theorem ok__law_bearing {P : Program} {w : World} {K : PySem.W.Frag} {mg : Str → Option Value} {base : Heap} {a_MONTHS a_BEARING C_HourError C_NoRule C_NoName C_Taken C_Stranger C_Twice C_NoTime C_NoMeeting C_Clash C_Book : Addr} (T : Txt K mg a_MONTHS a_BEARING C_HourError C_NoRule C_NoName C_Taken C_Stranger C_Twice C_NoTime C_NoMeeting C_Clash C_Book) :
    FnB P w K mg base CX0 1 "_law_bearing" [] (spV K R__law_bearing) := by
  refine T.t__law_bearing.ok (fun _ _ _ _ _ _ us hl => match us, hl with | [], _ => rfl) fun f fd F => fn_ok F sc__law_bearing (by rintro ds d ⟨hp, rfl, rfl⟩; rfl) fun cdv A outer s H E hr => ?_
  have hu66 := room66 hr
  have hu := hr.units
  have hu1 := Nat.lt_of_le_of_lt (Nat.add_le_add_left (show 1 ≤ 64 by decide) _) hu
  have nd := sc__law_bearing.nd
  refine ⟨_, (pss_one (ps_ret (pe_lst (pa_cons pe_str (pa_cons pe_str (pa_cons pe_str (pa_cons pe_str pa_nil))))))), ?_⟩
  clear hr hu hu1 hu66 nd F
  rintro ds d ⟨hp, rfl, rfl⟩
  show WpD _ _ _ [] _
  k_offL
end
section

theorem ok__law_heads {P : Program} {w : World} {K : PySem.W.Frag} {mg : Str → Option Value} {base : Heap} {a_MONTHS a_BEARING C_HourError C_NoRule C_NoName C_Taken C_Stranger C_Twice C_NoTime C_NoMeeting C_Clash C_Book : Addr} (T : Txt K mg a_MONTHS a_BEARING C_HourError C_NoRule C_NoName C_Taken C_Stranger C_Twice C_NoTime C_NoMeeting C_Clash C_Book)
    (c__law_bearing : FnB P w K mg base CX0 1 "_law_bearing" [] (spV K R__law_bearing)) :
    FnB P w K mg base CX0 2 "_law_heads" ["_law_rule"] (spV K R__law_heads) := by
  refine T.t__law_heads.ok (fun _ _ _ _ _ _ us hl => match us, hl with | [_], _ => rfl) fun f fd F => fn_ok F sc__law_heads (by rintro ds d ⟨r, hp, rfl, rfl⟩; rfl) fun cdv A outer s H E hr => ?_
  have hu66 := room66 hr
  have hu := hr.units
  have hu1 := Nat.lt_of_le_of_lt (Nat.add_le_add_left (show 1 ≤ 64 by decide) _) hu
  have nd := sc__law_heads.nd
  refine ⟨_, (pss_cons (ps_set (i := 1) nd rfl (by first | exact Or.inl rfl | exact Or.inr rfl) (pe_lst pa_nil))
    (pss_cons (ps_while PassesOwn.never (pt_cmpR (ok_inA (K := K) rfl) (pe_ix (kx_seq (K := K) rfl) (pv 0) pe_int (fun _ _ => rfl)) (pe_callF0 c__law_bearing (hr.mono (by decide)) rfl pass0) rfl) (pss_cons (ps_expr (kpe_app (K := K) rfl (pv 1) (pv 0)))
    (pss_one (ps_set (i := 0) nd rfl (by first | exact Or.inl rfl | exact Or.inr rfl) (pe_ix (kx_seq (K := K) rfl) (pv 0) pe_int (fun _ _ => rfl))))))
    (pss_one (ps_ret (pe_op (ok_addA (K := K) rfl) (pv 1) (pe_lst (pa_cons (pv 0) pa_nil))))))), ?_⟩
  clear hr hu hu1 hu66 nd F c__law_bearing
  rintro ds d ⟨r, hp, rfl, rfl⟩
  show WpD _ _ _ [.dat (toD r), .no] _
  refine wp_seq (wp_asg_own (ds := []) ?_ ?_)
  · k_clsL
  dsimp only [List.set_cons_succ, List.set_cons_zero]
  refine wp_seq (wp_wh (fun n Γ' => ∃ q hs, heads r = hs ++ heads q ∧ depth q = n ∧ hs.length + n = depth r ∧ Γ' = [.dat (toD q), .own (hs.map toD)]) (depth r) ⟨r, [], rfl, rfl, by simp, rfl⟩ ?_)
  rintro _ _ ⟨q, hs, hq, rfl, hl, rfl⟩
  cases hc : q
  iterate 4
    rw [hc] at hl
    refine wh_mk (b := false) (by k_clsL) (fun z => by cases z) fun _ => nx_freeze rfl (i := 1) rfl ?_
    dsimp only [List.set_cons_succ, List.set_cons_zero]
    refine wp_ret (w_add_list (ev_var rfl) (w_lst (ea_cons (ev_var rfl) ea_nil) ⟨show 1 ≤ 100000 by decide⟩).ev ⟨?_⟩).ev ?_
    · simp only [depth] at hl
      rw [List.length_map, List.length_singleton]; omega
    · rw [hq, hc]; simp
  all_goals
    rw [hc] at hl
    simp only [depth] at *
    k_offL
    refine ⟨_, Nat.lt_succ_self _, _, hs ++ [q], ?_, rfl, ?_, ?_⟩
    · rw [hq, hc]; simp
    · simp; omega
    · rw [List.map_append, hc]; rfl
end
section

theorem ok__law_size {P : Program} {w : World} {K : PySem.W.Frag} {mg : Str → Option Value} {base : Heap} {a_MONTHS a_BEARING C_HourError C_NoRule C_NoName C_Taken C_Stranger C_Twice C_NoTime C_NoMeeting C_Clash C_Book : Addr} (T : Txt K mg a_MONTHS a_BEARING C_HourError C_NoRule C_NoName C_Taken C_Stranger C_Twice C_NoTime C_NoMeeting C_Clash C_Book)
    (c__law_heads : FnB P w K mg base CX0 2 "_law_heads" ["_law_rule"] (spV K R__law_heads)) :
    FnB P w K mg base CX0 3 "_law_size" ["_law_rule"] (spV K R__law_size) := by
  refine T.t__law_size.ok (fun _ _ _ _ _ _ us hl => match us, hl with | [_], _ => rfl) fun f fd F => fn_ok F sc__law_size (by rintro ds d ⟨r, hp, rfl, rfl⟩; rfl) fun cdv A outer s H E hr => ?_
  have hu66 := room66 hr
  have hu := hr.units
  have hu1 := Nat.lt_of_le_of_lt (Nat.add_le_add_left (show 1 ≤ 64 by decide) _) hu
  have nd := sc__law_size.nd
  refine ⟨_, (pss_cons (ps_set (i := 1) nd rfl (by first | exact Or.inl rfl | exact Or.inr rfl) (pe_ix (kx_seq (K := K) rfl) (pe_callF c__law_heads (hr.mono (by decide)) rfl pass0 (pa_cons (pv 0) pa_nil)) (pe_un un_neg pe_int) (fun _ _ => rfl)))
    (pss_cons (ps_if (pt_cmpR (ok_inA (K := K) rfl) (pe_ix (kx_seq (K := K) rfl) (pv 1) pe_int (fun _ _ => rfl)) (pe_lst (pa_cons pe_str (pa_cons pe_str pa_nil))) rfl) (pss_one (ps_ret (pe_ix (kx_seq (K := K) rfl) (pv 1) pe_int (fun _ _ => rfl)))) pss_nil)
    (pss_one (ps_ret (pe_ix (kx_seq (K := K) rfl) (pv 1) pe_int (fun _ _ => rfl)))))), ?_⟩
  clear hr hu hu1 hu66 nd F c__law_heads
  rintro ds d ⟨r, hp, rfl, rfl⟩
  show WpD _ _ _ [.dat (toD r), .no] _
  refine wp_seq (wp_asg (d := toD (core r)) ?_ ?_)
  · refine c_ixLs (i := -1) (v__law_heads (ea_cons (ev_var rfl) ea_nil) ⟨hp⟩) (ev_neg ev_int) ⟨atI_last (heads_last r)⟩
  dsimp only [List.set_cons_succ, List.set_cons_zero]
  have hp := plain_core r
  rw [← size_core]
  generalize core r = q at *
  cases q <;> first | (exfalso; revert hp; simp; done) | k_offL
end
section

theorem ok__law_days {P : Program} {w : World} {K : PySem.W.Frag} {mg : Str → Option Value} {base : Heap} {a_MONTHS a_BEARING C_HourError C_NoRule C_NoName C_Taken C_Stranger C_Twice C_NoTime C_NoMeeting C_Clash C_Book : Addr} (T : Txt K mg a_MONTHS a_BEARING C_HourError C_NoRule C_NoName C_Taken C_Stranger C_Twice C_NoTime C_NoMeeting C_Clash C_Book) :
    FnB P w K mg base CX0 1 "_law_days" ["_law_year", "_law_month"] (spV K R__law_days) := by
  refine T.t__law_days.ok (fun _ _ _ _ _ _ us hl => match us, hl with | [_, _], _ => rfl) fun f fd F => fn_ok F sc__law_days (by rintro ds d ⟨y, m, hp, rfl, rfl⟩; rfl) fun cdv A outer s H E hr => ?_
  have hu66 := room66 hr
  have hu := hr.units
  have hu1 := Nat.lt_of_le_of_lt (Nat.add_le_add_left (show 1 ≤ 64 by decide) _) hu
  have nd := sc__law_days.nd
  refine ⟨_, (pss_cons (ps_set (i := 2) nd rfl (by first | exact Or.inl rfl | exact Or.inr rfl) (pe_lst (pa_cons pe_int (pa_cons pe_int (pa_cons pe_int (pa_cons pe_int (pa_cons pe_int (pa_cons pe_int (pa_cons pe_int (pa_cons pe_int (pa_cons pe_int (pa_cons pe_int (pa_cons pe_int (pa_cons pe_int pa_nil))))))))))))))
    (pss_one (ps_ret (pe_op (ok_addA (K := K) rfl) (pe_ix (kx_seq (K := K) rfl) (pv 2) (pe_op op_subI (pv 1) pe_int) (fun _ _ => rfl)) (pe_callTy call_intA rfl T.b_int bb_int (pa_cons (pe_and (pe_cmpR (ok_eqA (K := K) rfl hu) (pv 1) pe_int (nomark _)) (pe_one (pe_cmpR (ok_eqA (K := K) rfl hu) (pe_op op_modI (pv 0) pe_int) pe_int (nomark _)))) pa_nil)))))), ?_⟩
  clear hr hu hu1 hu66 nd F
  rintro ds d ⟨y, m, hp, rfl, rfl⟩
  show WpD _ _ _ [.dat (.int y), .dat (.int m), .no] _
  k_offL
  · by_cases h : m = 2 ∧ y % 4 = 0
    · obtain ⟨rfl, h2⟩ := h; simp [monthDays, MD, h2]
    · have h' : (decide (m = 2) && decide (y % 4 = 0)) = false := by simpa using h
      rw [h']; unfold monthDays; rw [if_neg h]; simp [MD]
end
section

theorem ok__law_in_month {P : Program} {w : World} {K : PySem.W.Frag} {mg : Str → Option Value} {base : Heap} {a_MONTHS a_BEARING C_HourError C_NoRule C_NoName C_Taken C_Stranger C_Twice C_NoTime C_NoMeeting C_Clash C_Book : Addr} (T : Txt K mg a_MONTHS a_BEARING C_HourError C_NoRule C_NoName C_Taken C_Stranger C_Twice C_NoTime C_NoMeeting C_Clash C_Book)
    (c__law_days : FnB P w K mg base CX0 1 "_law_days" ["_law_year", "_law_month"] (spV K R__law_days)) :
    FnB P w K mg base CX0 2 "_law_in_month" ["_law_day"] (spV K R__law_in_month) := by
  refine T.t__law_in_month.ok (fun _ _ _ _ _ _ us hl => match us, hl with | [_], _ => rfl) fun f fd F => fn_ok F sc__law_in_month (by rintro ds d ⟨d0, hp, rfl, rfl⟩; rfl) fun cdv A outer s H E hr => ?_
  have hu66 := room66 hr
  have hu := hr.units
  have hu1 := Nat.lt_of_le_of_lt (Nat.add_le_add_left (show 1 ≤ 64 by decide) _) hu
  have nd := sc__law_in_month.nd
  refine ⟨_, (pss_cons (ps_set (i := 1) nd rfl (by first | exact Or.inl rfl | exact Or.inr rfl) (pe_op op_modI (pv 0) pe_int))
    (pss_cons (ps_set (i := 2) nd rfl (by first | exact Or.inl rfl | exact Or.inr rfl) pe_int)
    (pss_cons (ps_set (i := 3) nd rfl (by first | exact Or.inl rfl | exact Or.inr rfl) pe_int)
    (pss_cons (ps_while PassesOwn.never (pt_cmpR op_geI (pv 1) (pe_callF c__law_days (hr.mono (by decide)) rfl pass0 (pa_cons (pv 2) (pa_cons (pv 3) pa_nil))) (nomark _)) (pss_cons (ps_set (i := 1) nd rfl (by first | exact Or.inl rfl | exact Or.inr rfl) (pe_op op_subI (pv 1) (pe_callF c__law_days (hr.mono (by decide)) rfl pass0 (pa_cons (pv 2) (pa_cons (pv 3) pa_nil)))))
    (pss_cons (ps_set (i := 2) nd rfl (by first | exact Or.inl rfl | exact Or.inr rfl) (pe_op (ok_addA (K := K) rfl) (pv 2) (pe_op op_divI (pv 3) pe_int)))
    (pss_one (ps_set (i := 3) nd rfl (by first | exact Or.inl rfl | exact Or.inr rfl) (pe_op (ok_addA (K := K) rfl) (pe_op op_modI (pv 3) pe_int) pe_int))))))
    (pss_one (ps_ret (pe_lst (pa_cons (pe_op (ok_addA (K := K) rfl) (pv 1) pe_int) (pa_cons (pe_op op_subI (pv 1) (pe_callF c__law_days (hr.mono (by decide)) rfl pass0 (pa_cons (pv 2) (pa_cons (pv 3) pa_nil)))) pa_nil))))))))), ?_⟩
  clear hr hu hu1 hu66 nd F c__law_days
  rintro ds d ⟨d0, hp, rfl, rfl⟩
  show WpD _ _ _ [.dat (.int d0), .no, .no, .no] _
  k_offL
  refine wp_wh (fun n Γ' => ∃ y m r : Int, 1 ≤ m ∧ m ≤ 12 ∧ 0 ≤ r ∧ dayOf y m (r + 1) = d0 % 1461 ∧ r.toNat = n ∧ Γ' = [.dat (.int d0), .dat (.int r), .dat (.int y), .dat (.int m)]) (d0 % 1461).toNat ⟨0, 1, d0 % 1461, by omega, by omega, by omega, by unfold dayOf; rw [cum_one]; simp [ybase], rfl, rfl⟩ ?_
  rintro _ _ ⟨y, m, r, h1, h2, h3, h4, rfl, rfl⟩
  have hp := monthDays_pos y h1 h2
  k_offL
  · exact ⟨_, by omega, y + m / 12, m % 12 + 1, r - monthDays y m, by omega, by omega, by omega, by rw [inMonth_step h1 h2, h4], rfl, rfl⟩
  · obtain ⟨e1, e2⟩ := inMonth_end h1 h2 h3 (by omega) h4
    rw [e1, e2]
end
section

theorem ok__law_plain_begins {P : Program} {w : World} {K : PySem.W.Frag} {mg : Str → Option Value} {base : Heap} {a_MONTHS a_BEARING C_HourError C_NoRule C_NoName C_Taken C_Stranger C_Twice C_NoTime C_NoMeeting C_Clash C_Book : Addr} (T : Txt K mg a_MONTHS a_BEARING C_HourError C_NoRule C_NoName C_Taken C_Stranger C_Twice C_NoTime C_NoMeeting C_Clash C_Book)
    (c__law_in_month : FnB P w K mg base CX0 2 "_law_in_month" ["_law_day"] (spV K R__law_in_month)) :
    FnB P w K mg base CX0 3 "_law_plain_begins" ["_law_rule", "_law_hour"] (spV K R__law_plain_begins) := by
  refine T.t__law_plain_begins.ok (fun _ _ _ _ _ _ us hl => match us, hl with | [_, _], _ => rfl) fun f fd F => fn_ok F sc__law_plain_begins (by rintro ds d ⟨r, x, hp, rfl, rfl⟩; rfl) fun cdv A outer s H E hr => ?_
  have hu66 := room66 hr
  have hu := hr.units
  have hu1 := Nat.lt_of_le_of_lt (Nat.add_le_add_left (show 1 ≤ 64 by decide) _) hu
  have nd := sc__law_plain_begins.nd
  refine ⟨_, (pss_cons (ps_if (pt_cmpR (ok_eqA (K := K) rfl hu) (pe_ix (kx_seq (K := K) rfl) (pv 0) pe_int (fun _ _ => rfl)) pe_str (nomark _)) (pss_one (ps_ret (pe_cmpR (ok_eqA (K := K) rfl hu) (pv 1) (pe_ix (kx_seq (K := K) rfl) (pv 0) pe_int (fun _ _ => rfl)) (nomark _)))) pss_nil)
    (pss_cons (ps_if (pt_cmpR (ok_eqA (K := K) rfl hu) (pe_ix (kx_seq (K := K) rfl) (pv 0) pe_int (fun _ _ => rfl)) pe_str (nomark _)) (pss_one (ps_ret (pe_and (pe_cmpR op_geI (pv 1) (pe_ix (kx_seq (K := K) rfl) (pv 0) pe_int (fun _ _ => rfl)) (nomark _)) (pe_one (pe_cmpR (ok_eqA (K := K) rfl hu) (pe_op op_modI (pe_op op_subI (pv 1) (pe_ix (kx_seq (K := K) rfl) (pv 0) pe_int (fun _ _ => rfl))) (pe_ix (kx_seq (K := K) rfl) (pv 0) pe_int (fun _ _ => rfl))) pe_int (nomark _)))))) pss_nil)
    (pss_cons (ps_if (PW.pt (pw_or (pt_cmpR op_ltI (pv 1) pe_int (nomark _)) (pw_or1 (pt_cmpR (ok_neA (K := K) rfl hu) (pe_op op_modI (pv 1) pe_int) (pe_ix (kx_seq (K := K) rfl) (pv 0) pe_int (fun _ _ => rfl)) (nomark _))))) (pss_one (ps_ret pe_bl)) pss_nil)
    (pss_cons (ps_if (pt_cmpR (ok_eqA (K := K) rfl hu) (pe_ix (kx_seq (K := K) rfl) (pv 0) pe_int (fun _ _ => rfl)) pe_str (nomark _)) (pss_one (ps_ret (pe_cmpR (ok_inA (K := K) rfl) (pe_op op_modI (pe_op op_divI (pv 1) pe_int) pe_int) (pe_ix (kx_seq (K := K) rfl) (pv 0) pe_int (fun _ _ => rfl)) rfl))) pss_nil)
    (pss_one (ps_ret (pe_cmpR (ok_inA (K := K) rfl) (pe_ix (kx_seq (K := K) rfl) (pv 0) pe_int (fun _ _ => rfl)) (pe_callF c__law_in_month (hr.mono (by decide)) rfl pass0 (pa_cons (pe_op op_divI (pv 1) pe_int) pa_nil)) rfl))))))), ?_⟩
  clear hr hu hu1 hu66 nd F c__law_in_month
  rintro ds d ⟨r, x, hp, rfl, rfl⟩
  show WpD _ _ _ [.dat (toD r), .dat (.int x)] _
  obtain ⟨hp, ho, hx⟩ := hp
  cases r <;> first | (exfalso; revert hp; simp; done) | simp only [toD, Ok] at *
  all_goals k_offL
  all_goals first | (simp_all; done) | (simp_all; omega) | trace_state
end
section

theorem ok__law_begun {P : Program} {w : World} {K : PySem.W.Frag} {mg : Str → Option Value} {base : Heap} {a_MONTHS a_BEARING C_HourError C_NoRule C_NoName C_Taken C_Stranger C_Twice C_NoTime C_NoMeeting C_Clash C_Book : Addr} (T : Txt K mg a_MONTHS a_BEARING C_HourError C_NoRule C_NoName C_Taken C_Stranger C_Twice C_NoTime C_NoMeeting C_Clash C_Book)
    (c__law_heads : FnB P w K mg base CX0 2 "_law_heads" ["_law_rule"] (spV K R__law_heads))
    (c__law_plain_begins : FnB P w K mg base CX0 3 "_law_plain_begins" ["_law_rule", "_law_hour"] (spV K R__law_plain_begins)) :
    FnB P w K mg base CX0 4 "_law_begun" ["_law_rule", "_law_hour"] (spV K R__law_begun) := by
  refine T.t__law_begun.ok (fun _ _ _ _ _ _ us hl => match us, hl with | [_, _], _ => rfl) fun f fd F => fn_ok F sc__law_begun (by rintro ds d ⟨r, x, hp, rfl, rfl⟩; rfl) fun cdv A outer s H E hr => ?_
  have hu66 := room66 hr
  have hu := hr.units
  have hu1 := Nat.lt_of_le_of_lt (Nat.add_le_add_left (show 1 ≤ 64 by decide) _) hu
  have nd := sc__law_begun.nd
  refine ⟨_, (pss_cons (ps_set (i := 2) nd rfl (by first | exact Or.inl rfl | exact Or.inr rfl) (pe_callF c__law_heads (hr.mono (by decide)) rfl pass0 (pa_cons (pv 0) pa_nil)))
    (pss_cons (ps_set (i := 3) nd rfl (by first | exact Or.inl rfl | exact Or.inr rfl) (pe_callF c__law_plain_begins (hr.mono (by decide)) rfl pass0 (pa_cons (pe_ix (kx_seq (K := K) rfl) (pv 2) (pe_un un_neg pe_int) (fun _ _ => rfl)) (pa_cons (pv 1) pa_nil))))
    (pss_cons (ps_for PassesOwn.never rfl (ki_rev (K := K) rfl rfl T.b_reversed (pe_slice (kl_any (K := K) rfl) (pv 2) po_none (po_some (pe_un un_neg pe_int)))) (pg_name (i := 4) nd rfl (by first | exact Or.inl rfl | exact Or.inr rfl)) (pss_one (ps_if (pt_cmpR (ok_eqA (K := K) rfl hu) (pe_ix (kx_seq (K := K) rfl) (pv 4) pe_int (fun _ _ => rfl)) pe_str (nomark _)) (pss_one (ps_set (i := 3) nd rfl (by first | exact Or.inl rfl | exact Or.inr rfl) (pe_and (pv 3) (pe_one (pe_cmpR op_geI (pv 1) (pe_ix (kx_seq (K := K) rfl) (pv 4) pe_int (fun _ _ => rfl)) (nomark _)))))) (pss_one (ps_if (pt_cmpR (ok_eqA (K := K) rfl hu) (pe_ix (kx_seq (K := K) rfl) (pv 4) pe_int (fun _ _ => rfl)) pe_str (nomark _)) (pss_one (ps_set (i := 3) nd rfl (by first | exact Or.inl rfl | exact Or.inr rfl) (pe_and (pv 3) (pe_one (pe_cmpR op_ltI (pv 1) (pe_ix (kx_seq (K := K) rfl) (pv 4) pe_int (fun _ _ => rfl)) (nomark _)))))) (pss_one (ps_if (pt_cmpR (ok_eqA (K := K) rfl hu) (pe_ix (kx_seq (K := K) rfl) (pv 4) pe_int (fun _ _ => rfl)) pe_str (nomark _)) (pss_one (ps_set (i := 3) nd rfl (by first | exact Or.inl rfl | exact Or.inr rfl) (pe_or (pv 3) (pe_one (pe_cmpR (ok_eqA (K := K) rfl hu) (pv 1) (pe_ix (kx_seq (K := K) rfl) (pv 4) pe_int (fun _ _ => rfl)) (nomark _)))))) (pss_one (ps_set (i := 3) nd rfl (by first | exact Or.inl rfl | exact Or.inr rfl) (pe_and (pv 3) (pe_one (pe_cmpR (ok_notInA (K := K) rfl) (pe_op op_divI (pv 1) pe_int) (pe_ix (kx_seq (K := K) rfl) (pv 4) pe_int (fun _ _ => rfl)) rfl))))))))))))
    (pss_one (ps_ret (pv 3)))))), ?_⟩
  clear hr hu hu1 hu66 nd F c__law_heads c__law_plain_begins
  rintro ds d ⟨r, x, hp, rfl, rfl⟩
  show WpD _ _ _ [.dat (toD r), .dat (.int x), .no, .no, .no] _
  obtain ⟨hd, ho, hx⟩ := hp
  refine wp_seq (wp_asg (d := .list ((heads r).map toD)) ?_ ?_)
  · k_clsL
  dsimp only [List.set_cons_succ, List.set_cons_zero]
  refine wp_seq (wp_asg (d := .bool (beg (core r) x)) (v__law_plain_begins (ea_cons (c_ixLs (i := -1) (ev_var rfl) (ev_neg ev_int) ⟨atI_last (heads_last r)⟩) (ea_cons (ev_var rfl) ea_nil)) ⟨plain_core r, ho.core, hx⟩) ?_)
  dsimp only [List.set_cons_succ, List.set_cons_zero]
  refine wp_seq (wp_fold (zs := (heads r).dropLast.reverse) (c := toD) (lets x) (beg (core r) x) .no (fun s e => [.dat (toD r), .dat (.int x), .dat (.list ((heads r).map toD)), .dat (.bool s), e]) (fun _ _ => True) (it_to (it_rev_list (ev_cut_last (ev_var rfl))) List.map_reverse.symm) rfl trivial ?_ ?_)
  · intro i s q e hq _ _
    have hb := heads_bear r q (List.mem_reverse.mp hq)
    dsimp only [List.set_cons_succ, List.set_cons_zero]
    cases q <;> first | (exfalso; revert hb; simp; done) | k_offL
    all_goals exact ⟨trivial, _, rfl⟩
  · intro e _
    rw [begun_fold]
    k_offL
end
section

theorem ok__law_lasts {P : Program} {w : World} {K : PySem.W.Frag} {mg : Str → Option Value} {base : Heap} {a_MONTHS a_BEARING C_HourError C_NoRule C_NoName C_Taken C_Stranger C_Twice C_NoTime C_NoMeeting C_Clash C_Book : Addr} (T : Txt K mg a_MONTHS a_BEARING C_HourError C_NoRule C_NoName C_Taken C_Stranger C_Twice C_NoTime C_NoMeeting C_Clash C_Book)
    (c__law_size : FnB P w K mg base CX0 3 "_law_size" ["_law_rule"] (spV K R__law_size))
    (c__law_begun : FnB P w K mg base CX0 4 "_law_begun" ["_law_rule", "_law_hour"] (spV K R__law_begun)) :
    FnB P w K mg base CX0 5 "_law_lasts" ["_law_rule", "_law_hour"] (spV K R__law_lasts) := by
  refine T.t__law_lasts.ok (fun _ _ _ _ _ _ us hl => match us, hl with | [_, _], _ => rfl) fun f fd F => fn_ok F sc__law_lasts (by rintro ds d ⟨r, x, hp, rfl, rfl⟩; rfl) fun cdv A outer s H E hr => ?_
  have hu66 := room66 hr
  have hu := hr.units
  have hu1 := Nat.lt_of_le_of_lt (Nat.add_le_add_left (show 1 ≤ 64 by decide) _) hu
  have nd := sc__law_lasts.nd
  refine ⟨_, (pss_cons (ps_for PassesOwn.never rfl (pi_range1 rfl T.b_range (pa_cons (pe_callF c__law_size (hr.mono (by decide)) rfl pass0 (pa_cons (pv 0) pa_nil)) pa_nil)) (pg_name (i := 2) nd rfl (by first | exact Or.inl rfl | exact Or.inr rfl)) (pss_one (ps_if (PW.pt (pw_and (pt_cmpR op_geI (pv 1) (pv 2) (nomark _)) (pw_and1 (pt_val (pe_callF c__law_begun (hr.mono (by decide)) rfl pass0 (pa_cons (pv 0) (pa_cons (pe_op op_subI (pv 1) (pv 2)) pa_nil))))))) (pss_one (ps_ret pe_bl)) pss_nil)))
    (pss_one (ps_ret pe_bl))), ?_⟩
  clear hr hu hu1 hu66 nd F c__law_size c__law_begun
  rintro ds d ⟨r, x, hp, rfl, rfl⟩
  show WpD _ _ _ [.dat (toD r), .dat (.int x), .no] _
  obtain ⟨hd, ho, h1, h2⟩ := hp
  have hb0 : ∀ i : Nat, begins r (x - (0 + (i : Int))) = (decide (0 + (i : Int) ≤ x) && beg r (x - (0 + (i : Int)))) := fun i => by
    unfold begins
    congr 1
    rw [decide_eq_decide]; omega
  refine wp_seq (wp_forn (xs := (List.range (size r).toNat).map fun k : Nat => .int (0 + (k : Int))) (fun i Γ' => ∃ e, (∀ k, k < i → begins r (x - (0 + (k : Int))) = false) ∧ Γ' = [.dat (toD r), .dat (.int x), e]) (w_rng1 (n := size r) ?_ ⟨by omega⟩ ⟨by omega⟩) ⟨_, (fun k hk => absurd hk (Nat.not_lt_zero k)), rfl⟩ ?_ ?_)
  · k_clsL
  · rintro i y _ hx ⟨e, hb, rfl⟩
    have hi := (List.getElem?_eq_some_iff.mp hx).1
    rw [List.length_map, List.length_range] at hi
    rw [List.getElem?_map, List.getElem?_range hi] at hx
    obtain rfl := Option.some.inj hx
    dsimp only [List.set_cons_succ, List.set_cons_zero]
    refine wp_if (b := begins r (x - (0 + (i : Int)))) (et_to (et_and (a := decide (0 + (i : Int) ≤ x)) (b := beg r (x - (0 + (i : Int)))) (et_test (by k_clsL)) fun h0 => et_test (v__law_begun (ea_cons (ev_var rfl) (ea_cons (by k_clsL) ea_nil)) ⟨hd, ho, by have := of_decide_eq_true h0; omega⟩)) (hb0 i).symm) (fun hc => ?_) fun hc => wp_next ⟨_, fun k hk => ?_, rfl⟩
    · have : covers r x = true := List.any_eq_true.mpr ⟨i, List.mem_range.mpr hi, hc⟩
      exact wp_ret ev_bl (by rw [this])
    · rcases Nat.lt_succ_iff_lt_or_eq.mp hk with h | rfl
      · exact hb k h
      · exact hc
  rintro _ ⟨e, hb, rfl⟩
  rw [List.length_map, List.length_range] at hb
  have : covers r x = false := List.any_eq_false.mpr fun k hk => by rw [hb k (List.mem_range.mp hk)]; simp
  exact wp_ret ev_bl (by rw [this])
end
section

theorem ok__law_open {P : Program} {w : World} {K : PySem.W.Frag} {mg : Str → Option Value} {base : Heap} {a_MONTHS a_BEARING C_HourError C_NoRule C_NoName C_Taken C_Stranger C_Twice C_NoTime C_NoMeeting C_Clash C_Book : Addr} (T : Txt K mg a_MONTHS a_BEARING C_HourError C_NoRule C_NoName C_Taken C_Stranger C_Twice C_NoTime C_NoMeeting C_Clash C_Book)
    (c__law_lasts : FnB P w K mg base CX0 5 "_law_lasts" ["_law_rule", "_law_hour"] (spV K R__law_lasts)) :
    FnB P w K mg base CX0 6 "_law_open" ["_law_one", "_law_hour"] (spW (uw K) R__law_open) := by
  refine T.t__law_open.ok (fun _ _ _ _ _ _ us hl => match us, hl with | [_, _], _ => rfl) fun f fd F => fn_okW F sc__law_open (by rintro es s0 O ⟨s, x, h, hp, rfl, rfl, rfl⟩; rfl) fun cdv A outer s H E hr => ?_
  have hu66 := room66 hr
  have hu := hr.units
  have hu1 := Nat.lt_of_le_of_lt (Nat.add_le_add_left (show 1 ≤ 64 by decide) _) hu
  have nd := sc__law_open.nd
  refine ⟨_, (pss_cons (ps_if (pt_val (pe_callB (kc_any (K := K) rfl rfl) rfl T.b_any bb_any (pa_cons (pe_lc (own := [("_law_at", 2), ("_law_size_here", 3)]) rfl nd (ki_any (K := K) rfl (pe_ix (kx_seq (K := K) rfl) (pv 0) pe_int (fun _ _ => rfl))) (blkOk_by (N := ["_law_one", "_law_hour", "_law_at", "_law_size_here", "_law_rule"]) (sc := defScope s__law_open) (by decide +kernel)) (fun _ _ _ _ _ => (kg_tup (K := K) (n := 2) rfl rfl (pgs_cons (pg_name (i := 2) nd rfl (by first | exact Or.inl rfl | exact Or.inr rfl)) (pgs_cons (pg_name (i := 3) nd rfl (by first | exact Or.inl rfl | exact Or.inr rfl)) pgs_nil)))) (fun _ _ _ _ _ => pts_nil) (fun _ _ _ _ _ => (pe_and (pe_cmpR op_leI (pv 2) (pv 1) (nomark _)) (pe_one (pe_cmpR op_ltI (pv 1) (pe_op (ok_addA (K := K) rfl) (pv 2) (pv 3)) (nomark _)))))) pa_nil))) (pss_one (ps_ret pe_bl)) pss_nil)
    (pss_cons (ps_if (pt_not (pt_val (pe_callB (kc_any (K := K) rfl rfl) rfl T.b_any bb_any (pa_cons (pe_lc (own := [("_law_rule", 4)]) rfl nd (ki_any (K := K) rfl (pe_ix (kx_seq (K := K) rfl) (pv 0) pe_int (fun _ _ => rfl))) (blkOk_by (N := ["_law_one", "_law_hour", "_law_at", "_law_size_here", "_law_rule"]) (sc := defScope s__law_open) (by decide +kernel)) (fun _ _ _ _ _ => (pg_name (i := 4) nd rfl (by first | exact Or.inl rfl | exact Or.inr rfl))) (fun _ _ _ _ _ => pts_nil) (fun _ _ _ _ _ => (pe_callF c__law_lasts (hr.mono (by decide)) rfl pass0 (pa_cons (pv 4) (pa_cons (pv 1) pa_nil))))) pa_nil)))) (pss_one (ps_ret pe_bl)) pss_nil)
    (pss_one (ps_ret (pe_not (pe_callB (kc_any (K := K) rfl rfl) rfl T.b_any bb_any (pa_cons (pe_lc (own := [("_law_rule", 4)]) rfl nd (ki_any (K := K) rfl (pe_ix (kx_seq (K := K) rfl) (pv 0) pe_int (fun _ _ => rfl))) (blkOk_by (N := ["_law_one", "_law_hour", "_law_at", "_law_size_here", "_law_rule"]) (sc := defScope s__law_open) (by decide +kernel)) (fun _ _ _ _ _ => (pg_name (i := 4) nd rfl (by first | exact Or.inl rfl | exact Or.inr rfl))) (fun _ _ _ _ _ => pts_nil) (fun _ _ _ _ _ => (pe_callF c__law_lasts (hr.mono (by decide)) rfl pass0 (pa_cons (pv 4) (pa_cons (pv 1) pa_nil))))) pa_nil))))))), ?_⟩
  clear hr hu hu1 hu66 nd F c__law_lasts
  rintro es s0 O ⟨s, x, h, hp, rfl, rfl, rfl⟩
  show WpW _ _ _ [.val (.ref x.r), .dat (.int h), .no, .no, .no] (s) _
  obtain ⟨hr, ⟨k1, k2, k3, k4⟩, hm⟩ := hp
  have hb : ∀ (f : Rule → Bool) (rs : List Rule) (d : PyData), d ∈ rs.map (fun r => PyData.bool (f r)) → ∃ b, d = .bool b := fun f rs d hd => by
    obtain ⟨r, _, rfl⟩ := List.mem_map.mp hd
    exact ⟨_, rfl⟩
  refine ww_pure ?_
  refine wp_seq (wp_if (b := x.mt.any fun y => decide (y.1 ≤ h) && decide (h < y.1 + y.2)) (et_test (ev_to (ev_cb (ea_cons (EvF.ev (w_lc2 (zs := x.mt) (c1 := fun y => .int y.1) (c2 := fun y => .int y.2) (h := fun y => .bool (decide (y.1 ≤ h) && decide (h < y.1 + y.2))) (it_cell (er_mt hr (ee_val rfl)) hr.m.ls) ⟨by omega⟩ ⟨by decide⟩ ⟨by decide⟩ fun y hy => ?_)) ea_nil) (cq_any ⟨?_⟩)) ?_)) (fun hc => wp_ret ev_bl ?_) fun hc => wp_next ?_)
  · exact ev_andV (by k_clsL) fun _ => by k_clsL
  · intro d hd
    obtain ⟨r, _, rfl⟩ := List.mem_map.mp hd
    exact ⟨_, rfl⟩
  · rw [List.any_map]; rfl
  · unfold openL; rw [hc]; rfl
  dsimp only
  refine wp_seq (wp_if (b := !(x.fr.any fun r => covers r h)) (et_not (et_test (ev_to (ev_cb (ea_cons (EvF.ev (w_lcm (zs := x.fr) (c := toD) (h := fun r => .bool (covers r h)) (it_cell (er_fr hr (ee_val rfl)) hr.f.ls) ⟨by have := k3.few; omega⟩ ⟨by decide⟩ fun y hy => ?_)) ea_nil) (cq_any ⟨hb _ _⟩)) ?_))) (fun hc2 => wp_ret ev_bl ?_) fun hc2 => wp_next ?_)
  · have g := (k3.good y hy).1.cov
    exact v__law_lasts (ea_cons (ev_var rfl) (ea_cons (ev_var rfl) ea_nil)) ⟨by have := (k3.good y hy).2; omega, g.1, g.2⟩
  · rw [List.any_map]; rfl
  · have hc2 : (x.fr.any fun r => covers r h) = false := by simpa using hc2
    unfold openL; rw [hc, hc2]; rfl
  have hc2 : (x.fr.any fun r => covers r h) = true := by simpa using hc2
  dsimp only
  refine wp_ret (d := .bool (!(x.bz.any fun r => covers r h))) (ev_notV (ev_to (ev_cb (ea_cons (EvF.ev (w_lcm (zs := x.bz) (c := toD) (h := fun r => .bool (covers r h)) (it_cell (er_bz hr (ee_val rfl)) hr.t.ls) ⟨by have := k4.few; omega⟩ ⟨by decide⟩ fun y hy => ?_)) ea_nil) (cq_any ⟨hb _ _⟩)) ?_)) ?_
  · have g := (k4.good y hy).1.cov
    exact v__law_lasts (ea_cons (ev_var rfl) (ea_cons (ev_var rfl) ea_nil)) ⟨by have := (k4.good y hy).2; omega, g.1, g.2⟩
  · rw [List.any_map]; rfl
  · unfold openL; rw [hc, hc2]; rfl
end
section

theorem ok__law_all_open {P : Program} {w : World} {K : PySem.W.Frag} {mg : Str → Option Value} {base : Heap} {a_MONTHS a_BEARING C_HourError C_NoRule C_NoName C_Taken C_Stranger C_Twice C_NoTime C_NoMeeting C_Clash C_Book : Addr} (T : Txt K mg a_MONTHS a_BEARING C_HourError C_NoRule C_NoName C_Taken C_Stranger C_Twice C_NoTime C_NoMeeting C_Clash C_Book)
    (c__law_open : FnB P w K mg base CX0 6 "_law_open" ["_law_one", "_law_hour"] (spW (uw K) R__law_open)) :
    FnB P w K mg base CX0 7 "_law_all_open" ["_law_at", "_law_some", "_law_hours"] (spW (uw K) R__law_all_open) := by
  refine T.t__law_all_open.ok (fun _ _ _ _ _ _ us hl => match us, hl with | [_, _, _], _ => rfl) fun f fd F => fn_okW F sc__law_all_open (by rintro es s0 O ⟨s, qv, vs, y, h, hp, rfl, rfl, rfl⟩; rfl) fun cdv A outer s H E hr => ?_
  have hu66 := room66 hr
  have hu := hr.units
  have hu1 := Nat.lt_of_le_of_lt (Nat.add_le_add_left (show 1 ≤ 64 by decide) _) hu
  have nd := sc__law_all_open.nd
  refine ⟨_, (pss_cons (ps_for PassesOwn.never rfl (ki_any (K := K) rfl (pv 1)) (pg_name (i := 3) nd rfl (by first | exact Or.inl rfl | exact Or.inr rfl)) (pss_one (ps_for PassesOwn.never rfl (pi_range1 rfl T.b_range (pa_cons (pv 2) pa_nil)) (pg_name (i := 4) nd rfl (by first | exact Or.inl rfl | exact Or.inr rfl)) (pss_one (ps_if (pt_not (pt_val (pe_callF c__law_open (hr.mono (by decide)) rfl pass0 (pa_cons (pv 3) (pa_cons (pe_op (ok_addA (K := K) rfl) (pv 0) (pv 4)) pa_nil))))) (pss_one (ps_ret pe_bl)) pss_nil)))))
    (pss_one (ps_ret pe_bl))), ?_⟩
  clear hr hu hu1 hu66 nd F c__law_open
  rintro es s0 O ⟨s, qv, vs, y, h, hp, rfl, rfl, rfl⟩
  show WpW _ _ _ [.dat (.int y), .val (.ref qv), .dat (.int h), .no, .no] (s) _
  obtain ⟨⟨hv1, hv2, hv3⟩, ⟨h1, h2⟩, ha⟩ := hp
  refine ww_seq (ww_forV (q := qv) (ws := refsR vs) (fun i Γ' s' => ∃ e3 e4, s' = s ∧ Γ' = [.dat (.int y), .val (.ref qv), .dat (.int h), e3, e4]) rfl (ee_val rfl) (by rintro _ _ _ ⟨_, _, rfl, _⟩; exact hv1) ⟨_, _, rfl, rfl⟩ ?_ ?_)
  · rintro i u _ _ hx ⟨e3, e4, rfl, rfl⟩
    obtain ⟨v, hxx, rfl⟩ := refs_get hx
    have hvm := List.mem_of_getElem? hxx
    obtain ⟨r1, r2, r3⟩ := hv2 v hvm
    dsimp only [List.set_cons_succ, List.set_cons_zero]
    refine ww_pure (wp_forn (xs := (List.range h.toNat).map fun k : Nat => .int (0 + (k : Int))) (fun j Γ' => ∃ e4, Γ' = [.dat (.int y), .val (.ref qv), .dat (.int h), .val (.ref v.r), e4]) (w_rng1 (ea_cons (ev_var rfl) ea_nil) ⟨by omega⟩ ⟨by omega⟩) ⟨_, rfl⟩ ?_ ?_)
    · rintro j d _ hx ⟨e4, rfl⟩
      have hj := (List.getElem?_eq_some_iff.mp hx).1
      rw [List.length_map, List.length_range] at hj
      rw [List.getElem?_map, List.getElem?_range hj] at hx
      obtain rfl := Option.some.inj hx
      dsimp only [List.set_cons_succ, List.set_cons_zero]
      refine wp_if (b := !openL v (y + (0 + (j : Int)))) (et_not (et_test (v__law_open (eae_cons (ee_val rfl) (eae_cons (ee_dat (by k_clsL)) eae_nil)) ⟨r1, r2, r3⟩))) (fun w => ?_) fun _ => wp_next ⟨_, rfl⟩
      rw [ha (0 + (j : Int)) (by omega) (by omega) v hvm] at w; cases w
    rintro _ ⟨e4, rfl⟩
    exact ⟨_, _, rfl, rfl⟩
  rintro _ _ ⟨e3, e4, rfl, rfl⟩
  exact ww_pure (wp_ret ev_bl rfl)
end
section

theorem ok__law_row_holds {P : Program} {w : World} {K : PySem.W.Frag} {mg : Str → Option Value} {base : Heap} {a_MONTHS a_BEARING C_HourError C_NoRule C_NoName C_Taken C_Stranger C_Twice C_NoTime C_NoMeeting C_Clash C_Book : Addr} (T : Txt K mg a_MONTHS a_BEARING C_HourError C_NoRule C_NoName C_Taken C_Stranger C_Twice C_NoTime C_NoMeeting C_Clash C_Book)
    (c__law_whole : FnB P w K mg base CX0 1 "_law_whole" ["_law_found"] (spV K R__law_whole))
    (c__law_open : FnB P w K mg base CX0 6 "_law_open" ["_law_one", "_law_hour"] (spW (uw K) R__law_open)) :
    FnB P w K mg base CX0 7 "_law_row_holds" ["_law_row", "_law_some", "_law_hours", "_law_place"] (spW (uw K) R__law_row_holds) := by
  refine T.t__law_row_holds.ok (fun _ _ _ _ _ _ us hl => match us, hl with | [_, _, _, _], _ => rfl) fun f fd F => fn_okW F sc__law_row_holds (by rintro es s0 O ⟨s, qv, vs, x, b1, z, h, n, hp, rfl, rfl, rfl⟩; rfl) fun cdv A outer s H E hr => ?_
  have hu66 := room66 hr
  have hu := hr.units
  have hu1 := Nat.lt_of_le_of_lt (Nat.add_le_add_left (show 1 ≤ 64 by decide) _) hu
  have nd := sc__law_row_holds.nd
  refine ⟨_, (pss_cons (ps_if (PW.pt (pw_or (pt_not (pt_val (pe_callB (kc_isi (K := K) rfl) rfl T.b_isinstance bb_isinstance (pa_cons (pv 0) (pa_cons (pe_ty T.b_tuple bb_tuple rfl) pa_nil))))) (pw_or (pt_cmpR (ok_neA (K := K) rfl hu) (pe_callB (kc_len (K := K) rfl) rfl T.b_len bb_len (pa_cons (pv 0) pa_nil)) pe_int (nomark _)) (pw_or1 (pt_not (pt_val (pe_callB (kc_isi (K := K) rfl) rfl T.b_isinstance bb_isinstance (pa_cons (pe_ix (kx_seq (K := K) rfl) (pv 0) pe_int (fun _ _ => rfl)) (pa_cons (pe_ty T.b_str bb_str rfl) pa_nil))))))))) (pss_one (ps_ret pe_bl)) pss_nil)
    (pss_cons (ps_if (PW.pt (pw_or (pt_not (pt_val (pe_callF c__law_whole (hr.mono (by decide)) rfl pass0 (pa_cons (pe_ix (kx_seq (K := K) rfl) (pv 0) pe_int (fun _ _ => rfl)) pa_nil)))) (pw_or (pt_not (pt_val (pe_callF c__law_whole (hr.mono (by decide)) rfl pass0 (pa_cons (pe_ix (kx_seq (K := K) rfl) (pv 0) pe_int (fun _ _ => rfl)) pa_nil)))) (pw_or1 (pt_not (pt_val (pe_callF c__law_whole (hr.mono (by decide)) rfl pass0 (pa_cons (pe_ix (kx_seq (K := K) rfl) (pv 0) pe_int (fun _ _ => rfl)) pa_nil)))))))) (pss_one (ps_ret pe_bl)) pss_nil)
    (pss_cons (ps_if (PW.pt (pw_or (pt_cmpR (ok_neA (K := K) rfl hu) (pe_ix (kx_seq (K := K) rfl) (pv 0) pe_int (fun _ _ => rfl)) (pv 3) (nomark _)) (pw_or (pt_cmpR op_ltI (pe_ix (kx_seq (K := K) rfl) (pv 0) pe_int (fun _ _ => rfl)) (pv 3) (nomark _)) (pw_or1 (pt_not (pt_chain op_leI op_ltI (pe_ix (kx_seq (K := K) rfl) (pv 0) pe_int (fun _ _ => rfl)) (pe_ix (kx_seq (K := K) rfl) (pv 0) pe_int (fun _ _ => rfl)) (pe_op (ok_addA (K := K) rfl) (pe_ix (kx_seq (K := K) rfl) (pv 0) pe_int (fun _ _ => rfl)) (pv 2)))))))) (pss_one (ps_ret pe_bl)) pss_nil)
    (pss_one (ps_ret (pe_callB (kc_any (K := K) rfl rfl) rfl T.b_any bb_any (pa_cons (pe_lc (own := [("_law_one", 4)]) rfl nd (ki_any (K := K) rfl (pv 1)) (blkOk_by (N := ["_law_row", "_law_some", "_law_hours", "_law_place", "_law_one"]) (sc := defScope s__law_row_holds) (by decide +kernel)) (fun _ _ _ _ _ => (pg_name (i := 4) nd rfl (by first | exact Or.inl rfl | exact Or.inr rfl))) (fun _ _ _ _ _ => pts_nil) (fun _ _ _ _ _ => (pe_and (pe_cmpR (ok_eqA (K := K) rfl hu) (pe_ix (kx_seq (K := K) rfl) (pv 4) pe_int (fun _ _ => rfl)) (pe_ix (kx_seq (K := K) rfl) (pv 0) pe_int (fun _ _ => rfl)) (nomark _)) (pe_one (pe_not (pe_callF c__law_open (hr.mono (by decide)) rfl pass0 (pa_cons (pv 4) (pa_cons (pe_ix (kx_seq (K := K) rfl) (pv 0) pe_int (fun _ _ => rfl)) pa_nil)))))))) pa_nil))))))), ?_⟩
  clear hr hu hu1 hu66 nd F c__law_whole c__law_open
  rintro es s0 O ⟨s, qv, vs, x, b1, z, h, n, hp, rfl, rfl, rfl⟩
  show WpW _ _ _ [.dat (.tuple [.int x, .int b1, .str n, .int z]), .val (.ref qv), .dat (.int h), .dat (.int x), .no] (s) _
  obtain ⟨⟨hv1, hv2, hv3⟩, ⟨h1, h2, h3⟩, hnl, v0, hv0, hn0, ho0⟩ := hp
  refine ww_pure ?_
  refine wp_seq (wp_if (b := false) (et_to (by k_clsL) (by rfl)) (fun z => by cases z) fun _ => wp_next ?_)
  dsimp only
  refine wp_seq (wp_if (b := false) (et_to (by k_clsL) (by rfl)) (fun z => by cases z) fun _ => wp_next ?_)
  dsimp only
  refine wp_seq (wp_if (b := !decide (x = x) || (decide (b1 < x) || !(decide (b1 ≤ z) && decide (z < x + h)))) (by k_clsL) (fun w => ?_) fun _ => wp_next ?_)
  · rw [decide_eq_true rfl, decide_eq_true h2, decide_eq_true h3, decide_eq_false (show ¬ b1 < x by omega)] at w; cases w
  dsimp only
  refine wp_ret (ev_to (ev_cb (ea_cons (EvF.ev (ef_lcV (ys := vs) (c := fun v : PRow => V.ref v.r) (h := fun v => .bool (decide (v.name = n) && !openL v z)) (itv_cell (ee_val rfl) hv1) (by omega) (by decide) fun v hv => ?_)) ea_nil) (cq_any ⟨fun d hd => ?_⟩)) ?_) rfl
  · obtain ⟨r1, r2, r3⟩ := hv2 v hv
    refine ev_andV (ev_op (er_name r1 (ee_val rfl)) (ev_op (ev_var rfl) ev_int oq_ix2) od_eq_str) fun _ => ev_notV (v__law_open (eae_cons (ee_val rfl) (eae_cons (ee_dat (ev_op (ev_var rfl) ev_int oq_ix3)) eae_nil)) ⟨r1, r2, r3⟩)
  · obtain ⟨r, _, rfl⟩ := List.mem_map.mp hd
    exact ⟨_, rfl⟩
  · rw [List.any_map]
    congr 1
    refine List.any_eq_true.mpr ⟨v0, hv0, ?_⟩
    show boD (.bool (decide (v0.name = n) && !openL v0 z)) = true
    rw [hn0, ho0, decide_eq_true rfl]; rfl
end
section

theorem ok__law_holds {P : Program} {w : World} {K : PySem.W.Frag} {mg : Str → Option Value} {base : Heap} {a_MONTHS a_BEARING C_HourError C_NoRule C_NoName C_Taken C_Stranger C_Twice C_NoTime C_NoMeeting C_Clash C_Book : Addr} (T : Txt K mg a_MONTHS a_BEARING C_HourError C_NoRule C_NoName C_Taken C_Stranger C_Twice C_NoTime C_NoMeeting C_Clash C_Book)
    (c__law_all_open : FnB P w K mg base CX0 7 "_law_all_open" ["_law_at", "_law_some", "_law_hours"] (spW (uw K) R__law_all_open))
    (c__law_row_holds : FnB P w K mg base CX0 7 "_law_row_holds" ["_law_row", "_law_some", "_law_hours", "_law_place"] (spW (uw K) R__law_row_holds)) :
    FnB P w K mg base CX0 8 "_law_holds" ["_law_found", "_law_some", "_law_hours", "_law_start", "_law_end"] (spW (uw K) R__law_holds) := by
  refine T.t__law_holds.ok (fun _ _ _ _ _ _ us hl => match us, hl with | [_, _, _, _, _], _ => rfl) fun f fd F => fn_okW F sc__law_holds (by rintro es s0 O ⟨s, qv, vs, f, rs, h, st, en, hp, rfl, rfl, rfl⟩; rfl) fun cdv A outer s H E hr => ?_
  have hu66 := room66 hr
  have hu := hr.units
  have hu1 := Nat.lt_of_le_of_lt (Nat.add_le_add_left (show 1 ≤ 64 by decide) _) hu
  have nd := sc__law_holds.nd
  refine ⟨_, (pss_cons (ps_set (i := 5) nd rfl (by first | exact Or.inl rfl | exact Or.inr rfl) (pv 3))
    (pss_cons (ps_for PassesOwn.never rfl (ki_any (K := K) rfl (pe_ix (kx_seq (K := K) rfl) (pv 0) pe_int (fun _ _ => rfl))) (pg_name (i := 6) nd rfl (by first | exact Or.inl rfl | exact Or.inr rfl)) (pss_cons (ps_if (pt_not (pt_val (pe_callF c__law_row_holds (hr.mono (by decide)) rfl pass0 (pa_cons (pv 6) (pa_cons (pv 1) (pa_cons (pv 2) (pa_cons (pv 5) pa_nil))))))) (pss_one (ps_ret pe_bl)) pss_nil)
    (pss_one (ps_set (i := 5) nd rfl (by first | exact Or.inl rfl | exact Or.inr rfl) (pe_op (ok_addA (K := K) rfl) (pe_ix (kx_seq (K := K) rfl) (pv 6) pe_int (fun _ _ => rfl)) pe_int)))))
    (pss_cons (ps_if (pt_cmpR op_isNI (pe_ix (kx_seq (K := K) rfl) (pv 0) pe_int (fun _ _ => rfl)) pe_non (nomark _)) (pss_one (ps_ret (pe_cmpR (ok_eqA (K := K) rfl hu) (pv 5) (pe_callB (call_maxI rfl) rfl T.b_max bb_max (pa_cons (pv 3) (pa_cons (pe_op (ok_addA (K := K) rfl) (pe_op op_subI (pv 4) (pv 2)) pe_int) pa_nil))) (nomark _)))) pss_nil)
    (pss_cons (ps_if (PW.pt (pw_or (pt_cmpR (ok_neA (K := K) rfl hu) (pe_ix (kx_seq (K := K) rfl) (pv 0) pe_int (fun _ _ => rfl)) (pv 5) (nomark _)) (pw_or1 (pt_cmpR op_gtI (pe_op (ok_addA (K := K) rfl) (pe_ix (kx_seq (K := K) rfl) (pv 0) pe_int (fun _ _ => rfl)) (pv 2)) (pv 4) (nomark _))))) (pss_one (ps_ret pe_bl)) pss_nil)
    (pss_one (ps_ret (pe_callF c__law_all_open (hr.mono (by decide)) rfl pass0 (pa_cons (pe_ix (kx_seq (K := K) rfl) (pv 0) pe_int (fun _ _ => rfl)) (pa_cons (pv 1) (pa_cons (pv 2) pa_nil)))))))))), ?_⟩
  clear hr hu hu1 hu66 nd F c__law_all_open c__law_row_holds
  rintro es s0 O ⟨s, qv, vs, f, rs, h, st, en, hp, rfl, rfl, rfl⟩
  show WpW _ _ _ [.dat (.tuple [f, .list rs]), .val (.ref qv), .dat (.int h), .dat (.int st), .dat (.int en), .no, .no] (s) _
  obtain ⟨hv, hh, hF⟩ := hp
  obtain ⟨y, hr, hy⟩ := hF.ex
  have hle : st ≤ y := by have := hr.len; omega
  refine ww_pure ?_
  refine wp_seq (wp_asg (d := .int st) (by k_clsL) ?_)
  dsimp only [List.set_cons_succ, List.set_cons_zero]
  refine wp_seq (wp_forn (xs := rs) (fun i Γ' => ∃ (pl xi : Int) (e6 : Ent), RowsL vs h (en - h) xi (rs.drop i) y ∧ ((pl = st ∧ xi = st) ∨ (st ≤ en - h ∧ pl = if en - h + 1 < xi then en - h + 1 else xi)) ∧ st ≤ xi ∧ Γ' = [.dat (.tuple [f, .list rs]), .val (.ref qv), .dat (.int h), .dat (.int st), .dat (.int en), .dat (.int pl), e6]) (it_any_list (ev_op (ev_var rfl) ev_int oq_ix1)) ⟨st, st, _, hr, .inl ⟨rfl, rfl⟩, by omega, rfl⟩ ?_ ?_)
  · rintro i d _ hx ⟨pl, xi, e6, hR, hpl, hst, rfl⟩
    have hi := (List.getElem?_eq_some_iff.mp hx).1
    have hdr : rs.drop i = d :: rs.drop (i + 1) := by
      rw [List.drop_eq_getElem_cons hi]
      congr 1
      have := (List.getElem?_eq_some_iff.mp hx).2
      exact this
    rw [hdr] at hR
    obtain ⟨v, hvv, z, a1, a2, a3, a4, rfl, a6⟩ := hR
    have epl : pl = xi := by
      rcases hpl with ⟨rfl, rfl⟩ | ⟨_, e⟩
      · rfl
      · rw [if_neg (by omega)] at e; exact e
    subst epl
    have hb1 : pl ≤ (if en - h < z then en - h else z) ∧ (if en - h < z then en - h else z) ≤ z := by split <;> omega
    have hvl := (hv.2.1 v hvv).2.1.nl
    dsimp only [List.set_cons_succ, List.set_cons_zero]
    refine wp_seq (wp_if (b := !true) (et_not (et_test (v__law_row_holds (eae_cons (ee_dat (ev_var rfl)) (eae_cons (ee_val rfl) (eae_cons (ee_dat (ev_var rfl)) (eae_cons (ee_dat (ev_var rfl)) eae_nil)))) ⟨hv, ⟨hb1.1, hb1.2, a2⟩, by omega, v, hvv, rfl, a4⟩))) (fun w => by cases w) fun _ => wp_next ?_)
    dsimp only
    refine wp_asg (d := .int ((if en - h < z then en - h else z) + 1)) (ev_op (ev_op (ev_var rfl) ev_int oq_ix1) ev_int od_add_int) ⟨_, z + 1, _, a6, .inr ⟨by omega, ?_⟩, by omega, rfl⟩
    split <;> split <;> omega
  rintro _ ⟨pl, xi, e6, hR, hpl, hst, rfl⟩
  rw [List.drop_length] at hR
  obtain rfl : xi = y := hR
  dsimp only
  rcases hy with ⟨y1, y2, rfl⟩ | ⟨y1, rfl⟩
  · have epl : pl = xi := by
      rcases hpl with ⟨rfl, rfl⟩ | ⟨_, e⟩
      · rfl
      · rw [if_neg (by omega)] at e; exact e
    subst epl
    refine wp_seq (wp_if (b := false) (et_test (ev_to (ev_isN (ev_op (ev_var rfl) ev_int oq_ix0)) rfl)) (fun z => by cases z) fun _ => wp_next ?_)
    dsimp only
    refine wp_seq (wp_if (b := !decide (pl = pl) || decide (en < pl + h)) (by k_clsL) (fun w => ?_) fun _ => wp_next ?_)
    · rw [decide_eq_true rfl, decide_eq_false (by omega)] at w; cases w
    dsimp only
    exact wp_ret (v__law_all_open (eae_cons (ee_dat (ev_op (ev_var rfl) ev_int oq_ix0)) (eae_cons (ee_val rfl) (eae_cons (ee_dat (ev_var rfl)) eae_nil))) ⟨hv, hh, y2⟩) rfl
  · refine wp_seq (wp_if (b := true) (et_test (ev_to (ev_isN (ev_op (ev_var rfl) ev_int oq_ix0)) rfl)) (fun _ => ?_) (fun z => by cases z))
    refine wp_ret (d := .bool (decide (pl = if en - h + 1 > st then en - h + 1 else st))) (by k_clsL) ?_
    have : pl = if en - h + 1 > st then en - h + 1 else st := by
      rcases hpl with ⟨rfl, rfl⟩ | ⟨_, e⟩
      · rw [if_neg (by omega)]
      · rw [e]; split <;> split <;> omega
    rw [decide_eq_true this]
end
section

theorem ok__law_asked {P : Program} {w : World} {K : PySem.W.Frag} {mg : Str → Option Value} {base : Heap} {a_MONTHS a_BEARING C_HourError C_NoRule C_NoName C_Taken C_Stranger C_Twice C_NoTime C_NoMeeting C_Clash C_Book : Addr} (T : Txt K mg a_MONTHS a_BEARING C_HourError C_NoRule C_NoName C_Taken C_Stranger C_Twice C_NoTime C_NoMeeting C_Clash C_Book)
    (c_Book_first : MtB P w K mg base CX0 10 C_Book "first" ["self", "names", "hours", "start", "end"] (spW (uw K) (R_Book_first C_Book)))
    (c__law_is_told : FnB P w K mg base CX0 2 "_law_is_told" ["_law_found"] (spV K R__law_is_told))
    (c__law_holds : FnB P w K mg base CX0 8 "_law_holds" ["_law_found", "_law_some", "_law_hours", "_law_start", "_law_end"] (spW (uw K) R__law_holds)) :
    FnBG P w K mg base 11 "_law_asked" ["_law_book", "_law_some", "_law_asked_here"] (spW (uw K) (R__law_asked C_Book)) := by
  refine T.t__law_asked.okG (fun _ _ _ _ _ _ us hl => match us, hl with | [_, _, _], _ => rfl) fun f fd F => fn_okWG F sc__law_asked (by rintro es s0 O ⟨s, b, q, qv, a, l, xs, vs, h, st, en, lv, kept, hp, rfl, rfl, rfl⟩; rfl) fun cdv A outer s H E hgd hr => ?_
  have hu66 := room66 hr
  have hu := hr.units
  have hu1 := Nat.lt_of_le_of_lt (Nat.add_le_add_left (show 1 ≤ 64 by decide) _) hu
  have nd := sc__law_asked.nd
  refine ⟨_, (pss_cons (ps_setLc (i := 3) (own := [("_law_one", 5)]) rfl nd rfl rfl (sw_true rfl rfl rfl (by decide +kernel)) (ki_any (K := K) rfl (pv 1)) (blkOk_by (N := ["_law_book", "_law_some", "_law_asked_here", "_law_names", "_law_found", "_law_one"]) (sc := defScope s__law_asked) (by decide +kernel)) (fun _ _ _ _ _ => (pg_name (i := 5) nd rfl (by first | exact Or.inl rfl | exact Or.inr rfl))) (fun _ _ _ _ _ => pts_nil) (fun _ _ _ _ _ => (pe_ix (kx_seq (K := K) rfl) (pv 5) pe_int (fun _ _ => rfl))))
    (pss_cons (ps_set (i := 4) nd rfl (by first | exact Or.inl rfl | exact Or.inr rfl) (pe_methB T.cl_Book c_Book_first (hr.mono (by decide)) (pv 0) pass0 (pa_cons (pv 3) (pa_cons (pe_ix (kx_seq (K := K) rfl) (pv 2) pe_int (fun _ _ => rfl)) (pa_cons (pe_ix (kx_seq (K := K) rfl) (pv 2) pe_int (fun _ _ => rfl)) (pa_cons (pe_ix (kx_seq (K := K) rfl) (pv 2) pe_int (fun _ _ => rfl)) pa_nil))))))
    (pss_cons (ps_if (pt_not (pt_val (pe_callF c__law_is_told (hr.mono (by decide)) rfl pass0 (pa_cons (pv 4) pa_nil)))) (pss_one (ps_ret (pe_un un_neg pe_int))) pss_nil)
    (pss_cons (ps_if (pt_not (pt_val (pe_callF c__law_holds (hr.mono (by decide)) rfl pass0 (pa_cons (pv 4) (pa_cons (pv 1) (pa_cons (pe_ix (kx_seq (K := K) rfl) (pv 2) pe_int (fun _ _ => rfl)) (pa_cons (pe_ix (kx_seq (K := K) rfl) (pv 2) pe_int (fun _ _ => rfl)) (pa_cons (pe_ix (kx_seq (K := K) rfl) (pv 2) pe_int (fun _ _ => rfl)) pa_nil)))))))) (pss_one (ps_ret (pe_un un_neg pe_int))) pss_nil)
    (pss_cons (ps_if (pt_cmpR (ok_eqA (K := K) rfl hu) (pe_op op_modI (pe_callB (kc_len (K := K) rfl) rfl T.b_len bb_len (pa_cons (pe_ix (kx_seq (K := K) rfl) (pv 2) pe_int (fun _ _ => rfl)) pa_nil)) pe_int) pe_int (nomark _)) (pss_one (ps_expr (kpe_app (K := K) rfl (pe_ix (kx_seq (K := K) rfl) (pv 2) pe_int (fun _ _ => rfl)) (pe_tup (pa_cons (pv 4) (pa_cons (pe_callB (kc_repr (K := K) rfl hgd hu66) rfl T.b_repr bb_repr (pa_cons (pv 4) pa_nil)) pa_nil)))))) (pss_one (ps_expr (kpe_clear (K := K) rfl (pe_ix (kx_seq (K := K) rfl) (pv 4) pe_int (fun _ _ => rfl))))))
    (pss_one (ps_ret (pe_ix (kx_seq (K := K) rfl) (pv 4) pe_int (fun _ _ => rfl))))))))), ?_⟩
  clear hr hu hu1 hu66 nd F c_Book_first c__law_is_told c__law_holds
  rintro es s0 O ⟨s, b, q, qv, a, l, xs, vs, h, st, en, lv, kept, hp, rfl, rfl, rfl⟩
  show WpW _ _ _ [.val (.ref b.a), .val (.ref qv), .val (.ref a), .no, .no, .no] (s) _
  obtain ⟨w, hco, hmt, hkl⟩ := hp
  have hv := w.vok hmt
  obtain ⟨ps, hps1, hps2⟩ := pick_rows hco w.vsub
  have hpn := ones_names hps2
  have hpl : ps.length = vs.length := by have := congrArg List.length hpn; rwa [List.length_map, List.length_map] at this
  have hpne : ps ≠ [] := fun e => by have := w.vne.1; rw [e] at hpl; simp at hpl; omega
  obtain ⟨hh, hs1, hs2, hs3, hs4⟩ := (⟨w.hh, w.hs⟩ : (1 ≤ h ∧ h ≤ 48) ∧ 0 ≤ st ∧ st ≤ en ∧ en < 1000000000000 ∧ en ≤ st + 10000)
  have hok : ∀ v ∈ vs, RowOk v := fun v hvv => w.rk v (w.vsub v hvv)
  have rd : ∀ {s' : US} {Γ : List Ent} {i : Int} {v : V}, (a, HO.lst [.int h, .int st, .int en, .ref l]) ∈ s'.cells → Γ[2]? = some (.val (.ref a)) → atI [V.int h, .int st, .int en, .ref l] i = some v → EvE ((uw K).g s') (tOp (rIx K) (tVar 2) (tC (.int i))) Γ (.val v) := fun hc h1 h2 => ee_cix (ee_val h1) hc ev_int h2
  have r0 : ∀ {s' : US} {Γ : List Ent}, (a, HO.lst [.int h, .int st, .int en, .ref l]) ∈ s'.cells → Γ[2]? = some (.val (.ref a)) → EvD ((uw K).g s') (tOp (rIx K) (tVar 2) (tC (.int 0))) Γ (.int h) := fun hc h1 => ed_ival (rd hc h1 rfl)
  have r1 : ∀ {s' : US} {Γ : List Ent}, (a, HO.lst [.int h, .int st, .int en, .ref l]) ∈ s'.cells → Γ[2]? = some (.val (.ref a)) → EvD ((uw K).g s') (tOp (rIx K) (tVar 2) (tC (.int 1))) Γ (.int st) := fun hc h1 => ed_ival (rd hc h1 rfl)
  have r2 : ∀ {s' : US} {Γ : List Ent}, (a, HO.lst [.int h, .int st, .int en, .ref l]) ∈ s'.cells → Γ[2]? = some (.val (.ref a)) → EvD ((uw K).g s') (tOp (rIx K) (tVar 2) (tC (.int 2))) Γ (.int en) := fun hc h1 => ed_ival (rd hc h1 rfl)
  have r3 : ∀ {s' : US} {Γ : List Ent}, (a, HO.lst [.int h, .int st, .int en, .ref l]) ∈ s'.cells → Γ[2]? = some (.val (.ref a)) → EvE ((uw K).g s') (tOp (rIx K) (tVar 2) (tC (.int 3))) Γ (.val (.ref l)) := fun hc h1 => rd hc h1 rfl
  refine ww_seq (ww_pure (wp_asg (d := .list (NmsD ps)) (ev_to (EvF.ev (er_names (show 5 < 6 by decide) (itv_cell (ee_val rfl) w.vw) (by have := w.vne.2; omega) (by decide) fun x hx => w.pe.ro x (w.vsub x hx))) (by unfold NmsD; rw [hpn])) ?_))
  dsimp only [List.set_cons_succ, List.set_cons_zero]
  have hN : (BkAt C_Book s b ∧ (∀ p ∈ ps, p ∈ b.ps) ∧ ps ≠ [] ∧ (ps.map (·.name)).Nodup ∧ ps.length ≤ 900) := ⟨w.bk, hps1, hpne, by rw [hpn]; exact w.vn, by have := w.vne.2; omega⟩
  by_cases hpar : kept.length % 2 = 0
  · refine ww_seq (ww_asg (ew_meth (ee_val rfl) w.bk.ob (BkAt.nom (by decide +kernel)) (eae_cons (ee_dat (ev_var rfl)) (eae_cons (ee_dat (r0 w.ca rfl)) (eae_cons (ee_dat (r1 w.ca rfl)) (eae_cons (ee_dat (r2 w.ca rfl)) eae_nil)))) ⟨s, b, ps, h, st, en, false, ⟨hN, hh, hs1, hs2, hs3, hs4⟩, rfl, rfl, rfl⟩ (by rintro _ _ ⟨f, rs, z, _⟩; have := z.dat; cases this)) ?_)
    rintro _ _ ⟨f, rs, z, hF0⟩
    have z := z.dat
    cases z
    have hF := hco.found w.vsub hps2 hF0
    have hT := hF.th hok hh w.hs
    obtain ⟨t1, t2, t3, t4, t5⟩ := id hT
    dsimp only [List.set_cons_succ, List.set_cons_zero]
    refine ww_seq (ww_pure (wp_if (b := !true) (et_not (et_test (v__law_is_told (ea_cons (ev_var rfl) ea_nil) ⟨hF.kind⟩))) (fun w => by cases w) fun _ => wp_next ?_))
    dsimp only
    refine ww_seq (ww_pure (wp_if (b := !true) (et_not (et_test (v__law_holds (eae_cons (ee_dat (ev_var rfl)) (eae_cons (ee_val rfl) (eae_cons (ee_dat (r0 w.ca rfl)) (eae_cons (ee_dat (r1 w.ca rfl)) (eae_cons (ee_dat (r2 w.ca rfl)) eae_nil))))) ⟨hv, hh, hF⟩))) (fun w => by cases w) fun _ => wp_next ?_))
    dsimp only
    refine ww_seq (ww_if (b := true) (et_to (et_test (ev_op (w_mod (ed_llen (r3 w.ca rfl) w.cl.ls) ev_int ⟨by decide⟩) ev_int od_eq_int)) (decide_eq_true (by omega))) (fun _ => ?_) (fun w => by cases w))
    refine ww_app (d := .tuple [.tuple [f, .list rs], .str (PyData.shown (.tuple [f, .list rs]))]) (r3 w.ca rfl) w.cl.c (ev_tup (ea_cons (ev_var rfl) (ea_cons (ev_cb (ea_cons (ev_var rfl) ea_nil) (cq_repr ⟨t2⟩ ⟨t3⟩ ⟨by omega⟩ ⟨Nat.le_trans t5 (by decide)⟩)) ea_nil)) (show 2 ≤ 100000 by decide)) w.cl.r (by omega) fun v => ?_
    have kp : Keeps s (s.put l (.lst (lv ++ [v])) [(lv ++ [v], kept ++ [.tuple [.tuple [f, .list rs], .str (PyData.shown (.tuple [f, .list rs]))]])]) [l] := put_keeps
    have w2 := w.ask kp ⟨put_mem w.cl.c, List.mem_cons_self⟩ (fun d hd => by
      rcases List.mem_append.mp hd with hd | hd
      · exact w.kk d hd
      · rw [List.mem_singleton] at hd; subst hd; exact hT.kept)
    dsimp only
    refine ww_pure (wp_ret (d := firstL vs h st en) (ev_to (ev_op (ev_var rfl) ev_int oq_ix0) hF.first) ⟨_, _, _, rfl, w2, kp, by rw [List.length_append]; exact Nat.le_refl _⟩)
  · refine ww_seq (ww_asg (ew_meth (ee_val rfl) w.bk.ob (BkAt.nom (by decide +kernel)) (eae_cons (ee_dat (ev_var rfl)) (eae_cons (ee_dat (r0 w.ca rfl)) (eae_cons (ee_dat (r1 w.ca rfl)) (eae_cons (ee_dat (r2 w.ca rfl)) eae_nil)))) ⟨s, b, ps, h, st, en, true, ⟨hN, hh, hs1, hs2, hs3, hs4⟩, rfl, rfl, rfl⟩ (by rintro _ _ ⟨f, rs, z, _⟩; obtain ⟨_, _, _, _, _, _, z⟩ := z.cel; cases z)) ?_)
    rintro _ _ ⟨f, rs, z, hF0⟩
    obtain ⟨fl, fvs, ft, hfl, hft, hne, z⟩ := z.cel
    cases z
    have hF := hco.found w.vsub hps2 hF0
    have hfd : ∀ B, Dp K B (fV f) f := fun B => fV_dp hF.kind
    dsimp only [List.set_cons_succ, List.set_cons_zero]
    refine ww_seq (ww_if (b := !true) (et_lend (i := 4) rfl hfd hfl hft hne (et_not (et_test (v__law_is_told (ea_cons (ev_var rfl) ea_nil) ⟨hF.kind⟩)))) (fun w => by cases w) fun _ => ww_next ?_)
    dsimp only
    refine ww_seq (ww_if (b := !true) (et_lend (i := 4) rfl hfd hfl hft hne (et_not (et_test (v__law_holds (eae_cons (ee_dat (ev_var rfl)) (eae_cons (ee_val rfl) (eae_cons (ee_dat (r0 w.ca rfl)) (eae_cons (ee_dat (r1 w.ca rfl)) (eae_cons (ee_dat (r2 w.ca rfl)) eae_nil))))) ⟨hv, hh, hF⟩)))) (fun w => by cases w) fun _ => ww_next ?_)
    dsimp only
    have kA : Keeps s (sTup s fl fvs rs ft (fV f)) [] := add_keeps.trans add_keeps
    have ct : (ft, HO.tup [fV f, .ref fl]) ∈ (sTup s fl fvs rs ft (fV f)).cells := List.mem_cons_self
    have cl : (fl, HO.lst fvs) ∈ (sTup s fl fvs rs ft (fV f)).cells := List.mem_cons_of_mem _ List.mem_cons_self
    have caA := kA.cell _ w.ca (by simp)
    have clA := w.cl.keep kA (by simp)
    refine ww_seq (ww_if (b := false) (et_to (et_test (ev_op (w_mod (ed_llen (r3 caA rfl) clA.ls) ev_int ⟨by decide⟩) ev_int od_eq_int)) (decide_eq_false (by omega))) (fun w => by cases w) (fun _ => ?_))
    refine ww_clr (ee_tix (ee_val rfl) ct ev_int (by rfl)) cl ?_
    have kp : Keeps (sTup s fl fvs rs ft (fV f)) ((sTup s fl fvs rs ft (fV f)).put fl (.lst []) [([], [])]) [fl] := put_keeps
    have kk : Keeps s ((sTup s fl fvs rs ft (fV f)).put fl (.lst []) [([], [])]) [] := kA.new kp (by simpa using hfl)
    have ct2 := kp.cell _ ct (by simpa using hne)
    have w2 := w.ask (kk.mono (by simp)) (w.cl.keep kk (by simp)) w.kk
    dsimp only
    refine ww_pure (wp_ret (d := firstL vs h st en) (ev_to (ed_val (ee_tix (ee_val rfl) ct2 ev_int (by rfl)) (fun B _ => hfd B)) hF.first) ⟨_, _, _, rfl, w2, kk.mono (by simp), by omega⟩)
end
section

theorem ok_Book_meet {P : Program} {w : World} {K : PySem.W.Frag} {mg : Str → Option Value} {base : Heap} {a_MONTHS a_BEARING C_HourError C_NoRule C_NoName C_Taken C_Stranger C_Twice C_NoTime C_NoMeeting C_Clash C_Book : Addr} (T : Txt K mg a_MONTHS a_BEARING C_HourError C_NoRule C_NoName C_Taken C_Stranger C_Twice C_NoTime C_NoMeeting C_Clash C_Book)
    (c_Book_first : MtB P w K mg base CX0 10 C_Book "first" ["self", "names", "hours", "start", "end"] (spW (uw K) (R_Book_first C_Book))) :
    MtB P w K mg base CX0 11 C_Book "meet" ["self", "names", "hours", "start", "end"] (spW (uw K) (R_Book_meet C_Book)) := by
  refine T.t_Book_meet.ok (fun _ _ _ _ _ _ us hl => match us, hl with | [_, _, _, _, _], _ => rfl) fun f fd F => fn_okW F sc_Book_meet (by rintro es s0 O ⟨s, b, ps, h, st, en, hp, rfl, rfl, rfl⟩; rfl) fun cdv A outer s H E hr => ?_
  have hu66 := room66 hr
  have hu := hr.units
  have hu1 := Nat.lt_of_le_of_lt (Nat.add_le_add_left (show 1 ≤ 64 by decide) _) hu
  have nd := sc_Book_meet.nd
  refine ⟨_, (pss_cons (ps_set (i := 5) nd rfl (by first | exact Or.inl rfl | exact Or.inr rfl) (pe_methB T.cl_Book c_Book_first (hr.mono (by decide)) (pv 0) pass0 (pa_cons (pv 1) (pa_cons (pv 2) (pa_cons (pv 3) (pa_cons (pv 4) pa_nil))))))
    (pss_cons (ps_if (pt_cmpR op_isNI (pe_ix (kx_seq (K := K) rfl) (pv 5) pe_int (fun _ _ => rfl)) pe_non (nomark _)) (pss_one (ps_ret pe_non)) pss_nil)
    (pss_cons (kps_fld (K := K) rfl (pv 0) (pe_op (ok_addA (K := K) rfl) (kpe_fld (K := K) rfl (pv 0)) pe_int))
    (pss_cons (ps_expr (kpe_app (K := K) rfl (kpe_fld (K := K) rfl (pv 0)) (pe_tup (pa_cons (kpe_fld (K := K) rfl (pv 0)) (pa_cons (pe_ix (kx_seq (K := K) rfl) (pv 5) pe_int (fun _ _ => rfl)) (pa_cons (pv 2) (pa_cons (pe_callTy (kc_tup (K := K) rfl) rfl T.b_tuple bb_tuple (pa_cons (pv 1) pa_nil)) pa_nil)))))))
    (pss_one (ps_ret (pe_tup (pa_cons (kpe_fld (K := K) rfl (pv 0)) (pa_cons (pe_ix (kx_seq (K := K) rfl) (pv 5) pe_int (fun _ _ => rfl)) pa_nil))))))))), ?_⟩
  clear hr hu hu1 hu66 nd F c_Book_first
  rintro es s0 O ⟨s, b, ps, h, st, en, hp, rfl, rfl, rfl⟩
  show WpW _ _ _ [.val (.ref b.a), .dat (.list (NmsD ps)), .dat (.int h), .dat (.int st), .dat (.int en), .no] (s) _
  obtain ⟨hN, ⟨hh, h1, h2, h3, h4⟩, hml⟩ := hp
  obtain ⟨hb, hps, hne, hnd, hl⟩ := id hN
  refine ww_seq (ww_pure (wp_asgM (ee_val rfl) hb.ob (BkAt.nom (by decide +kernel)) (eae_cons (ee_dat (ev_var rfl)) (eae_cons (ee_dat (ev_var rfl)) (eae_cons (ee_dat (ev_var rfl)) (eae_cons (ee_dat (ev_var rfl)) eae_nil)))) ⟨s, b, ps, h, st, en, false, ⟨hN, hh, h1, h2, h3, h4⟩, rfl, rfl, rfl⟩ (fun o z => z.elim fun f z => z.elim fun rs z => ⟨_, z.1.dat⟩) ?_))
  rintro d ⟨f, rs, e, hF⟩
  have e := e.dat
  cases e
  dsimp only [List.set_cons_succ, List.set_cons_zero]
  obtain ⟨y, hr, hy⟩ := id hF.ex
  rcases hy with ⟨y1, y2, rfl⟩ | ⟨y1, rfl⟩
  case inr =>
    refine ww_seq (ww_pure (wp_if (b := true) (et_test (ev_to (ev_isN (ev_op (ev_var rfl) ev_int oq_ix0)) rfl)) (fun _ => ?_) (fun z => by cases z)))
    exact wp_ret ev_non ⟨_, rs, hF, .inl ⟨rfl, rfl⟩⟩
  have hyl : st ≤ y := by have := hr.len.1; omega
  refine ww_seq (ww_pure (wp_if (b := false) (et_test (ev_to (ev_isN (ev_op (ev_var rfl) ev_int oq_ix0)) rfl)) (fun z => by cases z) fun _ => wp_next ?_))
  dsimp only
  refine ww_seq (ww_fld (v := .int (b.given + 1)) (ee_int (ev_op (ed_ival (ee_fld (ee_val rfl) hb.ob T.cl_Book T.na_given f_given)) ev_int od_add_int)) (ee_val rfl) hb.ob T.cl_Book T.na_given (by show 3 < 1000; decide) ?_)
  obtain ⟨hb1, k1⟩ := hb.given (b.given + 1)
  generalize (s.put b.a (.ins C_Book b.dx (putF "given" (.int (b.given + 1)) b.fs)) []) = s1 at *
  refine ww_seq (ww_app (d := (⟨b.given + 1, y, h, ps.map (·.name)⟩ : Meet).d) (ee_booked hb1 T.cl_Book T.na_booked (ee_val rfl)) hb1.bo.c ?_ hb1.bo.r (by show (b.mt.map Meet.d).length < _; rw [List.length_map]; omega) fun v => ?_)
  · refine ev_tup (ea_cons ?_ (ea_cons ?_ (ea_cons ?_ (ea_cons ?_ ea_nil)))) (show 4 ≤ 100000 by decide)
    · exact ed_ival (ee_fld (ee_val rfl) hb1.ob T.cl_Book T.na_given f_given)
    · exact ev_op (ev_var rfl) ev_int oq_ix0
    · exact ev_var rfl
    · exact ev_to (ev_cb (ea_cons (ev_var rfl) ea_nil) ca_tup_list) rfl
  obtain ⟨hb2, k2⟩ := hb1.more ⟨b.given + 1, y, h, ps.map (·.name)⟩ ⟨by show 0 ≤ y; omega, by show y + h ≤ _; omega, hh.1, hh.2⟩ (by show b.mt.length < _; omega) v
  dsimp only
  generalize (s1.put b.bk _ _) = s2 at *
  refine ww_pure (wp_ret (d := .tuple [.int (b.given + 1), .int y]) ?_ ⟨_, rs, hF, .inr ⟨y, v, s2, rfl, rfl, hb2, (k1.mono (by simp)).trans (k2.mono (by simp))⟩⟩)
  refine ev_tup (ea_cons ?_ (ea_cons ?_ ea_nil)) (show 2 ≤ 100000 by decide)
  · exact ed_ival (ee_fld (ee_val rfl) hb2.ob T.cl_Book T.na_given f_given)
  · exact ev_op (ev_var rfl) ev_int oq_ix0
end
section

theorem ok__law_busier {P : Program} {w : World} {K : PySem.W.Frag} {mg : Str → Option Value} {base : Heap} {a_MONTHS a_BEARING C_HourError C_NoRule C_NoName C_Taken C_Stranger C_Twice C_NoTime C_NoMeeting C_Clash C_Book : Addr} (T : Txt K mg a_MONTHS a_BEARING C_HourError C_NoRule C_NoName C_Taken C_Stranger C_Twice C_NoTime C_NoMeeting C_Clash C_Book)
    (c_Book_busy : MtB P w K mg base CX0 7 C_Book "busy" ["self", "name", "rule"] (spW (uw K) (R_Book_busy C_Book))) :
    FnB P w K mg base CX0 8 "_law_busier" ["_law_book", "_law_one", "_law_hours"] (spW (uw K) (R__law_busier C_Book)) := by
  refine T.t__law_busier.ok (fun _ _ _ _ _ _ us hl => match us, hl with | [_, _, _], _ => rfl) fun f fd F => fn_okW F sc__law_busier (by rintro es s0 O ⟨s, b, q, qv, a, l, xs, vs, h, st, en, lv, kept, x, f, y2, hp, rfl, rfl, rfl⟩; rfl) fun cdv A outer s H E hr => ?_
  have hu66 := room66 hr
  have hu := hr.units
  have hu1 := Nat.lt_of_le_of_lt (Nat.add_le_add_left (show 1 ≤ 64 by decide) _) hu
  have nd := sc__law_busier.nd
  refine ⟨_, (pss_one (ps_for PassesOwn.never rfl (ki_any (K := K) rfl (pv 2)) (pg_name (i := 3) nd rfl (by first | exact Or.inl rfl | exact Or.inr rfl)) (pss_cons (ps_if (pt_cmpR op_isNI (pv 3) pe_non (nomark _)) (pss_one ps_continue) pss_nil)
    (pss_cons (ps_set (i := 4) nd rfl (by first | exact Or.inl rfl | exact Or.inr rfl) (pe_callB (kc_any (K := K) rfl rfl) rfl T.b_any bb_any (pa_cons (pe_lc (own := [("_law_at", 5), ("_law_size_here", 6)]) rfl nd (ki_any (K := K) rfl (pe_ix (kx_seq (K := K) rfl) (pv 1) pe_int (fun _ _ => rfl))) (blkOk_by (N := ["_law_book", "_law_one", "_law_hours", "_law_hour", "_law_taken_here", "_law_at", "_law_size_here"]) (sc := defScope s__law_busier) (by decide +kernel)) (fun _ _ _ _ _ => (kg_tup (K := K) (n := 2) rfl rfl (pgs_cons (pg_name (i := 5) nd rfl (by first | exact Or.inl rfl | exact Or.inr rfl)) (pgs_cons (pg_name (i := 6) nd rfl (by first | exact Or.inl rfl | exact Or.inr rfl)) pgs_nil)))) (fun _ _ _ _ _ => pts_nil) (fun _ _ _ _ _ => (pe_chain op_leI op_ltI (pv 5) (pv 3) (pe_op (ok_addA (K := K) rfl) (pv 5) (pv 6))))) pa_nil)))
    (pss_one (ps_if (pt_not (pt_val (pv 4))) (pss_cons (ps_expr (pe_methB T.cl_Book c_Book_busy (hr.mono (by decide)) (pv 0) pass0 (pa_cons (pe_ix (kx_seq (K := K) rfl) (pv 1) pe_int (fun _ _ => rfl)) (pa_cons (pe_tup (pa_cons pe_str (pa_cons (pv 3) (pa_cons pe_int pa_nil)))) pa_nil))))
    (pss_one (ps_expr (kpe_app (K := K) rfl (pe_ix (kx_seq (K := K) rfl) (pv 1) pe_int (fun _ _ => rfl)) (pe_tup (pa_cons pe_str (pa_cons (pv 3) (pa_cons pe_int pa_nil)))))))) pss_nil)))))), ?_⟩
  clear hr hu hu1 hu66 nd F c_Book_busy
  rintro es s0 O ⟨s, b, q, qv, a, l, xs, vs, h, st, en, lv, kept, x, f, y2, hp, rfl, rfl, rfl⟩
  show WpW _ _ _ [.val (.ref b.a), .val (.ref x.r), .dat (.list [f, .int y2]), .no, .no, .no, .no] (s) _
  obtain ⟨w, hco, ⟨hx, hxb, hxm⟩, hf, hy1, hy2⟩ := hp
  have hvself : putR x x vs = vs := putR_vs w.pe.nd2 hx w.vsub
  refine (ww_forn (xs := [f, .int y2]) (fun i Γ' s' => ∃ b2 y e3 e4 e5 e6, Wd C_Book s' b2 q (putR x y xs) qv (putR x y vs) a l h st en lv kept ∧ Cor b2 (putR x y xs) ∧ b2.a = b.a ∧ b2.mt = b.mt ∧ b2.given = b.given ∧ y.r = x.r ∧ y.name = x.name ∧ y.fr = x.fr ∧ y.mt = x.mt ∧ y.bz = x.bz ++ busyL x.mt ([f, .int y2].take i) ∧ (∀ a ∈ y.adr, a ∈ x.adr) ∧ b2.adr = b.adr ∧ Γ' = [.val (.ref b.a), .val (.ref x.r), .dat (.list [f, .int y2]), e3, e4, e5, e6]) (it_any_list (ev_var rfl)) ⟨b, x, _, _, _, _, (by rw [putR_self w.pe.nd2 hx, hvself]; exact w), (by rw [putR_self w.pe.nd2 hx]; exact hco), rfl, rfl, rfl, rfl, rfl, rfl, rfl, by simp [busyL], fun _ z => z, rfl, rfl⟩ ?_ ?_)
  · rintro i d _ s' hd ⟨b2, y, e3, e4, e5, e6, w2, co2, hba, hbm, hbg, yr, yn, yf, ym, yb, ya, hba2, rfl⟩
    have hi := (List.getElem?_eq_some_iff.mp hd).1
    have htk : ([f, .int y2].take (i + 1)) = [f, .int y2].take i ++ [d] := by rw [List.take_add_one, hd]; rfl
    have hyin : y ∈ putR x y xs := putR_in hx
    have hro := w2.pe.ro y hyin
    have hrk := w2.rk y hyin
    have hkind : d = .none ∨ ∃ y, d = .int y ∧ 0 ≤ y ∧ y < 1000000000000 := by
      have := List.mem_of_getElem? hd
      rcases List.mem_cons.mp this with rfl | this
      · exact hf
      · rw [List.mem_singleton] at this
        exact .inr ⟨y2, this, hy1, hy2⟩
    dsimp only [List.set_cons_succ, List.set_cons_zero]
    rcases hkind with rfl | ⟨t, rfl, t1, t2⟩
    · refine ww_seq (ww_pure (wp_if (b := true) (et_test (ev_to (ev_isN (ev_var rfl)) rfl)) (fun _ => ?_) (fun z => by cases z)))
      exact wp_cont ⟨b2, y, _, _, _, _, w2, co2, hba, hbm, hbg, yr, yn, yf, ym, by rw [htk, busyL_snoc, ← List.append_assoc, ← yb]; simp [busyL], ya, hba2, rfl⟩
    refine ww_seq (ww_pure (wp_if (b := false) (et_test (ev_to (ev_isN (ev_var rfl)) rfl)) (fun z => by cases z) fun _ => wp_next ?_))
    dsimp only
    have hE : ∀ {s0 : US} {Γ : List Ent}, Γ[1]? = some (.val (.ref x.r)) → EvE ((uw K).g s0) (tVar 1) Γ (.val (.ref y.r)) := fun z => ee_val (by rw [yr]; exact z)
    refine ww_seq (ww_pure (wp_asg (d := .bool (covM y.mt t)) (ev_to (ev_cb (ea_cons (EvF.ev (w_lc2 (zs := y.mt) (c1 := fun y => .int y.1) (c2 := fun y => .int y.2) (h := fun y => .bool (decide (y.1 ≤ t) && decide (t < y.1 + y.2))) (it_cell (er_mt hro (hE rfl)) hro.m.ls) ⟨by rw [ym]; omega⟩ ⟨by decide⟩ ⟨by decide⟩ fun y hy => by k_clsL)) ea_nil) (cq_any ⟨fun d hd => by obtain ⟨r, _, rfl⟩ := List.mem_map.mp hd; exact ⟨_, rfl⟩⟩)) (by rw [List.any_map]; rfl)) ?_))
    dsimp only [List.set_cons_succ, List.set_cons_zero]
    refine ww_if (b := !covM y.mt t) (by k_clsL) (fun hc => ?_) fun hc => ww_next ⟨b2, y, _, _, _, _, w2, co2, hba, hbm, hbg, yr, yn, yf, ym, ?_, ya, hba2, rfl⟩
    case refine_2 =>
      have hc : covM x.mt t = true := by rw [← ym]; simpa using hc
      rw [htk, busyL_snoc, ← List.append_assoc, ← yb]
      simp [busyL, hc]
    have hc : covM y.mt t = false := by simpa using hc
    obtain ⟨p, hp1, hp2⟩ := co2.pe y hyin
    have pn : p.name = y.name := congrArg One.name hp2
    have pb : p.bz = y.bz := congrArg One.bz hp2
    have hbl : y.bz.length ≤ 12 := by
      rw [yb, List.length_append]
      have := busyL_len x.mt ([f, .int y2].take i)
      rw [List.length_take] at this
      have h2 : [f, PyData.int y2].length = 2 := rfl
      omega
    have hno : ∀ m ∈ b2.mt, p.name ∈ m.who → ∀ u, m.at_ ≤ u → u < m.at_ + m.hrs → covers (.once t 1) u = false := fun m hm hw u u1 u2 => by
      refine once_cov fun e => ?_
      subst e
      have : covM y.mt u = true := by
        unfold covM
        rw [co2.mt y hyin]
        refine List.any_eq_true.mpr ⟨(m.at_, m.hrs), ?_, by simp [u1, u2]⟩
        unfold metOf
        exact List.mem_map.mpr ⟨m, List.mem_filter.mpr ⟨hm, decide_eq_true (by rw [← pn]; exact hw)⟩, rfl⟩
      rw [hc] at this; cases this
    have hG : GoodR (.once t 1) ∧ depth (.once t 1) < 8 := ⟨⟨⟨t1, t2⟩, by decide, by decide⟩, by show 0 < 8; decide⟩
    refine ww_seq (ww_drop (ew_meth (ee_val (v := .ref b2.a) (by rw [hba]; rfl)) w2.bk.ob (BkAt.nom (by decide +kernel)) (eae_cons (ee_dat (d := .str p.name) (by rw [pn]; exact er_name hro (hE rfl))) (eae_cons (ee_dat (d := toD (.once t 1)) (by k_clsL)) eae_nil)) ⟨s', b2, p, .once t 1, ⟨w2.bk, hp1, hG, by rw [pb]; omega, hno⟩, rfl, rfl, rfl⟩ (by rintro _ _ ⟨s2, v, h, _⟩; cases h)) ?_)
    rintro _ s3 ⟨s3', v, z, hb3, hk3⟩
    cases z
    have ea : (b2.busy p.name (.once t 1) v).adr = b2.adr := by
      unfold Bk.adr Bk.busy
      have : ∀ z : Pers, (if z.name = p.name then z.more (.once t 1) v else z).adr = z.adr := fun z => by split <;> rfl
      simp only [List.flatMap_map, this]
    have hpu : p.u ∈ b2.adr := by unfold Bk.adr; simp only [List.mem_cons, List.mem_flatMap]; exact .inr (.inr (.inr ⟨p, hp1, by simp [Pers.adr]⟩))
    have w3 := w2.book hb3 ea hk3 (by simpa using hpu)
    have hro3 := w3.pe.ro y hyin
    dsimp only
    refine ww_app (d := toD (.once t 1)) (ds := y.bz.map toD) (er_bz hro3 (hE rfl)) hro3.t.c (by k_clsL) hro3.t.r (by rw [List.length_map]; omega) fun v' => ?_
    have kp : Keeps s3 (s3.put y.t (.lst (y.tv ++ [v'])) [(y.tv ++ [v'], y.bz.map toD ++ [toD (.once t 1)])]) [y.t] := put_keeps
    have hpe4 := w3.pe.appT (v := v') (r := .once t 1) hyin
    have hok4 : RowOk ({ y with bz := y.bz ++ [.once t 1], tv := y.tv ++ [v'] } : PRow) := ⟨hrk.nm, hrk.nl, hrk.fr, ⟨by show (y.bz ++ [_]).length ≤ 20; rw [List.length_append, List.length_singleton]; omega, fun r hr => by
      rcases List.mem_append.mp hr with hr | hr
      · exact hrk.bz.good r hr
      · rw [List.mem_singleton] at hr; subst hr; exact hG⟩⟩
    have w4 := w3.row hyin hpe4 kp (by simp [PRow.adr]) rfl rfl hok4 (fun a ha => .inl ha)
    rw [putR_putR yr, putR_putR yr] at w4
    refine ⟨b2.busy p.name (.once t 1) v, { y with bz := y.bz ++ [.once t 1], tv := y.tv ++ [v'] }, _, _, _, _, w4, ⟨fun z hz => ?_, fun z hz => ?_, co2.num, co2.gv⟩, hba, hbm, hbg, yr, yn, yf, ym, ?_, ya, ea.trans hba2, rfl⟩
    · rcases putR_mem hz with rfl | ⟨hz, hzr⟩
      · refine ⟨p.more (.once t 1) v, List.mem_map.mpr ⟨p, hp1, if_pos rfl⟩, ?_⟩
        show (⟨p.name, p.fr, p.bz ++ [.once t 1]⟩ : One) = ⟨y.name, y.fr, y.bz ++ [.once t 1]⟩
        rw [pn, pb, show p.fr = y.fr from congrArg One.fr hp2]
      · have hz2 : z ∈ putR x y xs := List.mem_map.mpr ⟨z, hz, if_neg hzr⟩
        obtain ⟨pz, hz3, hz4⟩ := co2.pe z hz2
        have hzn : pz.name ≠ p.name := fun e => by
          have e2 : z.name = y.name := by rw [← pn, ← e]; exact (congrArg One.name hz4).symm
          have := name_row w2.xn hz2 hyin e2
          subst this
          exact hzr yr
        exact ⟨pz, List.mem_map.mpr ⟨pz, hz3, if_neg hzn⟩, hz4⟩
    · rcases putR_mem hz with rfl | ⟨hz, hzr⟩
      · exact co2.mt y hyin
      · exact co2.mt z (List.mem_map.mpr ⟨z, hz, if_neg hzr⟩)
    · show y.bz ++ [Rule.once t 1] = x.bz ++ busyL x.mt ([f, .int y2].take (i + 1))
      have hc : covM x.mt t = false := by rw [← ym]; exact hc
      rw [htk, busyL_snoc, ← List.append_assoc, ← yb]
      simp [busyL, hc]
  · rintro _ s' ⟨b2, y, e3, e4, e5, e6, w2, co2, hba, hbm, hbg, yr, yn, yf, ym, yb, ya, hba2, rfl⟩
    exact ⟨s', b2, y, rfl, w2, co2, hba, hbm, hbg, yr, yn, yf, ym, yb, ya, hba2⟩
end
section

theorem ok_Book_place {P : Program} {w : World} {K : PySem.W.Frag} {mg : Str → Option Value} {base : Heap} {a_MONTHS a_BEARING C_HourError C_NoRule C_NoName C_Taken C_Stranger C_Twice C_NoTime C_NoMeeting C_Clash C_Book : Addr} (T : Txt K mg a_MONTHS a_BEARING C_HourError C_NoRule C_NoName C_Taken C_Stranger C_Twice C_NoTime C_NoMeeting C_Clash C_Book)
    (c_is_whole : FnB P w K mg base CX0 1 "is_whole" ["thing"] (spV K R_is_whole)) :
    MtB P w K mg base CX0 2 C_Book "place" ["self", "number"] (spW (uw K) (R_Book_place C_Book)) := by
  refine T.t_Book_place.ok (fun _ _ _ _ _ _ us hl => match us, hl with | [_, _], _ => rfl) fun f fd F => fn_okW F sc_Book_place (by rintro es s0 O ⟨s, b, n, j, m, hp, rfl, rfl, rfl⟩; rfl) fun cdv A outer s H E hr => ?_
  have hu66 := room66 hr
  have hu := hr.units
  have hu1 := Nat.lt_of_le_of_lt (Nat.add_le_add_left (show 1 ≤ 64 by decide) _) hu
  have nd := sc_Book_place.nd
  refine ⟨_, (pss_cons (ps_for PassesOwn.never rfl (pi_range1 rfl T.b_range (pa_cons (pe_callB (kc_len (K := K) rfl) rfl T.b_len bb_len (pa_cons (kpe_fld (K := K) rfl (pv 0)) pa_nil)) pa_nil)) (pg_name (i := 2) nd rfl (by first | exact Or.inl rfl | exact Or.inr rfl)) (pss_one (ps_if (PW.pt (pw_and (pt_val (pe_callF c_is_whole (hr.mono (by decide)) rfl pass0 (pa_cons (pv 1) pa_nil))) (pw_and1 (pt_cmpR (ok_eqA (K := K) rfl hu) (pe_ix (kx_seq (K := K) rfl) (pe_ix (kx_seq (K := K) rfl) (kpe_fld (K := K) rfl (pv 0)) (pv 2) (fun _ _ => rfl)) pe_int (fun _ _ => rfl)) (pv 1) (nomark _))))) (pss_one (ps_ret (pv 2))) pss_nil)))
    (pss_one L2.ps_never)), ?_⟩
  clear hr hu hu1 hu66 nd F c_is_whole
  rintro es s0 O ⟨s, b, n, j, m, hp, rfl, rfl, rfl⟩
  show WpW _ _ _ [.val (.ref b.a), .dat (.int n), .no] (s) _
  obtain ⟨hb, hj, hn, hlt⟩ := hp
  have hjl := (List.getElem?_eq_some_iff.mp hj).1
  have hbo := hb.bo.ls (K := K)
  have hfew := hb.few.2
  refine ww_pure ?_
  refine wp_seq (wp_forn (xs := (List.range ((b.mt.length : Int)).toNat).map fun k : Nat => .int (0 + (k : Int))) (fun i Γ' => i ≤ j ∧ ∃ e2, Γ' = [.val (.ref b.a), .dat (.int n), e2]) (w_rng1 (n := (b.mt.length : Int)) (ea_cons (ev_to (ed_llen (ee_booked hb T.cl_Book T.na_booked (ee_val rfl)) hbo) (by rw [List.length_map])) ea_nil) ⟨by omega⟩ ⟨by omega⟩) ⟨Nat.zero_le _, _, rfl⟩ ?_ ?_)
  · rintro i x _ hx ⟨hij, e2, rfl⟩
    have hi := (List.getElem?_eq_some_iff.mp hx).1
    rw [List.length_map, List.length_range] at hi
    rw [List.getElem?_map, List.getElem?_range hi] at hx
    obtain rfl := Option.some.inj hx
    have hi2 : i < b.mt.length := by omega
    have hmi : b.mt[i]? = some b.mt[i] := List.getElem?_eq_getElem hi2
    generalize b.mt[i] = mi at hmi
    dsimp only [List.set_cons_succ, List.set_cons_zero]
    have hat : atI (b.mt.map Meet.d) (0 + (i : Int)) = some mi.d := by
      rw [Int.zero_add]
      exact atI_nat (by rw [List.getElem?_map, hmi]; rfl)
    refine wp_if (b := decide (mi.num = n)) (et_to (et_and (a := isWhole (.int n)) (b := decide (mi.num = n)) (et_test (by k_clsL)) fun _ => et_test (ev_op (ev_op (ed_lix (ee_booked hb T.cl_Book T.na_booked (ee_val rfl)) hbo (ev_var rfl) hat) ev_int oq_ix0) (ev_var rfl) od_eq_int)) (by rfl)) (fun h => ?_) fun h => wp_next ⟨?_, _, rfl⟩
    · refine wp_ret (d := .int (0 + (i : Int))) (ev_var rfl) ?_
      have : i = j := by
        rcases Nat.lt_or_ge i j with z | z
        · exact absurd (of_decide_eq_true h) (hlt i mi z hmi)
        · omega
      rw [this, Int.zero_add]
    · have : i ≠ j := by
        rintro rfl
        rw [hj] at hmi; cases hmi
        exact of_decide_eq_false h hn
      omega
  rintro _ ⟨hij, e2, rfl⟩
  rw [List.length_map, List.length_range] at hij
  exact absurd hij (by omega)
end
section

theorem ok_Book_move {P : Program} {w : World} {K : PySem.W.Frag} {mg : Str → Option Value} {base : Heap} {a_MONTHS a_BEARING C_HourError C_NoRule C_NoName C_Taken C_Stranger C_Twice C_NoTime C_NoMeeting C_Clash C_Book : Addr} (T : Txt K mg a_MONTHS a_BEARING C_HourError C_NoRule C_NoName C_Taken C_Stranger C_Twice C_NoTime C_NoMeeting C_Clash C_Book)
    (c_Book_place : MtB P w K mg base CX0 2 C_Book "place" ["self", "number"] (spW (uw K) (R_Book_place C_Book)))
    (c_search : FnB P w K mg base CX0 9 "search" ["book", "names", "hours", "stretch", "without"] (spW (uw K) (R_search C_Book)))
    (c_Book_stretch : MtB P w K mg base CX0 4 C_Book "stretch" ["self", "start", "end"] (spW (uw K) (R_Book_stretch C_Book))) :
    MtB P w K mg base CX0 10 C_Book "move" ["self", "number", "start", "end"] (spW (uw K) (R_Book_move C_Book)) := by
  refine T.t_Book_move.ok (fun _ _ _ _ _ _ us hl => match us, hl with | [_, _, _, _], _ => rfl) fun f fd F => fn_okW F sc_Book_move (by rintro es s0 O ⟨s, b, n, st, en, j, m, ps, hp, rfl, rfl, rfl⟩; rfl) fun cdv A outer s H E hr => ?_
  have hu66 := room66 hr
  have hu := hr.units
  have hu1 := Nat.lt_of_le_of_lt (Nat.add_le_add_left (show 1 ≤ 64 by decide) _) hu
  have nd := sc_Book_move.nd
  refine ⟨_, (pss_cons (ps_set (i := 4) nd rfl (by first | exact Or.inl rfl | exact Or.inr rfl) (pe_methB T.cl_Book c_Book_place (hr.mono (by decide)) (pv 0) pass0 (pa_cons (pv 1) pa_nil)))
    (pss_cons (ps_set (i := 5) nd rfl (by first | exact Or.inl rfl | exact Or.inr rfl) (pe_ix (kx_seq (K := K) rfl) (kpe_fld (K := K) rfl (pv 0)) (pv 4) (fun _ _ => rfl)))
    (pss_cons (ps_set (i := 6) nd rfl (by first | exact Or.inl rfl | exact Or.inr rfl) (pe_callF c_search (hr.mono (by decide)) rfl pass0 (pa_cons (pv 0) (pa_cons (pe_ix (kx_seq (K := K) rfl) (pv 5) pe_int (fun _ _ => rfl)) (pa_cons (pe_ix (kx_seq (K := K) rfl) (pv 5) pe_int (fun _ _ => rfl)) (pa_cons (pe_methB T.cl_Book c_Book_stretch (hr.mono (by decide)) (pv 0) pass0 (pa_cons (pv 2) (pa_cons (pv 3) pa_nil))) (pa_cons (pv 1) pa_nil)))))))
    (pss_cons (ps_if (pt_cmpR op_isNotI (pe_ix (kx_seq (K := K) rfl) (pv 6) pe_int (fun _ _ => rfl)) pe_non (nomark _)) (pss_one (ps_asg (pe_tup (pa_cons (pv 1) (pa_cons (pe_ix (kx_seq (K := K) rfl) (pv 6) pe_int (fun _ _ => rfl)) (pa_cons (pe_ix (kx_seq (K := K) rfl) (pv 5) pe_int (fun _ _ => rfl)) (pa_cons (pe_ix (kx_seq (K := K) rfl) (pv 5) pe_int (fun _ _ => rfl)) pa_nil))))) (pg_sub (kpe_fld (K := K) rfl (pv 0)) (pv 4) set_list))) pss_nil)
    (pss_one (ps_ret (pe_ix (kx_seq (K := K) rfl) (pv 6) pe_int (fun _ _ => rfl)))))))), ?_⟩
  clear hr hu hu1 hu66 nd F c_Book_place c_search c_Book_stretch
  rintro es s0 O ⟨s, b, n, st, en, j, m, ps, hp, rfl, rfl, rfl⟩
  show WpW _ _ _ [.val (.ref b.a), .dat (.int n), .dat (.int st), .dat (.int en), .no, .no, .no] (s) _
  obtain ⟨⟨hb, ht⟩, ⟨hps, hwho⟩, h1, h2, h3, h4⟩ := hp
  have hjl := (List.getElem?_eq_some_iff.mp ht.1).1
  have hbo := hb.bo.ls (K := K)
  have hfew := hb.few.2
  have hmm := List.mem_of_getElem? ht.1
  obtain ⟨ok1, ok2, ok3, ok4⟩ := hb.mok m hmm
  have hat : atI (b.mt.map Meet.d) (j : Int) = some m.d := atI_nat (by rw [List.getElem?_map, ht.1]; rfl)
  refine ww_seq (ww_pure (wp_asg (d := .int (j : Int)) (v_Book_place (ee_val rfl) (eae_cons (ee_dat (ev_var rfl)) eae_nil) ⟨hb, ht⟩) ?_))
  dsimp only [List.set_cons_succ, List.set_cons_zero]
  refine ww_seq (ww_pure (wp_asg (d := m.d) (ed_lix (ee_booked hb T.cl_Book T.na_booked (ee_val rfl)) hbo (ev_var rfl) hat) ?_))
  dsimp only [List.set_cons_succ, List.set_cons_zero]
  refine ww_seq (ww_pure (wp_asgS (eae_cons (ee_val (v := .ref b.a) rfl) (eae_cons (ee_dat (d := .tuple (NmsD ps)) (ev_to (ev_op (ev_var rfl) ev_int oq_ix3) (by unfold NmsD; rw [hwho]))) (eae_cons (ee_dat (ev_op (ev_var rfl) ev_int oq_ix2)) (eae_cons (ee_dat (v_Book_stretch (ee_val rfl) (eae_cons (ee_dat (ev_var rfl)) (eae_cons (ee_dat (ev_var rfl)) eae_nil)) ⟨hb, h1, h2, h3, h4⟩)) (eae_cons (ee_dat (ev_var rfl)) eae_nil))))) ⟨s, b, ps, .tuple (NmsD ps), m.hrs, st, en, n, false, ⟨hb, hps, .inr rfl, ⟨ok3, ok4⟩, h1, by omega⟩, rfl, rfl, rfl⟩ (fun o z => z.elim fun f z => z.elim fun rs z => ⟨_, z.1.dat⟩) ?_))
  rintro d ⟨f, rs, e, hF⟩
  have e := e.dat
  cases e
  dsimp only [List.set_cons_succ, List.set_cons_zero]
  obtain ⟨y, hr, hy⟩ := id hF.ex
  rcases hy with ⟨y1, y2, rfl⟩ | ⟨y1, rfl⟩
  case inr =>
    refine ww_seq (ww_pure (wp_if (b := false) (et_test (ev_to (ev_isNot (ev_op (ev_var rfl) ev_int oq_ix0)) rfl)) (fun z => by cases z) fun _ => wp_next ?_))
    exact ww_pure (wp_ret (d := .none) (ev_op (ev_var rfl) ev_int oq_ix0) ⟨_, rs, hF, .inl ⟨rfl, rfl⟩⟩)
  have hyl : st ≤ y := by have := hr.len.1; omega
  refine ww_seq (ww_if (b := true) (et_test (ev_to (ev_isNot (ev_op (ev_var rfl) ev_int oq_ix0)) rfl)) (fun _ => ?_) (fun z => by cases z))
  refine ww_setD (j := j) (d := (⟨n, y, m.hrs, m.who⟩ : Meet).d) (ev_tup (ea_cons (ev_var rfl) (ea_cons (ev_op (ev_var rfl) ev_int oq_ix0) (ea_cons (ev_op (ev_var rfl) ev_int oq_ix2) (ea_cons (ev_op (ev_var rfl) ev_int oq_ix3) ea_nil)))) (show 4 ≤ 100000 by decide)) (ee_booked hb T.cl_Book T.na_booked (ee_val rfl)) (ev_var rfl) hb.bo.c hb.bo.r (ixN_at (by rw [List.length_map]; exact hjl)) fun v => ?_
  have e : (b.mt.map Meet.d).set j (⟨n, y, m.hrs, m.who⟩ : Meet).d = (b.mt.set j ⟨n, y, m.hrs, m.who⟩).map Meet.d := by rw [List.map_set]
  rw [e]
  obtain ⟨g1, g2⟩ := hb.bookd (b.mt.set j ⟨n, y, m.hrs, m.who⟩) (b.mv.set j v) (fun x hx => by
    rcases List.mem_or_eq_of_mem_set hx with hx | rfl
    · exact hb.mok x hx
    · exact ⟨by show 0 ≤ y; omega, by show y + m.hrs ≤ _; omega, ok3, ok4⟩) (by rw [List.length_set]; exact hfew)
  dsimp only
  generalize s.put b.bk _ _ = s2 at *
  exact ww_pure (wp_ret (d := .int y) (ev_op (ev_var rfl) ev_int oq_ix0) ⟨_, rs, hF, .inr ⟨y, v, s2, rfl, rfl, g1, g2⟩⟩)
end
section

theorem ok__law_taken {P : Program} {w : World} {K : PySem.W.Frag} {mg : Str → Option Value} {base : Heap} {a_MONTHS a_BEARING C_HourError C_NoRule C_NoName C_Taken C_Stranger C_Twice C_NoTime C_NoMeeting C_Clash C_Book : Addr} (T : Txt K mg a_MONTHS a_BEARING C_HourError C_NoRule C_NoName C_Taken C_Stranger C_Twice C_NoTime C_NoMeeting C_Clash C_Book)
    (c_Book_meet : MtB P w K mg base CX0 11 C_Book "meet" ["self", "names", "hours", "start", "end"] (spW (uw K) (R_Book_meet C_Book)))
    (c_Book_move : MtB P w K mg base CX0 10 C_Book "move" ["self", "number", "start", "end"] (spW (uw K) (R_Book_move C_Book))) :
    FnB P w K mg base CX0 12 "_law_taken" ["_law_book", "_law_some", "_law_found", "_law_hours", "_law_stretch"] (spW (uw K) (R__law_taken C_Book)) := by
  refine T.t__law_taken.ok (fun _ _ _ _ _ _ us hl => match us, hl with | [_, _, _, _, _], _ => rfl) fun f fd F => fn_okW F sc__law_taken (by rintro es s0 O ⟨s, b, q, qv, a, l, xs, vs, h, st, en, lv, kept, us, x, T0, hp, rfl, rfl, rfl⟩; rfl) fun cdv A outer s H E hr => ?_
  have hu66 := room66 hr
  have hu := hr.units
  have hu1 := Nat.lt_of_le_of_lt (Nat.add_le_add_left (show 1 ≤ 64 by decide) _) hu
  have nd := sc__law_taken.nd
  refine ⟨_, (pss_cons (ps_setLc (i := 5) (own := [("_law_one", 10)]) rfl nd rfl rfl (sw_true rfl rfl rfl (by decide +kernel)) (ki_any (K := K) rfl (pv 1)) (blkOk_by (N := ["_law_book", "_law_some", "_law_found", "_law_hours", "_law_stretch", "_law_names", "_law_met", "_law_start", "_law_due", "_law_rule", "_law_one"]) (sc := defScope s__law_taken) (by decide +kernel)) (fun _ _ _ _ _ => (pg_name (i := 10) nd rfl (by first | exact Or.inl rfl | exact Or.inr rfl))) (fun _ _ _ _ _ => pts_nil) (fun _ _ _ _ _ => (pe_ix (kx_seq (K := K) rfl) (pv 10) pe_int (fun _ _ => rfl))))
    (pss_cons (ps_set (i := 6) nd rfl (by first | exact Or.inl rfl | exact Or.inr rfl) (pe_methB T.cl_Book c_Book_meet (hr.mono (by decide)) (pv 0) pass0 (pa_cons (pv 5) (pa_cons (pv 3) (pa_cons (pe_ix (kx_seq (K := K) rfl) (pv 4) pe_int (fun _ _ => rfl)) (pa_cons (pe_ix (kx_seq (K := K) rfl) (pv 4) pe_int (fun _ _ => rfl)) pa_nil))))))
    (pss_cons (ps_if (pt_cmpR op_isNI (pv 2) pe_non (nomark _)) (pss_one (ps_ret (pe_cmpR op_isNI (pv 6) pe_non (nomark _)))) pss_nil)
    (pss_cons (ps_set (i := 7) nd rfl (by first | exact Or.inl rfl | exact Or.inr rfl) (pe_op (ok_addA (K := K) rfl) (pe_ix (kx_seq (K := K) rfl) (pv 4) pe_int (fun _ _ => rfl)) pe_int))
    (pss_cons (ps_set (i := 8) nd rfl (by first | exact Or.inl rfl | exact Or.inr rfl) (pe_callB (kc_maxX (K := K) rfl rfl) rfl T.b_max bb_max (pa_cons (pe_op (ok_addA (K := K) rfl) (pe_lst (pa_cons (pv 7) pa_nil)) (pe_lc (own := [("_law_one", 10)]) rfl nd (ki_any (K := K) rfl (pv 1)) (blkOk_by (N := ["_law_book", "_law_some", "_law_found", "_law_hours", "_law_stretch", "_law_names", "_law_met", "_law_start", "_law_due", "_law_rule", "_law_one"]) (sc := defScope s__law_taken) (by decide +kernel)) (fun _ _ _ _ _ => (pg_name (i := 10) nd rfl (by first | exact Or.inl rfl | exact Or.inr rfl))) (fun _ _ _ _ _ => pts_nil) (fun _ _ _ _ _ => (pe_ix (kx_seq (K := K) rfl) (pe_ix (kx_seq (K := K) rfl) (pe_ix (kx_seq (K := K) rfl) (pv 10) pe_int (fun _ _ => rfl)) pe_int (fun _ _ => rfl)) pe_int (fun _ _ => rfl))))) pa_nil)))
    (pss_cons (ps_for PassesOwn.never rfl (ki_any (K := K) rfl (pe_ix (kx_seq (K := K) rfl) (pe_ix (kx_seq (K := K) rfl) (pv 1) (pe_un un_neg pe_int) (fun _ _ => rfl)) pe_int (fun _ _ => rfl))) (pg_name (i := 9) nd rfl (by first | exact Or.inl rfl | exact Or.inr rfl)) (pss_one (ps_if (pt_chain op_leI op_ltI (pv 8) (pe_ix (kx_seq (K := K) rfl) (pv 9) pe_int (fun _ _ => rfl)) (pe_op (ok_addA (K := K) rfl) (pv 8) (pv 3))) (pss_one (ps_set (i := 8) nd rfl (by first | exact Or.inl rfl | exact Or.inr rfl) (pe_op (ok_addA (K := K) rfl) (pe_ix (kx_seq (K := K) rfl) (pv 9) pe_int (fun _ _ => rfl)) pe_int))) pss_nil)))
    (pss_cons (ps_if (pt_cmpR op_gtI (pe_op (ok_addA (K := K) rfl) (pv 8) (pv 3)) (pe_op (ok_addA (K := K) rfl) (pe_ix (kx_seq (K := K) rfl) (pv 4) pe_int (fun _ _ => rfl)) pe_int) (nomark _)) (pss_one (ps_set (i := 8) nd rfl (by first | exact Or.inl rfl | exact Or.inr rfl) pe_non)) pss_nil)
    (pss_one (ps_ret (pe_and (pe_cmpR (ok_eqA (K := K) rfl hu) (pv 6) (pe_tup (pa_cons pe_int (pa_cons (pv 2) pa_nil))) (nomark _)) (pe_one (pe_cmpR (ok_eqA (K := K) rfl hu) (pe_methB T.cl_Book c_Book_move (hr.mono (by decide)) (pv 0) pass0 (pa_cons pe_int (pa_cons (pv 7) (pa_cons (pe_op (ok_addA (K := K) rfl) (pe_ix (kx_seq (K := K) rfl) (pv 4) pe_int (fun _ _ => rfl)) pe_int) pa_nil)))) (pv 8) (nomark _))))))))))))), ?_⟩
  clear hr hu hu1 hu66 nd F c_Book_meet c_Book_move
  rintro es s0 O ⟨s, b, q, qv, a, l, xs, vs, h, st, en, lv, kept, us, x, T0, hp, rfl, rfl, rfl⟩
  show WpW _ _ _ [.val (.ref b.a), .val (.ref qv), .dat (firstL vs h st en), .dat (.int h), .dat (.tuple [.int st, .int en]), .no, .no, .no, .no, .no, .no] (s) _
  obtain ⟨w, hco, W, ⟨hbm, hbg⟩, hen, hTl⟩ := hp
  obtain ⟨hs1, hs2, hs3, hs4⟩ := w.hs
  obtain ⟨hh1, hh2⟩ := w.hh
  obtain ⟨f1, f2, f3⟩ := firstL_shaped vs h st en
  obtain ⟨ps, hps1, hps2⟩ := pick_rows hco w.vsub
  have hpn := ones_names hps2
  have hpl : ps.length = vs.length := by have := congrArg List.length hpn; rwa [List.length_map, List.length_map] at this
  have hvl := w.vne
  have hpne : ps ≠ [] := fun e => by rw [e] at hpl; simp at hpl; omega
  have hx : x ∈ xs := w.vsub x (by rw [W.vs]; simp)
  refine ww_seq (ww_pure (wp_asg (d := .list (NmsD ps)) (ev_to (EvF.ev (er_names (show 10 < 11 by decide) (itv_cell (ee_val rfl) w.vw) (by omega) (by decide) fun x hx => w.pe.ro x (w.vsub x hx))) (by unfold NmsD; rw [hpn])) ?_))
  dsimp only [List.set_cons_succ, List.set_cons_zero]
  refine ww_seq (ww_asg (ew_meth (ee_val (v := .ref b.a) rfl) w.bk.ob (BkAt.nom (by decide +kernel)) (eae_cons (ee_dat (ev_var rfl)) (eae_cons (ee_dat (ev_var rfl)) (eae_cons (ee_dat (ev_op (ev_var rfl) ev_int oq_ix0)) (eae_cons (ee_dat (ev_op (ev_var rfl) ev_int oq_ix1)) eae_nil)))) ⟨s, b, ps, h, st, en, ⟨⟨w.bk, hps1, hpne, by rw [hpn]; exact w.vn, by omega⟩, ⟨⟨hh1, hh2⟩, hs1, hs2, hs3, hs4⟩, by rw [hbm]; decide⟩, rfl, rfl, rfl⟩ (by rintro _ _ ⟨f, rs, hF, ⟨_, h⟩ | ⟨y, v, s2, _, h, _⟩⟩ <;> cases h)) ?_)
  rintro _ s1 ⟨f, rs, hF, hcase⟩
  have hF2 := (hco.found w.vsub hps2 hF).first
  rcases hcase with ⟨rfl, hz⟩ | ⟨y, v, s1', rfl, hz, hb1, hk1⟩
  · cases hz
    rw [← hF2]
    dsimp only [List.set_cons_succ, List.set_cons_zero]
    refine ww_seq (ww_pure (wp_if (b := true) (et_test (ev_to (ev_isN (ev_var rfl)) rfl)) (fun _ => ?_) (fun z => by cases z)))
    exact wp_ret (ev_to (ev_isN (ev_var rfl)) rfl) ⟨_, rfl, Keeps.refl⟩
  cases hz
  rw [← hF2]
  dsimp only [List.set_cons_succ, List.set_cons_zero]
  refine ww_seq (ww_pure (wp_if (b := false) (et_test (ev_to (ev_isN (ev_var rfl)) rfl)) (fun z => by cases z) fun _ => wp_next ?_))
  dsimp only
  have hab : b.a ∈ b.adr ∧ b.bk ∈ b.adr := by simp [Bk.adr]
  have hk1' : Keeps s s1 b.adr := hk1.mono (by intro c hc; simp at hc; rcases hc with rfl | rfl; exact hab.1; exact hab.2)
  have w1 := w.book hb1 rfl hk1 (by intro c hc; simp at hc; rcases hc with rfl | rfl; exact hab.1; exact hab.2)
  rw [hbg, Int.zero_add]
  have wba : (b.meet y h (ps.map (·.name)) v).a = b.a := rfl
  have hbadr : (b.meet y h (ps.map (·.name)) v).adr = b.adr := rfl
  have hb1mt : (b.meet y h (ps.map (·.name)) v).mt = [⟨1, y, h, ps.map (·.name)⟩] := by
    show b.mt ++ [⟨b.given + 1, y, h, ps.map (·.name)⟩] = _
    rw [hbm, hbg]; rfl
  have hb1ps : (b.meet y h (ps.map (·.name)) v).ps = b.ps := rfl
  rw [← wba]
  rw [← hbadr] at hk1'
  rw [← hbadr]
  generalize b.meet y h (ps.map (·.name)) v = b1 at *
  refine ww_seq (ww_pure (wp_asg (d := .int (st + 2000)) (ev_op (ev_op (ev_var rfl) ev_int oq_ix0) ev_int od_add_int) ?_))
  dsimp only [List.set_cons_succ, List.set_cons_zero]
  obtain ⟨D0, hD1, hD2⟩ := max_in (vs.map everyAt) (st + 2000)
  have hro1 : ∀ v ∈ vs, RowAt s1 v := fun v hv => w1.pe.ro v (w1.vsub v hv)
  refine ww_seq (ww_pure (wp_asg (d := .int D0) (ev_cb (ea_cons (ev_to (EvF.ev (of_add_list (xs := [.int (st + 2000)]) (ys := (vs.map everyAt).map .int) (by rw [List.length_map, List.length_map]; show 1 + _ ≤ _; omega) (EvF.ev (w_lst (ea_cons (ev_var rfl) ea_nil) ⟨show 1 ≤ 100000 by decide⟩)) (by
    rw [List.map_map]
    exact EvF.ev (ef_lcV (ys := vs) (c := fun v : PRow => V.ref v.r) (h := fun v => .int (everyAt v)) (itv_cell (ee_val rfl) w1.vw) (by omega) (by decide) fun v hv => ev_op (ed_lix (er_fr (hro1 v hv) (ee_val rfl)) (hro1 v hv).f.ls ev_int (by rw [(W.fr v hv).1]; exact atI_zero)) ev_int oq_ix1)))) (by rfl : (.list ([.int (st + 2000)] ++ (vs.map everyAt).map .int) : PyData) = .list (((st + 2000) :: vs.map everyAt).map .int))) ea_nil) (cq_maxL hD1 hD2)) ?_))
  dsimp only [List.set_cons_succ, List.set_cons_zero]
  have hxv : x ∈ vs := by rw [W.vs]; simp
  have hrox := hro1 x hxv
  refine ww_seq (ww_pure (wp_forn (xs := x.bz.map toD) (fun i Γ' => ∃ D e9, dueT h D (T0.drop i) = dueT h D0 T0 ∧ Γ' = [.val (.ref b1.a), .val (.ref qv), .dat (.int y), .dat (.int h), .dat (.tuple [.int st, .int en]), .dat (.list (NmsD ps)), .dat (.tuple [.int 1, .int y]), .dat (.int (st + 2000)), .dat (.int D), e9, .no]) (it_cell (er_bz hrox (ee_cix (ee_val rfl) w1.vw (by k_clsL) (by rw [W.vs]; unfold refsR; rw [List.map_append]; exact atI_neg1 _ _))) hrox.t.ls) ⟨D0, _, rfl, rfl⟩ ?_ ?_))
  · rintro i d _ hd ⟨D, e9, hDD, rfl⟩
    rw [W.bx, List.map_map, List.getElem?_map] at hd
    obtain ⟨t, ht, rfl⟩ := Option.map_eq_some_iff.mp hd
    have hi := (List.getElem?_eq_some_iff.mp ht).1
    have hdr : T0.drop i = t :: T0.drop (i + 1) := by
      rw [List.drop_eq_getElem_cons hi]
      congr 1
      exact (List.getElem?_eq_some_iff.mp ht).2
    rw [hdr] at hDD
    have hDD : dueT h (if D ≤ t ∧ t < D + h then t + 1 else D) (T0.drop (i + 1)) = dueT h D0 T0 := hDD
    dsimp only [List.set_cons_succ, List.set_cons_zero]
    have eT : (PyData.tuple [.str "once", .int t, .int 1]) = (toD ∘ fun t => Rule.once t 1) t := rfl
    rw [← eT]
    refine wp_if (b := decide (D ≤ t) && decide (t < D + h)) (by k_clsL) (fun hc => ?_) fun hc => wp_next ⟨D, _, ?_, rfl⟩
    · refine wp_asg (d := .int (t + 1)) (ev_op (ev_op (ev_var rfl) ev_int oq_ix1) ev_int od_add_int) ⟨_, _, ?_, rfl⟩
      rw [if_pos (by simpa using hc)] at hDD; exact hDD
    · rw [if_neg (by simpa using hc)] at hDD; exact hDD
  rintro _ ⟨D, e9, hDD, rfl⟩
  have hdl : T0.drop (x.bz.map toD).length = [] := by rw [W.bx, List.length_map, List.length_map]; exact List.drop_length
  rw [hdl] at hDD
  have hDD : D = dueT h D0 T0 := hDD
  have hD3 : st + 2000 ≤ D0 := hD2 _ List.mem_cons_self
  obtain ⟨d1, d2, d3⟩ := W.due (D0 := D0) hh1 hs1 hD3 (fun v hv => hD2 _ (List.mem_cons_of_mem _ (List.mem_map_of_mem hv))) (by
    rcases List.mem_cons.mp hD1 with e | e
    · exact .inl e
    · obtain ⟨v, hv, e⟩ := List.mem_map.mp e
      exact .inr ⟨v, hv, e.symm⟩)
  rw [← hDD] at d1 d2 d3
  dsimp only
  refine ww_seq (ww_pure (wp_cut (fun Γ' => Γ' = [.val (.ref b1.a), .val (.ref qv), .dat (.int y), .dat (.int h), .dat (.tuple [.int st, .int en]), .dat (.list (NmsD ps)), .dat (.tuple [.int 1, .int y]), .dat (.int (st + 2000)), .dat (if en + 2000 < D + h then .none else .int D), e9, .no]) ?_ ?_))
  · refine wp_if (b := decide (en + 2000 < D + h)) (by k_clsL) (fun hc => ?_) fun hc => wp_next ?_
    · rw [if_pos (of_decide_eq_true hc)]
      exact wp_asg ev_non rfl
    · rw [if_neg (of_decide_eq_false hc)]
  rintro _ rfl
  dsimp only
  have hten : Ten b1 1 0 ⟨1, y, h, ps.map (·.name)⟩ := ⟨by rw [hb1mt]; rfl, rfl, fun i m' hi => absurd hi (Nat.not_lt_zero i)⟩
  refine ww_ret (N := fun e s2 => e = .dat (.bool true) ∧ Keeps s s2 b1.adr) (ew_andV (ew_ee (ee_dat (d := .bool true) (ev_to (ev_op (ev_var rfl) (ev_tup (ea_cons ev_int (ea_cons (ev_var rfl) ea_nil)) (show 2 ≤ 100000 by decide)) (oq_eq_any ⟨rfl⟩ ⟨rfl⟩)) (by simp [PyData.eqv, PyData.eqvAll]))) ⟨true, rfl, (fun z => by cases z), fun _ => ew_op ((ew_meth (ee_val (v := .ref b1.a) rfl) w1.bk.ob (BkAt.nom (by decide +kernel)) (eae_cons (ee_dat ev_int) (eae_cons (ee_dat (ev_var rfl)) (eae_cons (ee_dat (ev_op (ev_op (ev_var rfl) ev_int oq_ix1) ev_int od_add_int)) eae_nil))) ⟨s1, b1, 1, st + 2000, en + 2000, 0, ⟨1, y, h, ps.map (·.name)⟩, ps, ⟨⟨w1.bk, hten⟩, ⟨(fun p hp => by rw [hb1ps]; exact hps1 p hp), rfl⟩, by omega, by omega, hen, by omega⟩, rfl, rfl, rfl⟩ (by rintro _ _ ⟨f, rs, hF, ⟨_, h⟩ | ⟨y, v, s2, _, h, _⟩⟩ <;> cases h)).mono ?_)⟩)) ?_
  · rintro e s2 ⟨f, rs, hF3, hcase⟩
    rw [hb1mt] at hF3
    have hdue := hF3.due rfl hps2 (by omega) d2 d3
    have hsh : SeqAt.shaped f = true ∧ PyData.eqv f f = true := by
      rcases hF3.kind with rfl | ⟨y, rfl⟩
      · exact ⟨rfl, by simp [PyData.eqv]⟩
      · exact ⟨rfl, by simp [PyData.eqv]⟩
    rw [← hdue]
    rcases hcase with ⟨e1, hz⟩ | ⟨y3, v3, s3, e1, hz, hb3, hk3⟩
    · cases hz
      refine ⟨.none, f, .bool true, rfl, ev_var rfl, od_to (oq_eq_any ⟨rfl⟩ ⟨hsh.1⟩) (by rw [e1]; simp [PyData.eqv]), rfl, hk1'⟩
    · cases hz
      refine ⟨.int y3, f, .bool true, rfl, ev_var rfl, od_to (oq_eq_any ⟨rfl⟩ ⟨hsh.1⟩) (by rw [e1]; simp [PyData.eqv]), rfl, hk1'.trans (hk3.mono (by simp [Bk.adr]))⟩
  · rintro _ s2 ⟨rfl, hk⟩
    exact ⟨s2, rfl, hk⟩
end
section

theorem ok_Book_drop {P : Program} {w : World} {K : PySem.W.Frag} {mg : Str → Option Value} {base : Heap} {a_MONTHS a_BEARING C_HourError C_NoRule C_NoName C_Taken C_Stranger C_Twice C_NoTime C_NoMeeting C_Clash C_Book : Addr} (T : Txt K mg a_MONTHS a_BEARING C_HourError C_NoRule C_NoName C_Taken C_Stranger C_Twice C_NoTime C_NoMeeting C_Clash C_Book)
    (c_Book_place : MtB P w K mg base CX0 2 C_Book "place" ["self", "number"] (spW (uw K) (R_Book_place C_Book))) :
    MtB P w K mg base CX0 3 C_Book "drop" ["self", "number"] (spW (uw K) (R_Book_drop C_Book)) := by
  refine T.t_Book_drop.ok (fun _ _ _ _ _ _ us hl => match us, hl with | [_, _], _ => rfl) fun f fd F => fn_okW F sc_Book_drop (by rintro es s0 O ⟨s, b, n, j, m, hp, rfl, rfl, rfl⟩; rfl) fun cdv A outer s H E hr => ?_
  have hu66 := room66 hr
  have hu := hr.units
  have hu1 := Nat.lt_of_le_of_lt (Nat.add_le_add_left (show 1 ≤ 64 by decide) _) hu
  have nd := sc_Book_drop.nd
  refine ⟨_, (pss_one (ps_expr (kpe_popAt (K := K) rfl (kpe_fld (K := K) rfl (pv 0)) (pe_methB T.cl_Book c_Book_place (hr.mono (by decide)) (pv 0) pass0 (pa_cons (pv 1) pa_nil))))), ?_⟩
  clear hr hu hu1 hu66 nd F c_Book_place
  rintro es s0 O ⟨s, b, n, j, m, hp, rfl, rfl, rfl⟩
  show WpW _ _ _ [.val (.ref b.a), .dat (.int n)] (s) _
  obtain ⟨hb, ht⟩ := hp
  have hjl := (List.getElem?_eq_some_iff.mp ht.1).1
  have hfew := hb.few.2
  refine ww_popAt (j := j) (ee_booked hb T.cl_Book T.na_booked (ee_val rfl)) hb.bo.c hb.bo.r (v_Book_place (ee_val rfl) (eae_cons (ee_dat (ev_var rfl)) eae_nil) ⟨hb, ht⟩) (by rw [List.length_map]; exact hjl) (by omega) ?_
  have e : (b.mt.map Meet.d).eraseIdx j = (b.mt.eraseIdx j).map Meet.d := erase_map _ _ _
  rw [e]
  obtain ⟨h1, h2⟩ := hb.bookd (b.mt.eraseIdx j) (b.mv.eraseIdx j) (fun m hm => hb.mok m (List.mem_of_mem_eraseIdx hm)) (Nat.le_trans (List.length_eraseIdx_le _ _) hfew)
  exact ⟨_, rfl, h1, h2⟩
end
section

theorem ok__law_asked_again {P : Program} {w : World} {K : PySem.W.Frag} {mg : Str → Option Value} {base : Heap} {a_MONTHS a_BEARING C_HourError C_NoRule C_NoName C_Taken C_Stranger C_Twice C_NoTime C_NoMeeting C_Clash C_Book : Addr} (T : Txt K mg a_MONTHS a_BEARING C_HourError C_NoRule C_NoName C_Taken C_Stranger C_Twice C_NoTime C_NoMeeting C_Clash C_Book)
    (c_Book_meet : MtB P w K mg base CX0 11 C_Book "meet" ["self", "names", "hours", "start", "end"] (spW (uw K) (R_Book_meet C_Book)))
    (c__law_in_time : FnB P w K mg base CX0 1 "_law_in_time" ["_law_hour"] (spV K R__law_in_time))
    (c_Book_move : MtB P w K mg base CX0 10 C_Book "move" ["self", "number", "start", "end"] (spW (uw K) (R_Book_move C_Book)))
    (c_Book_drop : MtB P w K mg base CX0 3 C_Book "drop" ["self", "number"] (spW (uw K) (R_Book_drop C_Book)))
    (c__law_asked : FnBG P w K mg base 11 "_law_asked" ["_law_book", "_law_some", "_law_asked_here"] (spW (uw K) (R__law_asked C_Book)))
    (c__law_cell_at : FnB P w K mg base CX0 1 "_law_cell_at" ["_law_script", "_law_k"] (spV K R__law_cell_at)) :
    FnBG P w K mg base 12 "_law_asked_again" ["_law_script", "_law_book", "_law_some", "_law_hour", "_law_asked_here"] (spW (uw K) (R__law_asked_again C_Book)) := by
  refine T.t__law_asked_again.okG (fun _ _ _ _ _ _ us hl => match us, hl with | [_, _, _, _, _], _ => rfl) fun f fd F => fn_okWG F sc__law_asked_again (by rintro es s0 O ⟨s, b, q, qv, a, l, xs, vs, h, st, en, lv, kept, ns, hp, rfl, rfl, rfl⟩; rfl) fun cdv A outer s H E hgd hr => ?_
  have hu66 := room66 hr
  have hu := hr.units
  have hu1 := Nat.lt_of_le_of_lt (Nat.add_le_add_left (show 1 ≤ 64 by decide) _) hu
  have nd := sc__law_asked_again.nd
  refine ⟨_, (pss_cons (ps_set (i := 5) nd rfl (by first | exact Or.inl rfl | exact Or.inr rfl) (pe_ix (kx_seq (K := K) rfl) (pv 2) (pe_un un_neg pe_int) (fun _ _ => rfl)))
    (pss_cons (ps_set (i := 6) nd rfl (by first | exact Or.inl rfl | exact Or.inr rfl) (pe_ix (kx_seq (K := K) rfl) (pv 5) pe_int (fun _ _ => rfl)))
    (pss_cons (ps_set (i := 7) nd rfl (by first | exact Or.inl rfl | exact Or.inr rfl) (pe_methB T.cl_Book c_Book_meet (hr.mono (by decide)) (pv 1) pass0 (pa_cons (pe_lst (pa_cons (pe_ix (kx_seq (K := K) rfl) (pv 5) pe_int (fun _ _ => rfl)) pa_nil)) (pa_cons pe_int (pa_cons (pe_ix (kx_seq (K := K) rfl) (pv 4) pe_int (fun _ _ => rfl)) (pa_cons (pe_callF c__law_in_time (hr.mono (by decide)) rfl pass0 (pa_cons (pe_op (ok_addA (K := K) rfl) (pe_ix (kx_seq (K := K) rfl) (pv 4) pe_int (fun _ _ => rfl)) pe_int) pa_nil)) pa_nil))))))
    (pss_cons (ps_if (pt_cmpR op_isNI (pv 7) pe_non (nomark _)) (pss_one (ps_ret pe_bl)) pss_nil)
    (pss_cons (ps_asg (pe_op (ok_addA (K := K) rfl) (pv 6) (pe_lst (pa_cons (pe_tup (pa_cons (pe_ix (kx_seq (K := K) rfl) (pv 7) pe_int (fun _ _ => rfl)) (pa_cons pe_int pa_nil))) pa_nil))) (pg_sub (pv 5) pe_int set_list))
    (pss_cons (ps_if (pt_cmpR (ok_eqA (K := K) rfl hu) (pe_callG c__law_asked (hr.mono (by decide)) (by first | exact hgd | rfl) rfl pass0 (pa_cons (pv 1) (pa_cons (pv 2) (pa_cons (pv 4) pa_nil)))) (pe_un un_neg pe_int) (nomark _)) (pss_one (ps_ret pe_bl)) pss_nil)
    (pss_cons (ps_set (i := 8) nd rfl (by first | exact Or.inl rfl | exact Or.inr rfl) (pe_callF c__law_in_time (hr.mono (by decide)) rfl pass0 (pa_cons (pe_op (ok_addA (K := K) rfl) (pe_ix (kx_seq (K := K) rfl) (pv 4) pe_int (fun _ _ => rfl)) (pe_op op_modI (pe_callF c__law_cell_at (hr.mono (by decide)) rfl pass0 (pa_cons (pv 0) (pa_cons pe_int pa_nil))) pe_int)) pa_nil)))
    (pss_cons (ps_set (i := 9) nd rfl (by first | exact Or.inl rfl | exact Or.inr rfl) (pe_methB T.cl_Book c_Book_move (hr.mono (by decide)) (pv 1) pass0 (pa_cons (pe_ix (kx_seq (K := K) rfl) (pv 7) pe_int (fun _ _ => rfl)) (pa_cons (pv 8) (pa_cons (pe_callF c__law_in_time (hr.mono (by decide)) rfl pass0 (pa_cons (pe_op (ok_addA (K := K) rfl) (pv 8) pe_int) pa_nil)) pa_nil)))))
    (pss_cons (ps_if (pt_cmpR op_isNotI (pv 9) pe_non (nomark _)) (pss_one (ps_asg (pe_op (ok_addA (K := K) rfl) (pv 6) (pe_lst (pa_cons (pe_tup (pa_cons (pv 9) (pa_cons pe_int pa_nil))) pa_nil))) (pg_sub (pv 5) pe_int set_list))) pss_nil)
    (pss_cons (ps_if (pt_cmpR (ok_eqA (K := K) rfl hu) (pe_callG c__law_asked (hr.mono (by decide)) (by first | exact hgd | rfl) rfl pass0 (pa_cons (pv 1) (pa_cons (pv 2) (pa_cons (pv 4) pa_nil)))) (pe_un un_neg pe_int) (nomark _)) (pss_one (ps_ret pe_bl)) pss_nil)
    (pss_cons (ps_expr (pe_methB T.cl_Book c_Book_drop (hr.mono (by decide)) (pv 1) pass0 (pa_cons (pe_ix (kx_seq (K := K) rfl) (pv 7) pe_int (fun _ _ => rfl)) pa_nil)))
    (pss_cons (ps_asg (pv 6) (pg_sub (pv 5) pe_int set_list))
    (pss_one (ps_ret (pe_cmpR (ok_eqA (K := K) rfl hu) (pe_callG c__law_asked (hr.mono (by decide)) (by first | exact hgd | rfl) rfl pass0 (pa_cons (pv 1) (pa_cons (pv 2) (pa_cons (pv 4) pa_nil)))) (pv 3) (nomark _)))))))))))))))), ?_⟩
  clear hr hu hu1 hu66 nd F c_Book_meet c__law_in_time c_Book_move c_Book_drop c__law_asked c__law_cell_at
  rintro es s0 O ⟨s, b, q, qv, a, l, xs, vs, h, st, en, lv, kept, ns, hp, rfl, rfl, rfl⟩
  show WpW _ _ _ [.dat (.list (ns.map .int)), .val (.ref b.a), .val (.ref qv), .dat (firstL vs h st en), .val (.ref a), .no, .no, .no, .no, .no] (s) _
  obtain ⟨w, hco, hmt, hkl, hns, hml⟩ := hp
  obtain ⟨hs1, hs2, hs3, hs4⟩ := w.hs
  obtain ⟨us, x, hvs⟩ : ∃ us x, vs = us ++ [x] := ⟨vs.dropLast, vs.getLast (fun e => by have := w.vne.1; rw [e] at this; simp at this), (List.dropLast_concat_getLast _).symm⟩
  have hx : x ∈ xs := w.vsub x (by rw [hvs]; simp)
  have hro := w.pe.ro x hx
  have hrk := w.rk x hx
  have hmx := hmt x hx
  obtain ⟨f1, f2, f3⟩ := firstL_shaped vs h st en
  have rd1 : ∀ {s' : US} {Γ : List Ent}, (a, HO.lst [.int h, .int st, .int en, .ref l]) ∈ s'.cells → Γ[4]? = some (.val (.ref a)) → EvD ((uw K).g s') (tOp (rIx K) (tVar 4) (tC (.int 1))) Γ (.int st) := fun hc h1 => ed_ival (ee_cix (ee_val h1) hc ev_int (by rfl))
  refine ww_seq (ww_asg (N := fun e s2 => e = .val (.ref x.r) ∧ s = s2) (ew_ee (ee_cix (ee_val rfl) w.vw (by k_clsL) (by rw [hvs]; unfold refsR; rw [List.map_append]; exact atI_neg1 _ _)) ⟨rfl, rfl⟩) ?_)
  rintro _ _ ⟨rfl, rfl⟩
  dsimp only [List.set_cons_succ, List.set_cons_zero]
  refine ww_seq (ww_asg (N := fun e s2 => e = .val (.ref x.m) ∧ s = s2) (ew_ee (er_mt hro (ee_val rfl)) ⟨rfl, rfl⟩) ?_)
  rintro _ _ ⟨rfl, rfl⟩
  dsimp only [List.set_cons_succ, List.set_cons_zero]
  obtain ⟨p, hp1, hp2⟩ := hco.pe x hx
  have pn : p.name = x.name := congrArg One.name hp2
  refine ww_seq (ww_asg (ew_meth (ee_val (v := .ref b.a) rfl) w.bk.ob (BkAt.nom (by decide +kernel)) (eae_cons (ee_dat (d := .list (NmsD [p])) (ev_to (EvF.ev (w_lst (ea_cons (er_name hro (ee_val rfl)) ea_nil) ⟨show 1 ≤ 100000 by decide⟩)) (by unfold NmsD; rw [List.map_cons, List.map_cons, pn]; rfl))) (eae_cons (ee_dat ev_int) (eae_cons (ee_dat (rd1 w.ca rfl)) (eae_cons (ee_dat (v__law_in_time (ea_cons (ev_op (rd1 w.ca rfl) ev_int od_add_int) ea_nil) ⟨trivial⟩)) eae_nil)))) ⟨s, b, [p], 1, st, _, ⟨⟨w.bk, (fun z hz => by rw [List.mem_singleton] at hz; rw [hz]; exact hp1), by simp, by simp, by show 1 ≤ 900; decide⟩, ⟨⟨by decide, by decide⟩, hs1, by split <;> omega, by split <;> omega, by split <;> omega⟩, by omega⟩, rfl, rfl, rfl⟩ (by rintro _ _ ⟨f, rs, hF, ⟨_, h⟩ | ⟨y, v, s2, _, h, _⟩⟩ <;> cases h)) ?_)
  rintro _ s1 ⟨f, rs, hF, hcase⟩
  rcases hcase with ⟨rfl, hz⟩ | ⟨y, v, s1', rfl, hz, hb1, hk1⟩
  · cases hz
    dsimp only [List.set_cons_succ, List.set_cons_zero]
    refine ww_seq (ww_pure (wp_if (b := true) (et_test (ev_to (ev_isN (ev_var rfl)) rfl)) (fun _ => ?_) (fun z => by cases z)))
    exact wp_ret ev_bl ⟨_, b, lv, kept, rfl, w, hco, rfl, rfl, by omega, rfl⟩
  cases hz
  clear hF rs
  have hab : b.a ∈ b.adr ∧ b.bk ∈ b.adr := by simp [Bk.adr]
  have w1 := w.book hb1 rfl hk1 (by intro c hc; simp at hc; rcases hc with rfl | rfl; exact hab.1; exact hab.2)
  have wba : (b.meet y 1 ([p].map (·.name)) v).a = b.a := rfl
  have hb1mt : (b.meet y 1 ([p].map (·.name)) v).mt = b.mt ++ [⟨b.given + 1, y, 1, [x.name]⟩] := by
    show b.mt ++ [⟨b.given + 1, y, 1, [p].map (·.name)⟩] = _
    rw [List.map_cons, List.map_nil, pn]
  have hb1ps : (b.meet y 1 ([p].map (·.name)) v).ps = b.ps := rfl
  have hb1gv : (b.meet y 1 ([p].map (·.name)) v).given = b.given + 1 := rfl
  have hb1adr : (b.meet y 1 ([p].map (·.name)) v).adr = b.adr := rfl
  rw [← wba]
  generalize b.meet y 1 ([p].map (·.name)) v = b1 at *
  have hxm1 : x.m ∈ peAdr q xs := mem_pe hx (by simp [PRow.adr])
  have nm1 : x.m ∉ b.adr ∧ x.m ≠ qv ∧ x.m ≠ a ∧ x.m ≠ l := ⟨fun z => (w.d1 _ z).1 hxm1, w.d2 _ hxm1⟩
  obtain ⟨⟨a1, a2, a3⟩, ⟨a4, a5⟩, a6⟩ := w.pe.ndr hx
  have nout : ∀ z : PRow, z.r = x.r → z.f = x.f → z.t = x.t → z.m ≠ x.m → x.m ∉ peAdr q (putR x z xs) := fun z e1 e2 e3 e4 m => by
    rcases List.mem_cons.mp m with e | m
    · have nd := w.pe.nd
      unfold peAdr at nd
      rw [List.nodup_cons] at nd
      exact nd.1 (e ▸ List.mem_flatMap.mpr ⟨x, hx, by simp [PRow.adr]⟩)
    · obtain ⟨c, hc, m2⟩ := List.mem_flatMap.mp m
      rcases putR_mem hc with e5 | ⟨hc2, hr⟩
      · rw [e5] at m2
        simp only [PRow.adr, List.mem_cons, List.not_mem_nil, or_false] at m2
        rw [e1, e2, e3] at m2
        rcases m2 with m2 | m2 | m2 | m2
        · exact a3 m2.symm
        · exact a5 m2.symm
        · exact a6 m2.symm
        · exact e4 m2.symm
      · exact hr (by rw [row_dis w.pe.nd2 hc2 hx m2 (by simp [PRow.adr])])
  have hold1 : LsU s1 x.m x.mv (x.mt.map pairD) := hro.m.keep (own := [b.a, b.bk]) hk1 (by
    intro z
    simp at z
    rcases z with z | z
    · exact nm1.1 (z ▸ hab.1)
    · exact nm1.1 (z ▸ hab.2))
  have hro1 := w1.pe.ro x hx
  dsimp only [List.set_cons_succ, List.set_cons_zero]
  refine ww_seq (ww_pure (wp_if (b := false) (et_test (ev_to (ev_isN (ev_var rfl)) rfl)) (fun z => by cases z) fun _ => wp_next ?_))
  dsimp only
  refine ww_seq (ww_setV (j := 3) (ws := x.cell) (fun _ => ev_int) rfl rfl ((ew_cell (ds := (x.mt ++ [(y, (1 : Int))]).map pairD) (by
    rw [List.map_append]
    exact ef_addC (ee_val rfl) hold1.ls (EvF.ev (w_lst (ds := [pairD (y, 1)]) (ea_cons (ev_tup (ea_cons (ev_op (ev_var rfl) ev_int oq_ix1) (ea_cons ev_int ea_nil)) (show 2 ≤ 100000 by decide)) ea_nil) ⟨show 1 ≤ 100000 by decide⟩)) (by rw [List.length_map]; show _ + 1 ≤ _; omega))).mono ?_))
  rintro _ _ ⟨pm, pv, hpm, rfl, rfl⟩
  refine ⟨_, rfl, List.mem_cons_of_mem _ hro1.c, ?_⟩
  have hpe2 := w1.pe.setM (vs := pv) (mt := x.mt ++ [(y, 1)]) hx hpm
  have k2a : Keeps s1 (s1.add [(pm, .lst pv)] [(pv, (x.mt ++ [(y, (1 : Int))]).map pairD)]) [x.r] := add_keeps
  have k2 := k2a.trans (put_keeps (q := x.r) (o := .lst (x.cell.set 3 (.ref pm))) (r := []))
  obtain ⟨x1, hx1⟩ : ∃ x1 : PRow, x1 = { x with m := pm, mt := x.mt ++ [(y, 1)], mv := pv } := ⟨_, rfl⟩
  rw [← hx1] at hpe2
  have w2 := w1.row hx hpe2 k2 (by simp [PRow.adr]) (by rw [hx1]) (by rw [hx1]) (by rw [hx1]; exact ⟨hrk.nm, hrk.nl, hrk.fr, hrk.bz⟩) (fun c hc => by
    rw [hx1] at hc
    simp only [PRow.adr, List.mem_cons, List.not_mem_nil, or_false] at hc ⊢
    rcases hc with rfl | rfl | rfl | rfl
    · exact .inl (.inl rfl)
    · exact .inl (.inr (.inl rfl))
    · exact .inl (.inr (.inr (.inl rfl)))
    · exact .inr hpm)
  have hpmx : pm ≠ x.m := fun e => hpm (e ▸ in_foot hold1.c)
  have co2 : Cor b1 (putR x x1 xs) := hco.row w.xn hx hb1ps hb1mt rfl rfl hb1gv (by rw [hx1]; rfl) (by rw [hx1]) (by rw [hx1])
  have hold2 := hold1.keep k2 (by simpa using a3.symm)
  have e1r : x1.r = x.r ∧ x1.f = x.f ∧ x1.t = x.t ∧ x1.m ≠ x.m ∧ x1.name = x.name ∧ x1.fr = x.fr ∧ x1.bz = x.bz ∧ x1.fv = x.fv ∧ x1.tv = x.tv ∧ x1.mt.length ≤ 21 := by
    rw [hx1]
    exact ⟨rfl, rfl, rfl, hpmx, rfl, rfl, rfl, rfl, rfl, by show (x.mt ++ [_]).length ≤ 21; rw [List.length_append, List.length_singleton]; omega⟩
  clear hx1 hpe2 k2a
  generalize ((s1.add [(pm, .lst pv)] [(pv, (x.mt ++ [(y, (1 : Int))]).map pairD)]).put x.r (.lst (x.cell.set 3 (.ref pm))) []) = s2 at *
  have mtl : ∀ z : PRow, z.mt.length ≤ 21 → ∀ c ∈ putR x z xs, c.mt.length ≤ 30 := fun z hz c hc => by
    rcases putR_mem hc with rfl | ⟨hc, _⟩
    · omega
    · have := hmt c hc; omega
  dsimp only
  refine ww_seq (ww_ifW (etw_test (ew_op ((ew_call (eae_cons (ee_val (v := .ref b1.a) rfl) (eae_cons (ee_val (v := .ref qv) rfl) (eae_cons (ee_val (v := .ref a) rfl) eae_nil))) ⟨s2, b1, q, qv, a, l, putR x x1 xs, putR x x1 vs, h, st, en, lv, kept, ⟨w2, co2, mtl x1 e1r.2.2.2.2.2.2.2.2.2, by omega⟩, rfl, rfl, rfl⟩ (by rintro _ _ ⟨_, _, _, h, _⟩; cases h)).mono ?_))))
  rintro _ s3 ⟨s3', lv3, kept3, z, w3, k3, hkl3⟩
  cases z
  obtain ⟨g1, g2, g3⟩ := firstL_shaped (putR x x1 vs) h st en
  refine ⟨_, .int (-1), _, rfl, by k_clsL, oq_eq_any ⟨g1⟩ ⟨rfl⟩, _, rfl, (fun z => by rw [g3 hs1] at z; cases z), fun _ => ww_next ?_⟩
  have hold3 := hold2.keep k3 (by simpa using nm1.2.2.2)
  dsimp only
  refine ww_seq (ww_pure (wp_asg (d := .int (if 999999999999 < st + cw ns 9 % 12 then 999999999999 else st + cw ns 9 % 12)) (v__law_in_time (ea_cons (ev_op (rd1 w3.ca rfl) (w_mod (by k_clsL) ev_int ⟨by decide⟩) od_add_int) ea_nil) ⟨trivial⟩) ?_))
  obtain ⟨at2, hat2⟩ : ∃ at2, at2 = (if 999999999999 < st + cw ns 9 % 12 then 999999999999 else st + cw ns 9 % 12) := ⟨_, rfl⟩
  have hb2 : 0 ≤ at2 ∧ at2 ≤ 999999999999 := by rw [hat2]; split <;> omega
  rw [← hat2]
  clear hat2
  dsimp only [List.set_cons_succ, List.set_cons_zero]
  have hten : Ten b1 (b.given + 1) b.mt.length ⟨b.given + 1, y, 1, [x.name]⟩ := by
    refine ⟨by rw [hb1mt, List.getElem?_append_right (Nat.le_refl _)]; simp, rfl, fun i m' hi hm => ?_⟩
    rw [hb1mt, List.getElem?_append_left hi] at hm
    have := (hco.num m' (List.mem_of_getElem? hm)).2
    omega
  refine ww_seq (ww_asg (ew_meth (ee_val (v := .ref b1.a) rfl) w3.bk.ob (BkAt.nom (by decide +kernel)) (eae_cons (ee_dat (ev_op (ev_var rfl) ev_int oq_ix0)) (eae_cons (ee_dat (ev_var rfl)) (eae_cons (ee_dat (v__law_in_time (ea_cons (ev_op (ev_var rfl) ev_int od_add_int) ea_nil) ⟨trivial⟩)) eae_nil))) ⟨s3, b1, b.given + 1, at2, _, b.mt.length, ⟨b.given + 1, y, 1, [x.name]⟩, [p], ⟨⟨w3.bk, hten⟩, ⟨(fun z hz => by rw [List.mem_singleton] at hz; rw [hz, hb1ps]; exact hp1), by simp [pn]⟩, hb2.1, by split <;> omega, by split <;> omega, by split <;> omega⟩, rfl, rfl, rfl⟩ (by rintro _ _ ⟨f, rs, hF, ⟨_, h⟩ | ⟨y, v, s2, _, h, _⟩⟩ <;> cases h)) ?_)
  rintro e9 s4 ⟨f, rs, hF, hcase⟩
  dsimp only [List.set_cons_succ, List.set_cons_zero]
  refine ww_seq (ww_cut (fun Γ' s' => ∃ b5 z m5 e9, Wd C_Book s' b5 q (putR x z xs) qv (putR x z vs) a l h st en lv3 kept3 ∧ Cor b5 (putR x z xs) ∧ b5.a = b1.a ∧ b5.adr = b.adr ∧ b5.ps = b.ps ∧ b5.mt = b.mt ++ [m5] ∧ m5.num = b.given + 1 ∧ LsU s' x.m x.mv (x.mt.map pairD) ∧ (z.r = x.r ∧ z.f = x.f ∧ z.t = x.t ∧ z.m ≠ x.m ∧ z.name = x.name ∧ z.fr = x.fr ∧ z.bz = x.bz ∧ z.fv = x.fv ∧ z.tv = x.tv ∧ z.mt.length ≤ 21) ∧ Γ' = [.dat (.list (ns.map .int)), .val (.ref b1.a), .val (.ref qv), .dat (firstL vs h st en), .val (.ref a), .val (.ref x.r), .val (.ref x.m), .dat (.tuple [.int (b.given + 1), .int y]), .dat (.int at2), e9]) ?_ ?_)
  · rcases hcase with ⟨rfl, hz⟩ | ⟨y2, v2, s4', rfl, hz, hb4, hk4⟩
    · cases hz
      refine ww_pure (wp_if (b := false) (et_test (ev_to (ev_isNot (ev_var rfl)) rfl)) (fun z => by cases z) fun _ => wp_next ?_)
      exact ⟨b1, x1, _, _, w3, co2, rfl, hb1adr, hb1ps, hb1mt, rfl, hold3, e1r, rfl⟩
    cases hz
    have hbk1 : b1.bk ∈ b1.adr := by simp [Bk.adr]
    have w4 := w3.book hb4 rfl hk4 (by simpa using hbk1)
    have hset : b1.mt.set b.mt.length ⟨b.given + 1, y2, 1, [x.name]⟩ = b.mt ++ [⟨b.given + 1, y2, 1, [x.name]⟩] := by
      rw [hb1mt, List.set_append_right _ _ (Nat.le_refl _)]; simp
    have hold4 := hold3.keep (own := [b1.bk]) hk4 (by
      intro z
      rw [List.mem_singleton] at z
      exact nm1.1 (by rw [z, ← hb1adr]; exact hbk1))
    have e4a : ({ b1 with mv := b1.mv.set b.mt.length v2, mt := b1.mt.set b.mt.length ⟨b.given + 1, y2, 1, [x.name]⟩ } : Bk).a = b1.a := rfl
    have e4b : ({ b1 with mv := b1.mv.set b.mt.length v2, mt := b1.mt.set b.mt.length ⟨b.given + 1, y2, 1, [x.name]⟩ } : Bk).adr = b1.adr := rfl
    have e4c : ({ b1 with mv := b1.mv.set b.mt.length v2, mt := b1.mt.set b.mt.length ⟨b.given + 1, y2, 1, [x.name]⟩ } : Bk).ps = b1.ps := rfl
    have e4d : ({ b1 with mv := b1.mv.set b.mt.length v2, mt := b1.mt.set b.mt.length ⟨b.given + 1, y2, 1, [x.name]⟩ } : Bk).mt = b.mt ++ [⟨b.given + 1, y2, 1, [x.name]⟩] := hset
    have e4e : ({ b1 with mv := b1.mv.set b.mt.length v2, mt := b1.mt.set b.mt.length ⟨b.given + 1, y2, 1, [x.name]⟩ } : Bk).given = b.given + 1 := hb1gv
    generalize ({ b1 with mv := b1.mv.set b.mt.length v2, mt := b1.mt.set b.mt.length ⟨b.given + 1, y2, 1, [x.name]⟩ } : Bk) = b4 at *
    refine ww_if (b := true) (et_test (ev_to (ev_isNot (ev_var rfl)) rfl)) (fun _ => ?_) (fun z => by cases z)
    have hx1in : x1 ∈ putR x x1 xs := putR_in hx
    have hro4 := w4.pe.ro x1 hx1in
    refine ww_setV (j := 3) (ws := x1.cell) (q := x1.r) (fun _ => ev_int) (by rw [e1r.1]; rfl) rfl ((ew_cell (ds := (x.mt ++ [(y2, (1 : Int))]).map pairD) (by
      rw [List.map_append]
      exact ef_addC (ee_val rfl) hold4.ls (EvF.ev (w_lst (ds := [pairD (y2, 1)]) (ea_cons (ev_tup (ea_cons (ev_var rfl) (ea_cons ev_int ea_nil)) (show 2 ≤ 100000 by decide)) ea_nil) ⟨show 1 ≤ 100000 by decide⟩)) (by rw [List.length_map]; show _ + 1 ≤ _; omega))).mono ?_)
    rintro _ _ ⟨pm2, pv2, hpm2, rfl, rfl⟩
    refine ⟨_, rfl, List.mem_cons_of_mem _ hro4.c, ?_⟩
    have hpe5 := w4.pe.setM (vs := pv2) (mt := x.mt ++ [(y2, 1)]) hx1in hpm2
    have k5a : Keeps s4 (s4.add [(pm2, .lst pv2)] [(pv2, (x.mt ++ [(y2, (1 : Int))]).map pairD)]) [x1.r] := add_keeps
    have k5 := k5a.trans (put_keeps (q := x1.r) (o := .lst (x1.cell.set 3 (.ref pm2))) (r := []))
    have hrk1 := w4.rk x1 hx1in
    have w5 := w4.row hx1in hpe5 k5 (by simp [PRow.adr]) rfl rfl ⟨hrk1.nm, hrk1.nl, hrk1.fr, hrk1.bz⟩ (fun c hc => by
      simp only [PRow.adr, List.mem_cons, List.not_mem_nil, or_false] at hc ⊢
      rcases hc with rfl | rfl | rfl | rfl
      · exact .inl (.inl rfl)
      · exact .inl (.inr (.inl rfl))
      · exact .inl (.inr (.inr (.inl rfl)))
      · exact .inr hpm2)
    rw [putR_putR e1r.1, putR_putR e1r.1] at w5
    have hx1r : x.m ≠ x1.r := by rw [e1r.1]; exact a3.symm
    refine ⟨b4, { x1 with m := pm2, mt := x.mt ++ [(y2, 1)], mv := pv2 }, ⟨b.given + 1, y2, 1, [x.name]⟩, _, w5, ?_, e4a, e4b.trans hb1adr, e4c.trans hb1ps, e4d, rfl, hold4.keep k5 (by simpa using hx1r), ⟨e1r.1, e1r.2.1, e1r.2.2.1, (fun e => hpm2 (by have e : pm2 = x.m := e; rw [e]; exact in_foot hold4.c)), e1r.2.2.2.2.1, e1r.2.2.2.2.2.1, e1r.2.2.2.2.2.2.1, e1r.2.2.2.2.2.2.2.1, e1r.2.2.2.2.2.2.2.2.1, by show (x.mt ++ [_]).length ≤ 21; rw [List.length_append, List.length_singleton]; omega⟩, rfl⟩
    refine hco.row w.xn hx (e4c.trans hb1ps) e4d rfl rfl e4e ?_ e1r.1 rfl
    show (⟨x1.name, x1.fr, x1.bz⟩ : One) = ⟨x.name, x.fr, x.bz⟩
    rw [e1r.2.2.2.2.1, e1r.2.2.2.2.2.1, e1r.2.2.2.2.2.2.1]
  clear hcase hF
  rintro _ s5 ⟨b5, z, m5, e9', w5, co5, h5a, h5b, h5c, h5d, h5e, hold5, ez, rfl⟩
  dsimp only
  refine ww_seq (ww_ifW (etw_test (ew_op ((ew_call (eae_cons (ee_val (v := .ref b5.a) (by rw [h5a]; rfl)) (eae_cons (ee_val (v := .ref qv) rfl) (eae_cons (ee_val (v := .ref a) rfl) eae_nil))) ⟨s5, b5, q, qv, a, l, putR x z xs, putR x z vs, h, st, en, lv3, kept3, ⟨w5, co5, mtl z ez.2.2.2.2.2.2.2.2.2, by omega⟩, rfl, rfl, rfl⟩ (by rintro _ _ ⟨_, _, _, h, _⟩; cases h)).mono ?_))))
  rintro _ s6 ⟨s6', lv6, kept6, zz, w6, k6, hkl6⟩
  cases zz
  obtain ⟨g1, g2, g3⟩ := firstL_shaped (putR x z vs) h st en
  refine ⟨_, .int (-1), _, rfl, by k_clsL, oq_eq_any ⟨g1⟩ ⟨rfl⟩, _, rfl, (fun z => by rw [g3 hs1] at z; cases z), fun _ => ww_next ?_⟩
  have hold6 := hold5.keep k6 (by simpa using nm1.2.2.2)
  dsimp only
  have hten6 : Ten b5 (b.given + 1) b.mt.length m5 := by
    refine ⟨by rw [h5d, List.getElem?_append_right (Nat.le_refl _)]; simp, h5e, fun i m' hi hm => ?_⟩
    rw [h5d, List.getElem?_append_left hi] at hm
    have := (hco.num m' (List.mem_of_getElem? hm)).2
    omega
  refine ww_seq (ww_drop (ew_meth (ee_val (v := .ref b5.a) (by rw [h5a]; rfl)) w6.bk.ob (BkAt.nom (by decide +kernel)) (eae_cons (ee_dat (ev_op (ev_var rfl) ev_int oq_ix0)) eae_nil) ⟨s6, b5, b.given + 1, b.mt.length, m5, ⟨w6.bk, hten6⟩, rfl, rfl, rfl⟩ (by rintro _ _ ⟨_, h, _⟩; cases h)) ?_)
  rintro _ s7 ⟨s7', zz, hb7, hk7⟩
  cases zz
  have hbk5 : b5.bk ∈ b5.adr := by simp [Bk.adr]
  have w7 := w6.book hb7 rfl hk7 (by simpa using hbk5)
  have h7m : b5.mt.eraseIdx b.mt.length = b.mt := by rw [h5d, List.eraseIdx_append_of_length_le (Nat.le_refl _)]; simp
  have hold7 := hold6.keep (own := [b5.bk]) hk7 (by
    intro zz
    rw [List.mem_singleton] at zz
    exact nm1.1 (by rw [zz, ← h5b]; exact hbk5))
  have e7a : ({ b5 with mv := b5.mv.eraseIdx b.mt.length, mt := b5.mt.eraseIdx b.mt.length } : Bk).a = b5.a := rfl
  have e7b : ({ b5 with mv := b5.mv.eraseIdx b.mt.length, mt := b5.mt.eraseIdx b.mt.length } : Bk).adr = b5.adr := rfl
  have e7c : ({ b5 with mv := b5.mv.eraseIdx b.mt.length, mt := b5.mt.eraseIdx b.mt.length } : Bk).ps = b5.ps := rfl
  have e7d : ({ b5 with mv := b5.mv.eraseIdx b.mt.length, mt := b5.mt.eraseIdx b.mt.length } : Bk).mt = b.mt := h7m
  have e7e : ({ b5 with mv := b5.mv.eraseIdx b.mt.length, mt := b5.mt.eraseIdx b.mt.length } : Bk).given = b5.given := rfl
  generalize ({ b5 with mv := b5.mv.eraseIdx b.mt.length, mt := b5.mt.eraseIdx b.mt.length } : Bk) = b7 at *
  have hzin : z ∈ putR x z xs := putR_in hx
  have hro7 := w7.pe.ro z hzin
  dsimp only
  refine ww_seq (ww_setV (j := 3) (ws := z.cell) (q := z.r) (fun _ => ev_int) (by rw [ez.1]; rfl) rfl (ew_ee (ee_val (v := .ref x.m) rfl) ⟨_, rfl, hro7.c, ?_⟩))
  obtain ⟨hpe8, k8⟩ := w7.pe.backM (vs := x.mv) (mt := x.mt) hzin (nout z ez.1 ez.2.1 ez.2.2.1 ez.2.2.2.1) hold7
  have ezx : ({ z with m := x.m, mt := x.mt, mv := x.mv } : PRow) = x := by
    obtain ⟨i1, i2, i3, i4, i5, i6, i7, i8, i9, i10⟩ := ez
    cases z
    cases x
    simp only at i1 i2 i3 i5 i6 i7 i8 i9
    simp [i1, i2, i3, i5, i6, i7, i8, i9]
  rw [ezx] at hpe8
  have w8 := w7.row2 (y := x) hzin hpe8 k8 (by simp [PRow.adr]) ez.1.symm ez.2.2.2.2.1.symm hrk (fun c hc => by
    simp only [PRow.adr, List.mem_cons, List.not_mem_nil, or_false] at hc ⊢
    rcases hc with rfl | rfl | rfl | rfl
    · exact .inl (.inl ez.1.symm)
    · exact .inl (.inr (.inl ez.2.1.symm))
    · exact .inl (.inr (.inr (.inl ez.2.2.1.symm)))
    · exact .inr ⟨by rw [e7b, h5b]; exact nm1.1, nm1.2⟩)
  rw [putR_putR ez.1, putR_putR ez.1, putR_self w.pe.nd2 hx, putR_vs w.pe.nd2 hx w.vsub] at w8
  have co8 : Cor b7 xs := ⟨fun c hc => by rw [e7c, h5c]; exact hco.pe c hc, fun c hc => by rw [e7d]; exact hco.mt c hc, fun m hm => by
    rw [e7d] at hm
    have h1 := hco.num m hm
    have h2 := (co5.num m5 (by rw [h5d]; simp)).2
    rw [e7e]
    omega, by rw [e7e]; exact co5.gv⟩
  generalize (s7.put z.r (.lst (z.cell.set 3 (.ref x.m))) []) = s8 at *
  dsimp only
  refine ww_ret (N := fun e s9 => e = .dat (.bool true) ∧ ∃ lv9 kept9, Wd C_Book s9 b7 q xs qv vs a l h st en lv9 kept9 ∧ kept9.length ≤ kept6.length + 1) (ew_op ((ew_call (eae_cons (ee_val (v := .ref b7.a) (by rw [e7a, h5a]; rfl)) (eae_cons (ee_val (v := .ref qv) rfl) (eae_cons (ee_val (v := .ref a) rfl) eae_nil))) ⟨s8, b7, q, qv, a, l, xs, vs, h, st, en, lv6, kept6, ⟨w8, co8, (fun c hc => by have := hmt c hc; omega), by omega⟩, rfl, rfl, rfl⟩ (by rintro _ _ ⟨_, _, _, h, _⟩; cases h)).mono ?_)) ?_
  · rintro _ s9 ⟨s9', lv9, kept9, zz, w9, k9, hkl9⟩
    cases zz
    exact ⟨_, _, _, rfl, ev_var rfl, od_to (oq_eq_any ⟨f1⟩ ⟨f1⟩) (by rw [f2]), rfl, lv9, kept9, w9, hkl9⟩
  · rintro _ s9 ⟨rfl, lv9, kept9, w9, hkl9⟩
    exact ⟨s9, b7, lv9, kept9, rfl, w9, co8, e7a.trans h5a, e7d, by omega, e7b.trans h5b⟩
end
section

theorem ok_law {P : Program} {w : World} {K : PySem.W.Frag} {mg : Str → Option Value} {base : Heap} {a_MONTHS a_BEARING C_HourError C_NoRule C_NoName C_Taken C_Stranger C_Twice C_NoTime C_NoMeeting C_Clash C_Book : Addr} (T : Txt K mg a_MONTHS a_BEARING C_HourError C_NoRule C_NoName C_Taken C_Stranger C_Twice C_NoTime C_NoMeeting C_Clash C_Book)
    (c__law_far : FnB P w K mg base CX0 1 "_law_far" ["_law_cell"] (spE K R__law_far))
    (c__law_people_by : FnB P w K mg base CX0 4 "_law_people_by" ["_law_script", "_law_at", "_law_many", "_law_far_here"] (spW (uw K) R__law_people_by))
    (c__law_book_of : FnB P w K mg base CX0 8 "_law_book_of" ["_law_people"] (spW (uw K) (R__law_book_of C_Book)))
    (c__law_in_time : FnB P w K mg base CX0 1 "_law_in_time" ["_law_hour"] (spV K R__law_in_time))
    (c__law_asked : FnBG P w K mg base 11 "_law_asked" ["_law_book", "_law_some", "_law_asked_here"] (spW (uw K) (R__law_asked C_Book)))
    (c__law_cell_at : FnB P w K mg base CX0 1 "_law_cell_at" ["_law_script", "_law_k"] (spV K R__law_cell_at))
    (c_Book_meet : MtB P w K mg base CX0 11 C_Book "meet" ["self", "names", "hours", "start", "end"] (spW (uw K) (R_Book_meet C_Book)))
    (c__law_busier : FnB P w K mg base CX0 8 "_law_busier" ["_law_book", "_law_one", "_law_hours"] (spW (uw K) (R__law_busier C_Book)))
    (c__law_taken : FnB P w K mg base CX0 12 "_law_taken" ["_law_book", "_law_some", "_law_found", "_law_hours", "_law_stretch"] (spW (uw K) (R__law_taken C_Book)))
    (c_Book_come : MtB P w K mg base CX0 6 C_Book "come" ["self", "name", "free"] (spW (uw K) (R_Book_come C_Book)))
    (c__law_asked_again : FnBG P w K mg base 12 "_law_asked_again" ["_law_script", "_law_book", "_law_some", "_law_hour", "_law_asked_here"] (spW (uw K) (R__law_asked_again C_Book))) :
    ∀ f fd, Fun K "law" "law" s_law f fd → LawRun P w K mg base f fd "_law_script" (spV K R_law) := by
  refine fun f fd F => law_okW (uw K) US.nil rfl (fun _ _ h => by cases h) (k := 12) F sc_law ⟨rfl, by decide, by decide⟩ (by rintro ds d ⟨ns, hp, rfl, rfl⟩; rfl) fun cdv s H E hr => ?_
  have hu66 := room66 hr
  have hu := hr.units
  have hu1 := Nat.lt_of_le_of_lt (Nat.add_le_add_left (show 1 ≤ 64 by decide) _) hu
  have nd := sc_law.nd
  refine ⟨_, (pss_cons (ps_set (i := 1) nd rfl (by first | exact Or.inl rfl | exact Or.inr rfl) (pe_callF c__law_far (hr.mono (by decide)) rfl pass0 (pa_cons (pe_callF c__law_cell_at (hr.mono (by decide)) rfl pass0 (pa_cons (pv 0) (pa_cons pe_int pa_nil))) pa_nil)))
    (pss_cons (ps_set (i := 2) nd rfl (by first | exact Or.inl rfl | exact Or.inr rfl) (pe_and (pe_cmpR (ok_eqA (K := K) rfl hu) (pe_op op_modI (pe_callF c__law_cell_at (hr.mono (by decide)) rfl pass0 (pa_cons (pv 0) (pa_cons pe_int pa_nil))) pe_int) pe_int (nomark _)) (pe_one (pe_cmpR op_ltI (pv 1) (pe_op op_subI (pe_op op_powI pe_int pe_int) pe_int) (nomark _)))))
    (pss_cons (ps_set (i := 3) nd rfl (by first | exact Or.inl rfl | exact Or.inr rfl) (pe_op (ok_addA (K := K) rfl) pe_int (pe_op op_mulI (pe_op op_modI (pe_callF c__law_cell_at (hr.mono (by decide)) rfl pass0 (pa_cons (pv 0) (pa_cons pe_int pa_nil))) pe_int) (pe_callTy call_intA rfl T.b_int bb_int (pa_cons (pe_not (pv 2)) pa_nil)))))
    (pss_cons (ps_set (i := 4) nd rfl (by first | exact Or.inl rfl | exact Or.inr rfl) (pe_callF c__law_people_by (hr.mono (by decide)) rfl pass0 (pa_cons (pv 0) (pa_cons pe_int (pa_cons (pv 3) (pa_cons (pv 1) pa_nil))))))
    (pss_cons (ps_set (i := 5) nd rfl (by first | exact Or.inl rfl | exact Or.inr rfl) (pe_callF c__law_book_of (hr.mono (by decide)) rfl pass0 (pa_cons (pv 4) pa_nil)))
    (pss_cons (ps_set (i := 6) nd rfl (by first | exact Or.inl rfl | exact Or.inr rfl) (pe_op (ok_addA (K := K) rfl) pe_int (pe_op op_modI (pe_callF c__law_cell_at (hr.mono (by decide)) rfl pass0 (pa_cons (pv 0) (pa_cons pe_int pa_nil))) pe_int)))
    (pss_cons (ps_set (i := 7) nd rfl (by first | exact Or.inl rfl | exact Or.inr rfl) (pe_op (ok_addA (K := K) rfl) (pv 1) (pe_op op_modI (pe_callF c__law_cell_at (hr.mono (by decide)) rfl pass0 (pa_cons (pv 0) (pa_cons pe_int pa_nil))) pe_int)))
    (pss_cons (ps_if (PW.pt (pw_and (pt_cmpR op_gtI (pv 1) (pe_op op_subI (pe_op op_powI pe_int pe_int) pe_int) (nomark _)) (pw_and1 (pt_cmpR (ok_eqA (K := K) rfl hu) (pe_op op_modI (pe_op op_divI (pe_callF c__law_cell_at (hr.mono (by decide)) rfl pass0 (pa_cons (pv 0) (pa_cons pe_int pa_nil))) pe_int) pe_int) pe_int (nomark _))))) (pss_one (ps_set (i := 7) nd rfl (by first | exact Or.inl rfl | exact Or.inr rfl) (pe_op op_subI (pe_op op_subI (pe_op op_powI pe_int pe_int) pe_int) (pe_op op_modI (pe_op op_divI (pe_callF c__law_cell_at (hr.mono (by decide)) rfl pass0 (pa_cons (pv 0) (pa_cons pe_int pa_nil))) pe_int) pe_int)))) pss_nil)
    (pss_cons (ps_if (PW.pt (pw_and (pt_cmpR (ok_eqA (K := K) rfl hu) (pe_op op_modI (pe_callF c__law_cell_at (hr.mono (by decide)) rfl pass0 (pa_cons (pv 0) (pa_cons pe_int pa_nil))) pe_int) pe_int (nomark _)) (pw_and1 (pt_not (pt_val (pv 2)))))) (pss_cons (ps_set (i := 13) nd rfl (by first | exact Or.inl rfl | exact Or.inr rfl) (pe_op (ok_addA (K := K) rfl) pe_int (pe_op op_modI (pe_op op_divI (pe_callF c__law_cell_at (hr.mono (by decide)) rfl pass0 (pa_cons (pv 0) (pa_cons pe_int pa_nil))) pe_int) pe_int)))
    (pss_cons (ps_set (i := 14) nd rfl (by first | exact Or.inl rfl | exact Or.inr rfl) (pe_methB T.cl_Book c_Book_meet (hr.mono (by decide)) (pv 5) pass0 (pa_cons (pe_lst (pa_cons (pe_ix (kx_seq (K := K) rfl) (pe_ix (kx_seq (K := K) rfl) (pv 4) (pe_un un_neg pe_int) (fun _ _ => rfl)) pe_int (fun _ _ => rfl)) pa_nil)) (pa_cons (pv 13) (pa_cons (pv 7) (pa_cons (pe_callF c__law_in_time (hr.mono (by decide)) rfl pass0 (pa_cons (pe_op (ok_addA (K := K) rfl) (pv 7) pe_int) pa_nil)) pa_nil))))))
    (pss_one (ps_if (pt_cmpR op_isNotI (pv 14) pe_non (nomark _)) (pss_one (ps_expr (kpe_app (K := K) rfl (pe_ix (kx_seq (K := K) rfl) (pe_ix (kx_seq (K := K) rfl) (pv 4) (pe_un un_neg pe_int) (fun _ _ => rfl)) pe_int (fun _ _ => rfl)) (pe_tup (pa_cons (pe_ix (kx_seq (K := K) rfl) (pv 14) pe_int (fun _ _ => rfl)) (pa_cons (pv 13) pa_nil)))))) pss_nil)))) pss_nil)
    (pss_cons (ps_set (i := 8) nd rfl (by first | exact Or.inl rfl | exact Or.inr rfl) (pe_callF c__law_in_time (hr.mono (by decide)) rfl pass0 (pa_cons (pe_op (ok_addA (K := K) rfl) (pv 7) (pe_op op_modI (pe_callF c__law_cell_at (hr.mono (by decide)) rfl pass0 (pa_cons (pv 0) (pa_cons pe_int pa_nil))) pe_int)) pa_nil)))
    (pss_cons (ps_if (pt_val (pv 2)) (pss_cons (ps_set (i := 6) nd rfl (by first | exact Or.inl rfl | exact Or.inr rfl) (pe_op (ok_addA (K := K) rfl) pe_int (pe_op op_modI (pe_op op_divI (pe_callF c__law_cell_at (hr.mono (by decide)) rfl pass0 (pa_cons (pv 0) (pa_cons pe_int pa_nil))) pe_int) pe_int)))
    (pss_cons (ps_set (i := 8) nd rfl (by first | exact Or.inl rfl | exact Or.inr rfl) (pe_op (ok_addA (K := K) rfl) (pv 7) (pe_op op_modI (pe_callF c__law_cell_at (hr.mono (by decide)) rfl pass0 (pa_cons (pv 0) (pa_cons pe_int pa_nil))) pe_int)))
    (pss_cons (ps_set (i := 4) nd rfl (by first | exact Or.inl rfl | exact Or.inr rfl) (pe_lst pa_nil))
    (pss_one (ps_for PassesOwn.never rfl (pi_range1 rfl T.b_range (pa_cons (pe_op (ok_addA (K := K) rfl) pe_int (pe_op op_modI (pe_callF c__law_cell_at (hr.mono (by decide)) rfl pass0 (pa_cons (pv 0) (pa_cons pe_int pa_nil))) pe_int)) pa_nil)) (pg_name (i := 15) nd rfl (by first | exact Or.inl rfl | exact Or.inr rfl)) (pss_cons (ps_set (i := 17) nd rfl (by first | exact Or.inl rfl | exact Or.inr rfl) (pe_tup (pa_cons pe_str (pa_cons (pe_op (ok_addA (K := K) rfl) (pv 7) (pe_op op_modI (pe_op op_divI (pe_callF c__law_cell_at (hr.mono (by decide)) rfl pass0 (pa_cons (pv 0) (pa_cons (pe_op (ok_addA (K := K) rfl) pe_int (pe_op op_mulI pe_int (pv 15))) pa_nil))) pe_int) pe_int)) (pa_cons pe_int (pa_cons pe_int pa_nil))))))
    (pss_cons (ps_expr (kpe_app (K := K) rfl (pv 4) (pe_lst (pa_cons (pe_op (ok_addA (K := K) rfl) pe_str (pe_ix (kx_seq (K := K) rfl) pe_str (pv 15) (fun _ _ => rfl))) (pa_cons (pe_lst (pa_cons (pv 17) pa_nil)) (pa_cons (pe_lst pa_nil) (pa_cons (pe_lst pa_nil) pa_nil)))))))
    (pss_one (ps_expr (pe_methB T.cl_Book c_Book_come (hr.mono (by decide)) (pv 5) pass0 (pa_cons (pe_ix (kx_seq (K := K) rfl) (pe_ix (kx_seq (K := K) rfl) (pv 4) (pe_un un_neg pe_int) (fun _ _ => rfl)) pe_int (fun _ _ => rfl)) (pa_cons (pe_lst (pa_cons (pv 17) pa_nil)) pa_nil)))))))))))) pss_nil)
    (pss_cons (ps_set (i := 9) nd rfl (by first | exact Or.inl rfl | exact Or.inr rfl) (pe_slice (kl_any (K := K) rfl) (pv 4) (po_some (pe_op op_modI (pe_callF c__law_cell_at (hr.mono (by decide)) rfl pass0 (pa_cons (pv 0) (pa_cons pe_int pa_nil))) (pe_callB (kc_len (K := K) rfl) rfl T.b_len bb_len (pa_cons (pv 4) pa_nil)))) po_none))
    (pss_cons (ps_if (pt_cmpR (ok_eqA (K := K) rfl hu) (pe_op op_modI (pe_op op_divI (pe_callF c__law_cell_at (hr.mono (by decide)) rfl pass0 (pa_cons (pv 0) (pa_cons pe_int pa_nil))) pe_int) pe_int) pe_int (nomark _)) (pss_one (ps_set (i := 9) nd rfl (by first | exact Or.inl rfl | exact Or.inr rfl) (kpe_revL (K := K) rfl (pv 9)))) pss_nil)
    (pss_cons (ps_set (i := 10) nd rfl (by first | exact Or.inl rfl | exact Or.inr rfl) (pe_lst (pa_cons (pv 6) (pa_cons (pv 7) (pa_cons (pv 8) (pa_cons (pe_lst pa_nil) pa_nil))))))
    (pss_cons (ps_set (i := 11) nd rfl (by first | exact Or.inl rfl | exact Or.inr rfl) (pe_callG c__law_asked (hr.mono (by decide)) (by first | exact hgd | rfl) rfl pass0 (pa_cons (pv 5) (pa_cons (pv 9) (pa_cons (pv 10) pa_nil)))))
    (pss_cons (ps_if (PW.pt (pw_or (pt_cmpR (ok_eqA (K := K) rfl hu) (pv 11) (pe_un un_neg pe_int) (nomark _)) (pw_or1 (PW.pt (pw_and (pt_not (pt_val (pv 2))) (pw_and1 (pt_not (pt_val (pe_callG c__law_asked_again (hr.mono (by decide)) (by first | exact hgd | rfl) rfl pass0 (pa_cons (pv 0) (pa_cons (pv 5) (pa_cons (pv 9) (pa_cons (pv 11) (pa_cons (pv 10) pa_nil)))))))))))))) (pss_one (ps_ret pe_bl)) pss_nil)
    (pss_cons (ps_if (pt_cmpR (ok_eqA (K := K) rfl hu) (pe_op op_modI (pe_callF c__law_cell_at (hr.mono (by decide)) rfl pass0 (pa_cons (pv 0) (pa_cons pe_int pa_nil))) pe_int) pe_int (nomark _)) (pss_cons (ps_set (i := 16) nd rfl (by first | exact Or.inl rfl | exact Or.inr rfl) (pe_callF c__law_in_time (hr.mono (by decide)) rfl pass0 (pa_cons (pe_op (ok_addA (K := K) rfl) (pv 7) (pe_op op_modI (pe_op op_divI (pe_callF c__law_cell_at (hr.mono (by decide)) rfl pass0 (pa_cons (pv 0) (pa_cons pe_int pa_nil))) pe_int) pe_int)) pa_nil)))
    (pss_cons (ps_expr (pe_callF c__law_busier (hr.mono (by decide)) rfl pass0 (pa_cons (pv 5) (pa_cons (pe_ix (kx_seq (K := K) rfl) (pv 9) (pe_un un_neg pe_int) (fun _ _ => rfl)) (pa_cons (pe_lst (pa_cons (pv 11) (pa_cons (pv 16) pa_nil))) pa_nil)))))
    (pss_one (ps_set (i := 11) nd rfl (by first | exact Or.inl rfl | exact Or.inr rfl) (pe_callG c__law_asked (hr.mono (by decide)) (by first | exact hgd | rfl) rfl pass0 (pa_cons (pv 5) (pa_cons (pv 9) (pa_cons (pv 10) pa_nil)))))))) pss_nil)
    (pss_cons (ps_if (pt_cmpR (ok_eqA (K := K) rfl hu) (pv 11) (pe_un un_neg pe_int) (nomark _)) (pss_one (ps_ret pe_bl)) pss_nil)
    (pss_cons (ps_set (i := 12) nd rfl (by first | exact Or.inl rfl | exact Or.inr rfl) (pe_or (pe_not (pv 2)) (pe_one (pe_callF c__law_taken (hr.mono (by decide)) rfl pass0 (pa_cons (pv 5) (pa_cons (pv 9) (pa_cons (pv 11) (pa_cons (pv 6) (pa_cons (pe_tup (pa_cons (pv 7) (pa_cons (pv 8) pa_nil))) pa_nil)))))))))
    (pss_one (ps_ret (pe_and (pv 12) (pe_one (pe_callB (kc_all (K := K) rfl rfl) rfl T.b_all bb_all (pa_cons (pe_lc (own := [("_law_told", 18), ("_law_kept", 19)]) rfl nd (ki_any (K := K) rfl (pe_ix (kx_seq (K := K) rfl) (pv 10) pe_int (fun _ _ => rfl))) (blkOk_by (N := ["_law_script", "_law_far_here", "_law_wide", "_law_many", "_law_people", "_law_book", "_law_hours", "_law_start", "_law_end", "_law_some", "_law_asked_here", "_law_found", "_law_good", "_law_size_here", "_law_met", "_law_k", "_law_at", "_law_rule", "_law_told", "_law_kept"]) (sc := defScope s_law) (by decide +kernel)) (fun _ _ _ _ _ => (kg_tup (K := K) (n := 2) rfl rfl (pgs_cons (pg_name (i := 18) nd rfl (by first | exact Or.inl rfl | exact Or.inr rfl)) (pgs_cons (pg_name (i := 19) nd rfl (by first | exact Or.inl rfl | exact Or.inr rfl)) pgs_nil)))) (fun _ _ _ _ _ => pts_nil) (fun _ _ _ _ _ => (pe_cmpR (ok_eqA (K := K) rfl hu) (pe_callB (kc_repr (K := K) rfl rfl hu66) rfl T.b_repr bb_repr (pa_cons (pv 18) pa_nil)) (pv 19) (nomark _)))) pa_nil))))))))))))))))))))))))), ?_⟩
  clear hr hu hu1 hu66 nd F c__law_far c__law_people_by c__law_book_of c__law_in_time c__law_asked c__law_cell_at c_Book_meet c__law_busier c__law_taken c_Book_come c__law_asked_again
  rintro ds d ⟨ns, hp, rfl, rfl⟩
  show WpW _ _ _ [.dat (.list (ns.map .int)), .no, .no, .no, .no, .no, .no, .no, .no, .no, .no, .no, .no, .no, .no, .no, .no, .no, .no, .no] US.nil _
  refine ww_seq (ww_pure (x__law_far (c := cw ns 0) (ea_cons (by k_clsL) ea_nil) ⟨trivial⟩ ?_))
  rintro far ⟨f1, f2⟩
  dsimp only [List.set_cons_succ, List.set_cons_zero]
  refine ww_seq (ww_pure (wp_cut (fun Γ' => ∃ W : Bool, (W = true → far < 999999980000) ∧ Γ' = [.dat (.list (ns.map .int)), .dat (.int far), .dat (.bool W), .no, .no, .no, .no, .no, .no, .no, .no, .no, .no, .no, .no, .no, .no, .no, .no, .no]) ?_ ?_))
  · refine wp_asg (d := .bool (decide (cw ns 7 % 8 = 1) && decide (far < 1000000000000 - 20000))) (by k_clsL) ⟨_, fun h => ?_, rfl⟩
    rw [Bool.and_eq_true, decide_eq_true_eq, decide_eq_true_eq] at h
    omega
  rintro _ ⟨W, hW, rfl⟩
  dsimp only
  refine ww_seq (ww_pure (wp_cut (fun Γ' => ∃ M : Int, 1 ≤ M ∧ M ≤ 3 ∧ (W = true → M = 1) ∧ Γ' = [.dat (.list (ns.map .int)), .dat (.int far), .dat (.bool W), .dat (.int M), .no, .no, .no, .no, .no, .no, .no, .no, .no, .no, .no, .no, .no, .no, .no, .no]) ?_ ?_))
  · refine wp_asg (d := .int (1 + cw ns 1 % 3 * (if (!W) = true then 1 else 0))) (by k_clsL) ⟨_, ?_, ?_, ?_, rfl⟩
    all_goals (cases W <;> simp <;> omega)
  rintro _ ⟨M, hM1, hM2, hM3, rfl⟩
  dsimp only
  refine ww_seq (ww_asg (ew_call (eae_cons (ee_dat (ev_var rfl)) (eae_cons (ee_dat ev_int) (eae_cons (ee_dat (ev_var rfl)) (eae_cons (ee_dat (ev_var rfl)) eae_nil)))) ⟨US.nil, ns, 12, M, far, ⟨hp, ⟨f1, f2⟩, by omega, by omega⟩, rfl, rfl, rfl⟩ (by rintro _ _ ⟨s2, q, xs, h, _⟩; cases h)) ?_)
  rintro _ s1 ⟨s1', q, xs0, h, hpe0, hlen0, hnd0, hok0, sh, cs, hcs⟩
  cases h
  dsimp only [List.set_cons_succ, List.set_cons_zero]
  refine ww_seq (ww_asg (ew_call (eae_cons (ee_val rfl) eae_nil) ⟨s1, q, xs0, ⟨hpe0, hnd0, fun x hx => (hok0 x hx).1, by omega⟩, rfl, rfl, rfl⟩ (by rintro _ _ ⟨s2, b, h, _⟩; cases h)) ?_)
  rintro _ s3 ⟨s3', b0, h, hb0, hps0, hmt0, hgv0, hk3, hf3⟩
  cases h
  dsimp only [List.set_cons_succ, List.set_cons_zero]
  have hP0 : P0 C_Book s3 b0 q xs0 := ⟨hb0, hpe0.keep hk3 (by simp), ⟨fun x hx => by
    have : x.one ∈ b0.ps.map Pers.one := by rw [hps0]; exact List.mem_map_of_mem hx
    obtain ⟨p, hp, e⟩ := List.mem_map.mp this
    exact ⟨p, hp, e⟩, fun x hx => by rw [(hok0 x hx).2.2.2.1, hmt0]; rfl, (fun m hm => by rw [hmt0] at hm; cases hm), by rw [hgv0]; decide⟩, fun x hx => ⟨(hok0 x hx).1, (hok0 x hx).2.2.1, by rw [(hok0 x hx).2.2.2.1]; decide⟩, hnd0, fun a ha m => hf3 a ha (hpe0.foot a m), by rw [hmt0]; decide⟩
  have hW0 : W = true → b0.mt = [] ∧ b0.given = 0 ∧ ∃ c, b0.ps.map (·.name) = [nameOf sh c 0] := fun w => by
    refine ⟨hmt0, hgv0, cs 0, ?_⟩
    have e : b0.ps.map (·.name) = xs0.map PRow.name := ones_names hps0
    rw [e, hcs, hM3 w]; rfl
  clear hk3 hf3 hpe0 hps0 hgv0 hb0
  generalize hba : b0.a = ba
  have hba := hba
  refine ww_seq (ww_pure (wp_asg (d := .int (1 + cw ns 3 % 4)) (by k_clsL) ?_))
  dsimp only [List.set_cons_succ, List.set_cons_zero]
  refine ww_seq (ww_pure (wp_asg (d := .int (far + cw ns 4 % 60)) (by k_clsL) ?_))
  dsimp only [List.set_cons_succ, List.set_cons_zero]
  have hh0 : 1 ≤ 1 + cw ns 3 % 4 ∧ 1 + cw ns 3 % 4 ≤ 48 := by omega
  generalize 1 + cw ns 3 % 4 = h at *
  refine ww_seq (ww_pure (wp_cut (fun Γ' => ∃ st : Int, (0 ≤ st ∧ st ≤ 999999999999) ∧ (W = true → st ≤ 999999980100) ∧ Γ' = [.dat (.list (ns.map .int)), .dat (.int far), .dat (.bool W), .dat (.int M), .val (.ref q), .val (.ref ba), .dat (.int h), .dat (.int st), .no, .no, .no, .no, .no, .no, .no, .no, .no, .no, .no, .no]) ?_ ?_))
  · refine wp_if (b := decide (1000000000000 - 1000 < far) && decide (cw ns 4 / 60 % 3 = 1)) (by k_clsL) (fun hc => ?_) fun hc => wp_next ⟨_, by omega, fun w => by have := hW w; omega, rfl⟩
    rw [Bool.and_eq_true, decide_eq_true_eq, decide_eq_true_eq] at hc
    exact wp_asg (d := .int (1000000000000 - 1 - cw ns 4 / 180 % 30)) (by k_clsL) ⟨_, by omega, fun w => by have := hW w; omega, rfl⟩
  rintro _ ⟨st, hst, hstW, rfl⟩
  dsimp only
  refine ww_seq (ww_cut (fun Γ' s' => ∃ b xs e13 e14, P0 C_Book s' b q xs ∧ b.a = ba ∧ xs.length = xs0.length ∧ (W = true → b.mt = [] ∧ b.given = 0 ∧ ∃ c, b.ps.map (·.name) = [nameOf sh c 0]) ∧ Γ' = [.dat (.list (ns.map .int)), .dat (.int far), .dat (.bool W), .dat (.int M), .val (.ref q), .val (.ref ba), .dat (.int h), .dat (.int st), .no, .no, .no, .no, .no, e13, e14, .no, .no, .no, .no, .no]) ?_ ?_)
  · refine ww_if (b := decide (cw ns 6 % 3 = 1) && !W) (by k_clsL) (fun hc => ?_) fun hc => ww_next ⟨b0, xs0, _, _, hP0, hba, rfl, hW0, rfl⟩
    have hWf : W = false := by
      cases W
      · rfl
      · simp at hc
    refine ww_seq (ww_pure (wp_asg (d := .int (1 + cw ns 6 / 3 % 3)) (by k_clsL) ?_))
    dsimp only [List.set_cons_succ, List.set_cons_zero]
    have hsz : 1 ≤ 1 + cw ns 6 / 3 % 3 ∧ 1 + cw ns 6 / 3 % 3 ≤ 48 := by omega
    generalize 1 + cw ns 6 / 3 % 3 = sz at *
    obtain ⟨us, z, hz⟩ : ∃ us z, xs0 = us ++ [z] := ⟨xs0.dropLast, xs0.getLast (fun e => by rw [e] at hlen0; simp at hlen0; omega), (List.dropLast_concat_getLast _).symm⟩
    have hzm : z ∈ xs0 := by rw [hz]; simp
    obtain ⟨p, hp1, hp2⟩ := hP0.co.pe z hzm
    have pn : p.name = z.name := congrArg One.name hp2
    have hro := hP0.pe.ro z hzm
    obtain ⟨zo1, zo2, zo3⟩ := hP0.ok z hzm
    refine ww_seq (ww_asg (ew_meth (ee_val (v := .ref b0.a) (by rw [hba]; rfl)) hP0.bk.ob (BkAt.nom (by decide +kernel)) (eae_cons (ee_dat (d := .list (NmsD [p])) (ev_to (EvF.ev (w_lst (ea_cons (er_name hro (hP0.pe.getL hz (ee_val rfl) (by k_clsL))) ea_nil) ⟨show 1 ≤ 100000 by decide⟩)) (by unfold NmsD; rw [List.map_cons, List.map_cons, pn]; rfl))) (eae_cons (ee_dat (ev_var rfl)) (eae_cons (ee_dat (ev_var rfl)) (eae_cons (ee_dat (v__law_in_time (ea_cons (ev_op (ev_var rfl) ev_int od_add_int) ea_nil) ⟨trivial⟩)) eae_nil)))) ⟨s3, b0, [p], sz, st, _, ⟨⟨hP0.bk, (fun z hz => by rw [List.mem_singleton] at hz; rw [hz]; exact hp1), by simp, by simp, by show 1 ≤ 900; decide⟩, ⟨hsz, hst.1, by split <;> omega, by split <;> omega, by split <;> omega⟩, by have := hP0.few; omega⟩, rfl, rfl, rfl⟩ (by rintro _ _ ⟨f, rs, hF, ⟨_, h⟩ | ⟨y, v, s2, _, h, _⟩⟩ <;> cases h)) ?_)
    rintro _ s4 ⟨f, rs, hF, hcase⟩
    rcases hcase with ⟨rfl, hzz⟩ | ⟨y, v, s4', rfl, hzz, hb1, hk1⟩
    · cases hzz
      dsimp only [List.set_cons_succ, List.set_cons_zero]
      refine ww_pure (wp_if (b := false) (et_test (ev_to (ev_isNot (ev_var rfl)) rfl)) (fun z => by cases z) fun _ => wp_next ?_)
      exact ⟨b0, xs0, _, _, hP0, hba, rfl, hW0, rfl⟩
    cases hzz
    dsimp only [List.set_cons_succ, List.set_cons_zero]
    refine ww_if (b := true) (et_test (ev_to (ev_isNot (ev_var rfl)) rfl)) (fun _ => ?_) (fun z => by cases z)
    have hab : b0.a ∈ b0.adr ∧ b0.bk ∈ b0.adr := by simp [Bk.adr]
    have hpe1 : PeAt s4 q xs0 := hP0.pe.keep hk1 (by
      intro c hc m
      simp at m
      rcases m with rfl | rfl
      · exact hP0.dis _ hab.1 hc
      · exact hP0.dis _ hab.2 hc)
    have hro1 := hpe1.ro z hzm
    refine ww_app (d := pairD (y, sz)) (ds := z.mt.map pairD) (er_mt hro1 (hpe1.getL hz (ee_val rfl) (by k_clsL))) hro1.m.c (by k_clsL) hro1.m.r (by rw [List.length_map]; omega) fun v' => ?_
    have kp : Keeps s4 (s4.put z.m (.lst (z.mv ++ [v'])) [(z.mv ++ [v'], z.mt.map pairD ++ [pairD (y, sz)])]) [z.m] := put_keeps
    have hzp : z.m ∈ peAdr q xs0 := mem_pe hzm (by simp [PRow.adr])
    have hpe2 := hpe1.appM (v := v') (y := (y, sz)) hzm
    have hkey : ∀ c ∈ peAdr q (putR z { z with mt := z.mt ++ [(y, sz)], mv := z.mv ++ [v'] } xs0), c ∈ peAdr q xs0 := fun c hc => by
      rw [key_adr (xs := xs0) (by refine key_put hP0.pe.nd2 hzm ?_; rfl)] at hc; exact hc
    have hmt1 : z.mt = [] := (hok0 z hzm).2.2.2.1
    refine ⟨b0.meet y sz ([p].map (·.name)) v, _, _, _, ⟨hb1.keep kp (fun c hc m => by simp at m; subst m; exact hP0.dis _ hc hzp), hpe2, hP0.co.row hP0.nn hzm rfl rfl (by show [p].map (·.name) = _; rw [List.map_cons, List.map_nil, pn]) rfl rfl rfl rfl rfl, fun c hc => ?_, by rw [putR_map _ hP0.pe.nd2 hzm (by rfl)]; exact hP0.nn, fun c hc m => hP0.dis c hc (hkey c m), ?_⟩, hba, by unfold putR; rw [List.length_map], (fun w => by rw [hWf] at w; cases w), rfl⟩
    · rcases putR_mem hc with rfl | ⟨hc, _⟩
      · exact ⟨⟨zo1.nm, zo1.nl, zo1.fr, zo1.bz⟩, zo2, by show (z.mt ++ [_]).length ≤ 1; rw [hmt1]; exact Nat.le_refl _⟩
      · exact hP0.ok c hc
    · show (b0.mt ++ [_]).length ≤ 1
      rw [hmt0]; exact Nat.le_refl _
  rintro _ s5 ⟨b1, xs1, e13, e14, hP1, hba1, hxl1, hW1, rfl⟩
  dsimp only
  refine ww_seq (ww_pure (wp_cut (fun Γ' => ∃ en : Int, (st ≤ en ∧ en ≤ st + 10000 ∧ en < 1000000000000) ∧ Γ' = [.dat (.list (ns.map .int)), .dat (.int far), .dat (.bool W), .dat (.int M), .val (.ref q), .val (.ref ba), .dat (.int h), .dat (.int st), .dat (.int en), .no, .no, .no, .no, e13, e14, .no, .no, .no, .no, .no]) ?_ ?_))
  · refine wp_asg (d := .int (if 999999999999 < st + cw ns 5 % 41 then 999999999999 else st + cw ns 5 % 41)) (v__law_in_time (ea_cons (by k_clsL) ea_nil) ⟨trivial⟩) ⟨_, ?_, rfl⟩
    split <;> omega
  rintro _ ⟨en, hen, rfl⟩
  dsimp only
  refine ww_seq (ww_cut (fun Γ' s' => ∃ b q xs h en e15 e17, P0 C_Book s' b q xs ∧ b.a = ba ∧ (1 ≤ xs.length ∧ xs.length ≤ 6) ∧ (W = true → Wide0 b xs) ∧ (1 ≤ h ∧ h ≤ 48) ∧ (st ≤ en ∧ en ≤ st + 10000 ∧ en < 1000000000000) ∧ Γ' = [.dat (.list (ns.map .int)), .dat (.int far), .dat (.bool W), .dat (.int M), .val (.ref q), .val (.ref ba), .dat (.int h), .dat (.int st), .dat (.int en), .no, .no, .no, .no, e13, e14, e15, .no, e17, .no, .no]) ?_ ?_)
  · refine ww_if (b := W) (by k_clsL) (fun hw => ?_) fun hw => ww_next ⟨b1, q, xs1, h, en, _, _, hP1, hba1, by omega, (fun w => by rw [hw] at w; cases w), hh0, hen, rfl⟩
    obtain ⟨hbm, hbg, cn, hbn⟩ := hW1 hw
    have hst2 := hstW hw
    refine ww_seq (ww_pure (wp_asg (d := .int (25 + cw ns 7 / 8 % 24)) (by k_clsL) ?_))
    dsimp only [List.set_cons_succ, List.set_cons_zero]
    refine ww_seq (ww_pure (wp_asg (d := .int (st + cw ns 5 % 10001)) (by k_clsL) ?_))
    dsimp only [List.set_cons_succ, List.set_cons_zero]
    have hh1 : 1 ≤ 25 + cw ns 7 / 8 % 24 ∧ 25 + cw ns 7 / 8 % 24 ≤ 48 := by omega
    have hen1 : st ≤ st + cw ns 5 % 10001 ∧ st + cw ns 5 % 10001 ≤ st + 10000 ∧ st + cw ns 5 % 10001 < 1000000000000 := by omega
    generalize 25 + cw ns 7 / 8 % 24 = h1 at *
    generalize st + cw ns 5 % 10001 = en1 at *
    refine ww_seq (ww_asg (N := fun e s2 => ∃ q, q ∉ s5.foot ∧ e = .val (.ref q) ∧ s2 = s5.add [(q, .lst [])] []) (ew_lstV (eaw_nil ⟨[], rfl, by decide, fun q hq => ⟨q, hq, rfl, rfl⟩⟩)) ?_)
    rintro _ _ ⟨q2, hq2, rfl, rfl⟩
    have kA : Keeps s5 (s5.add [(q2, .lst [])] []) [] := add_keeps
    have hbA : BkAt C_Book (s5.add [(q2, .lst [])] []) b1 := hP1.bk.keep kA (by simp)
    have hpeA : PeAt (s5.add [(q2, .lst [])] []) q2 [] := ⟨List.mem_cons_self, (fun x h => by cases h), by simp [peAdr]⟩
    have hdisA : ∀ a ∈ b1.adr, a ∉ peAdr q2 [] := fun a ha m => by simp [peAdr] at m; subst m; exact hq2 (hP1.bk.foot _ ha)
    generalize s5.add [(q2, .lst [])] [] = s6 at *
    dsimp only [List.set_cons_succ, List.set_cons_zero]
    refine ww_forn (xs := (List.range (1 + cw ns 1 % 6).toNat).map fun k : Nat => .int (0 + (k : Int))) (fun i Γ' s' => ∃ b ys e15 e17, BkAt C_Book s' b ∧ PeAt s' q2 ys ∧ ys.length = i ∧ ys.map PRow.name = (List.range i).map (fun k : Nat => zn (k : Int)) ∧ b.ps.map (·.name) = nameOf sh cn 0 :: ys.map PRow.name ∧ (∀ x ∈ ys, (∃ p ∈ b.ps, p.one = x.one) ∧ RowOk x ∧ x.fr = [.every (everyAt x) 1 1] ∧ x.mt = [] ∧ x.bz = []) ∧ (∀ a ∈ b.adr, a ∉ peAdr q2 ys) ∧ b.mt = [] ∧ b.given = 0 ∧ b.a = ba ∧ Γ' = [.dat (.list (ns.map .int)), .dat (.int far), .dat (.bool W), .dat (.int M), .val (.ref q2), .val (.ref ba), .dat (.int h1), .dat (.int st), .dat (.int en1), .no, .no, .no, .no, e13, e14, e15, .no, e17, .no, .no]) (w_rng1 ?_ ⟨by omega⟩ ⟨by omega⟩) ⟨b1, [], _, _, hbA, hpeA, rfl, rfl, by rw [hbn]; rfl, (fun x hx => by cases hx), hdisA, hbm, hbg, hba1, rfl⟩ ?_ ?_
    · k_clsL
    · rintro i d _ s' hd ⟨b, ys, e15, e17, hb, hpe, hyl, hyn, hbn, hall, hdis, hbm, hbg, hba, rfl⟩
      have hi := (List.getElem?_eq_some_iff.mp hd).1
      rw [List.length_map, List.length_range] at hi
      rw [List.getElem?_map, List.getElem?_range hi] at hd
      obtain rfl := Option.some.inj hd
      have hi6 : i < 6 := by omega
      dsimp only [List.set_cons_succ, List.set_cons_zero]
      refine ww_seq (ww_pure (wp_asg (d := toD (.every (st + cw ns (7 + 2 * (0 + (i : Int))) / 192 % 9000) 1 1)) (by k_clsL) ?_))
      dsimp only [List.set_cons_succ, List.set_cons_zero]
      have ht : 0 ≤ st + cw ns (7 + 2 * (0 + (i : Int))) / 192 % 9000 ∧ st + cw ns (7 + 2 * (0 + (i : Int))) / 192 % 9000 < 1000000000000 := by omega
      generalize st + cw ns (7 + 2 * (0 + (i : Int))) / 192 % 9000 = t at *
      have hG : GoodR (.every t 1 1) ∧ depth (.every t 1 1) < 8 := ⟨⟨⟨ht.1, ht.2⟩, ⟨by decide, by decide⟩, by decide, by decide⟩, by show 0 < 8; decide⟩
      have hat : atI (("uvwxyz" : Str)).cps.toList (0 + (i : Int)) = some (letN (20 + (i : Int))) := by rw [Int.zero_add]; exact zn_at ⟨i, hi6⟩
      have hzg := zn_good (k := (i : Int)) (by omega) (by omega)
      have hzl : (zn (i : Int)).length = 2 := zn_len _
      have hznb : zn (i : Int) ∉ b.ps.map (·.name) := by
        rw [hbn, hyn]
        intro m
        rcases List.mem_cons.mp m with e | m
        · exact zn_not (sh := sh) (c := cn) (by omega) (by omega) e.symm
        · obtain ⟨k, hk, e⟩ := List.mem_map.mp m
          have hk := List.mem_range.mp hk
          have := zn_inj (by omega) (by omega) (by omega) (by omega) e
          omega
      refine ww_seq (ww_appV (ee_val rfl) hpe.li (by rw [refs_len]; omega) (ew_lstV (eaw_cons (ew_ee (ee_str (x := zn (i : Int)) (ev_to (ev_op (x := .str "z") ev_str (ev_op ev_str (ev_var rfl) (oq_ix_str ⟨by decide +kernel⟩ ⟨hat⟩)) (oq_add_str ⟨by show 1 + 1 ≤ 100000; decide⟩)) (by rw [zn_eq]))) (eaw_cons ((ew_cell (ds := [Rule.every t 1 1].map toD) (w_lst (ea_cons (ev_var rfl) ea_nil) ⟨show 1 ≤ 100000 by decide⟩)).mono ?_))))))
      rintro _ _ ⟨pf, fv, hpf2, rfl, rfl⟩
      refine eaw_cons ((ew_cell (ds := ([] : List Rule).map toD) (w_lst (ds := []) ea_nil ⟨by decide⟩)).mono ?_)
      rintro _ _ ⟨pt, tv, hpt, rfl, rfl⟩
      refine eaw_cons ((ew_cell (ds := []) (w_lst (ds := []) ea_nil ⟨by decide⟩)).mono ?_)
      rintro _ _ ⟨m, mv, hm, rfl, rfl⟩
      refine eaw_nil ⟨[.str (zn (i : Int)), .ref pf, .ref pt, .ref m], rfl, (show 4 ≤ 100000 by decide), fun r hr => ⟨.ref r, rfl, ?_, ?_⟩⟩
      · exact List.mem_cons_of_mem _ (List.mem_cons_of_mem _ (List.mem_cons_of_mem _ (List.mem_cons_of_mem _ hpe.li)))
      obtain ⟨hpe2, hk2, hnf⟩ := hpe.row (n := zn (i : Int)) (fr := [.every t 1 1]) (bz := []) (mv := mv) hpf2 hpt hm hr
      generalize ((((s'.add [(pf, .lst fv)] [(fv, [Rule.every t 1 1].map toD)]).add [(pt, .lst tv)] [(tv, ([] : List Rule).map toD)]).add [(m, .lst mv)] [(mv, [])]).add [(r, .lst [.str (zn (i : Int)), .ref pf, .ref pt, .ref m])] []).put q2 (.lst (refsR ys ++ [.ref r])) [] = s8 at *
      obtain ⟨z, hz⟩ : ∃ z : PRow, z = ⟨zn (i : Int), [.every t 1 1], [], [], r, pf, pt, m, fv, tv, mv⟩ := ⟨_, rfl⟩
      have z1 : z.name = zn (i : Int) := by rw [hz]
      have z2 : z.fr = [.every t 1 1] := by rw [hz]
      have z3 : z.bz = [] := by rw [hz]
      have z4 : z.mt = [] := by rw [hz]
      have z5 : ∀ a ∈ z.adr, a ∉ s'.foot := by
        rw [hz]
        intro a ha
        simp only [PRow.adr, List.mem_cons, List.not_mem_nil, or_false] at ha
        rcases ha with rfl | rfl | rfl | rfl
        · exact hnf.2.2.2
        · exact hnf.1
        · exact hnf.2.1
        · exact hnf.2.2.1
      rw [← hz] at hpe2
      clear hz hpf2 hpt hm hr hnf
      have hqb : q2 ∉ b.adr := fun z => hdis q2 z List.mem_cons_self
      have hb2 : BkAt C_Book s8 b := hb.keep hk2 (fun x hx z => by simp at z; subst z; exact hqb hx)
      have hzm : z ∈ ys ++ [z] := by simp
      have hrz := hpe2.ro z hzm
      have hrok : RuOk [.every t 1 1] := ⟨by show 1 ≤ 20; decide, fun r hr => by rw [List.mem_singleton] at hr; subst hr; exact hG⟩
      have hpl : b.ps.length = 1 + ys.length := by have := congrArg List.length hbn; rw [List.length_map, List.length_cons, List.length_map] at this; omega
      dsimp only
      refine ww_drop (ew_meth (ee_val (v := .ref b.a) (by rw [hba]; rfl)) hb2.ob (BkAt.nom (by decide +kernel)) (eae_cons (ee_dat (d := .str (zn (i : Int))) (by rw [← z1]; exact er_name hrz (hpe2.getL rfl (ee_val rfl) (by k_clsL)))) (eae_cons (ee_dat (d := .list ([Rule.every t 1 1].map toD)) (EvF.ev (w_lst (ea_cons (ev_var rfl) ea_nil) ⟨show 1 ≤ 100000 by decide⟩))) eae_nil)) ⟨s8, b, zn (i : Int), .dat (.list ([Rule.every t 1 1].map toD)), [.every t 1 1], ⟨hb2, hzg, by omega, hznb, hrok, .inl rfl, by omega⟩, rfl, rfl, rfl⟩ (by rintro _ _ ⟨s2, p, h, _⟩; cases h)) ?_
      rintro _ s9 ⟨s9', pz, hz, p1, p2, p3, hb3, hk3, hf3⟩
      cases hz
      have hkd : b.kd ∈ b.adr := by simp [Bk.adr]
      have eadr : (b.come pz).adr = b.adr ++ pz.adr := by
        unfold Bk.adr Bk.come
        rw [List.flatMap_append]; simp
      have hpa : ∀ a ∈ peAdr q2 (ys ++ [z]), a ∈ peAdr q2 ys ∨ a ∈ z.adr := fun a ha => by
        unfold peAdr at ha ⊢
        rw [List.flatMap_append] at ha
        rcases List.mem_cons.mp ha with rfl | ha
        · exact .inl List.mem_cons_self
        · rcases List.mem_append.mp ha with ha | ha
          · exact .inl (List.mem_cons_of_mem _ ha)
          · exact .inr (by simpa using ha)
      have hdis2 : ∀ a ∈ b.adr, a ∉ peAdr q2 (ys ++ [z]) := fun a ha m => by
        rcases hpa a m with m | m
        · exact hdis a ha m
        · exact z5 a m (hb.foot a ha)
      have hone : pz.one = z.one := by
        unfold Pers.one PRow.one
        rw [p1, p2, p3, z1, z2, z3]
      refine ⟨b.come pz, ys ++ [z], _, _, hb3, hpe2.keep hk3 (fun a ha m => by simp at m; subst m; exact hdis2 _ hkd ha), by rw [List.length_append, hyl]; rfl, ?_, ?_, fun x hx => ?_, fun a ha m => ?_, hbm, hbg, hba, rfl⟩
      · rw [List.map_append, hyn, List.range_succ, List.map_append, List.map_cons, List.map_nil, z1]; rfl
      · show (b.ps ++ [pz]).map (·.name) = _
        rw [List.map_append, hbn, List.map_append, List.map_cons, List.map_nil, List.map_cons, List.map_nil, p1, z1]; rfl
      · rcases List.mem_append.mp hx with hx | hx
        · obtain ⟨⟨p, g1, g2⟩, g3⟩ := hall x hx
          exact ⟨⟨p, List.mem_append_left _ g1, g2⟩, g3⟩
        · rw [List.mem_singleton] at hx; subst hx
          refine ⟨⟨pz, by show pz ∈ b.ps ++ [pz]; simp, hone⟩, ⟨by rw [z1]; exact hzg, by rw [z1, hzl]; decide, by rw [z2]; exact hrok, by rw [z3]; exact ⟨by decide, fun r hr => by cases hr⟩⟩, ?_, z4, z3⟩
          unfold everyAt
          rw [z2]
      · rw [eadr] at ha
        rcases List.mem_append.mp ha with ha | ha
        · exact hdis2 a ha m
        · exact hf3 a ha (hpe2.foot a m)
    · rintro _ s' ⟨b, ys, e15, e17, hb, hpe, hyl, hyn, hbn, hall, hdis, hbm, hbg, hba, rfl⟩
      rw [List.length_map, List.length_range] at hyl hyn
      refine ⟨b, q2, ys, h1, en1, _, _, ⟨hb, hpe, ⟨fun x hx => (hall x hx).1, fun x hx => by rw [(hall x hx).2.2.2.1, hbm]; rfl, (fun m hm => by rw [hbm] at hm; cases hm), by rw [hbg]; decide⟩, fun x hx => ⟨(hall x hx).2.1, by rw [(hall x hx).2.2.2.2]; decide, by rw [(hall x hx).2.2.2.1]; decide⟩, ?_, hdis, by rw [hbm]; decide⟩, hba, by omega, fun _ => ⟨hbm, hbg, fun x hx => ⟨(hall x hx).2.2.1, (hall x hx).2.2.2.1, (hall x hx).2.2.2.2⟩⟩, hh1, hen1, rfl⟩
      rw [hyn]
      show List.Pairwise _ _
      rw [List.pairwise_map]
      refine List.Pairwise.imp_of_mem ?_ (List.nodup_range (n := (1 + cw ns 1 % 6).toNat))
      intro a b ha hb hne e
      have ha := List.mem_range.mp ha
      have hb := List.mem_range.mp hb
      have := zn_inj (by omega) (by omega) (by omega) (by omega) e
      omega
  clear hP0 hP1 hW0 hW1 hen hh0 hba1 hxl1 hok0 hcs hnd0 hlen0 hmt0
  rintro _ s7 ⟨b, q, xs, h, en, e15, e17, hP, hba, hxl, hWd, hh, hen, rfl⟩
  dsimp only
  have hpos : 0 < (xs.length : Int) := by omega
  have hm1 := Int.emod_nonneg (cw ns 2) (show (xs.length : Int) ≠ 0 by omega)
  have hm2 := Int.emod_lt_of_pos (cw ns 2) hpos
  have hcut : cutV (refsR xs) (some (cw ns 2 % (xs.length : Int))) none = refsR (xs.drop (cw ns 2 % (xs.length : Int)).toNat) := cutV_drop hm1 (by omega)
  refine ww_seq (ww_asg (N := fun e s2 => ∃ qv, qv ∉ s7.foot ∧ e = .val (.ref qv) ∧ s2 = s7.add [(qv, .lst (refsR (xs.drop (cw ns 2 % (xs.length : Int)).toNat)))] []) (ew_newV (ws := refsR (xs.drop (cw ns 2 % (xs.length : Int)).toNat)) (by
    rw [← hcut]
    exact efv_slice (ee_val rfl) hP.pe.li (eo_some (w_mod (by k_clsL) (ev_to (ed_clen (ee_val rfl) hP.pe.li) (by rw [refs_len])) ⟨hpos⟩)) eo_none) fun qv h1 => ⟨qv, h1, rfl, rfl⟩) ?_)
  rintro _ _ ⟨qv0, hqv0, rfl, rfl⟩
  dsimp only [List.set_cons_succ, List.set_cons_zero]
  have v1 : ∀ v ∈ xs.drop (cw ns 2 % (xs.length : Int)).toNat, v ∈ xs := fun v hv => List.mem_of_mem_drop hv
  have v2 : 1 ≤ (xs.drop (cw ns 2 % (xs.length : Int)).toNat).length ∧ (xs.drop (cw ns 2 % (xs.length : Int)).toNat).length ≤ 6 := by rw [List.length_drop]; omega
  have v3 : ((xs.drop (cw ns 2 % (xs.length : Int)).toNat).map PRow.name).Nodup := List.Nodup.sublist ((List.drop_sublist _ _).map _) hP.nn
  generalize xs.drop (cw ns 2 % (xs.length : Int)).toNat = vs0 at *
  have v4 : (qv0, HO.lst (refsR vs0)) ∈ (s7.add [(qv0, .lst (refsR vs0))] []).cells := List.mem_cons_self
  have hP8 : P0 C_Book (s7.add [(qv0, .lst (refsR vs0))] []) b q xs := hP.keep add_keeps
  have v5 : qv0 ∉ b.adr ∧ qv0 ∉ peAdr q xs := ⟨fun z => hqv0 (hP.bk.foot _ z), fun z => hqv0 (hP.pe.foot _ z)⟩
  clear hP hqv0
  generalize s7.add [(qv0, .lst (refsR vs0))] [] = s8 at *
  refine ww_seq (ww_cut (fun Γ' s' => ∃ qv vs, P0 C_Book s' b q xs ∧ (qv, HO.lst (refsR vs)) ∈ s'.cells ∧ (∀ v ∈ vs, v ∈ xs) ∧ (1 ≤ vs.length ∧ vs.length ≤ 6) ∧ (vs.map PRow.name).Nodup ∧ (qv ∉ b.adr ∧ qv ∉ peAdr q xs) ∧ Γ' = [.dat (.list (ns.map .int)), .dat (.int far), .dat (.bool W), .dat (.int M), .val (.ref q), .val (.ref ba), .dat (.int h), .dat (.int st), .dat (.int en), .val (.ref qv), .no, .no, .no, e13, e14, e15, .no, e17, .no, .no]) ?_ ?_)
  · refine ww_if (b := decide (cw ns 2 / 3 % 2 = 1)) (by k_clsL) (fun _ => ?_) fun _ => ww_next ⟨qv0, vs0, hP8, v4, v1, v2, v3, v5, rfl⟩
    have hrev : refsR vs0.reverse = (refsR vs0).reverse := by unfold refsR; rw [List.map_reverse]
    refine ww_asg (N := fun e s2 => ∃ qv, qv ∉ s8.foot ∧ e = .val (.ref qv) ∧ s2 = s8.add [(qv, .lst (refsR vs0.reverse))] []) (ew_newV (ws := refsR vs0.reverse) (by rw [hrev]; exact efv_rev (ee_val rfl) v4) fun qv h1 => ⟨qv, h1, rfl, rfl⟩) ?_
    rintro _ _ ⟨qv2, hqv2, rfl, rfl⟩
    exact ⟨qv2, vs0.reverse, hP8.keep add_keeps, List.mem_cons_self, fun v hv => v1 v (List.mem_reverse.mp hv), by rw [List.length_reverse]; exact v2, by rw [List.map_reverse]; exact (List.reverse_perm _).nodup_iff.mpr v3, ⟨fun z => hqv2 (hP8.bk.foot _ z), fun z => hqv2 (hP8.pe.foot _ z)⟩, rfl⟩
  clear hP8 v1 v2 v3 v4 v5 hcut
  rintro _ s9 ⟨qv, vs, hP, v4, v1, v2, v3, v5, rfl⟩
  dsimp only
  refine ww_seq (ww_asg (N := fun e s2 => ∃ a l lv, l ∉ s9.foot ∧ a ∉ (s9.add [(l, .lst lv)] [(lv, [])]).foot ∧ e = .val (.ref a) ∧ s2 = (s9.add [(l, .lst lv)] [(lv, [])]).add [(a, .lst [.int h, .int st, .int en, .ref l])] []) (ew_lstV (eaw_cons (ew_ee (ee_int (ev_var rfl)) (eaw_cons (ew_ee (ee_int (ev_var rfl)) (eaw_cons (ew_ee (ee_int (ev_var rfl)) (eaw_cons ((ew_cell (ds := []) (w_lst (ds := []) ea_nil ⟨by decide⟩)).mono (by
    rintro _ _ ⟨l, lv, hl, rfl, rfl⟩
    exact eaw_nil ⟨[.int h, .int st, .int en, .ref l], rfl, (show 4 ≤ 100000 by decide), fun a ha => ⟨a, l, lv, hl, ha, rfl, rfl⟩⟩)))))))))) ?_)
  rintro _ _ ⟨a, l, lv, hl, ha, rfl, rfl⟩
  dsimp only [List.set_cons_succ, List.set_cons_zero]
  have ha2 : a ≠ l ∧ a ∉ s9.foot := by
    have : a ∉ l :: s9.foot := ha
    simpa using this
  have fqv : qv ∈ s9.foot := in_foot v4
  have kB : Keeps s9 ((s9.add [(l, .lst lv)] [(lv, [])]).add [(a, .lst [.int h, .int st, .int en, .ref l])] []) [] := add_keeps.trans add_keeps
  have hPB := hP.keep kB
  have w0 : Wd C_Book ((s9.add [(l, .lst lv)] [(lv, [])]).add [(a, .lst [.int h, .int st, .int en, .ref l])] []) b q xs qv vs a l h st en lv [] := by
    refine ⟨hPB.bk, hPB.pe, fun x hx => (hP.ok x hx).1, hP.nn, kB.cell _ v4 (by simp), v1, by omega, v3, List.mem_cons_self, ⟨by simp [US.add], by simp [US.add]⟩, (fun d hd => by cases hd), hh, ⟨hst.1, hen.1, hen.2.2, hen.2.1⟩, fun c hc => ⟨hP.dis c hc, fun e => v5.1 (e ▸ hc), fun e => ha2.2 (e ▸ hP.bk.foot _ hc), fun e => hl (e ▸ hP.bk.foot _ hc)⟩, fun c hc => ⟨fun e => v5.2 (e ▸ hc), fun e => ha2.2 (e ▸ hP.pe.foot _ hc), fun e => hl (e ▸ hP.pe.foot _ hc)⟩, fun e => hl (e ▸ fqv), ha2.1, fun e => ha2.2 (e ▸ fqv)⟩
  have hco := hP.co
  have hok := hP.ok
  have hfew := hP.few
  clear hP hPB kB ha2 fqv v4 v5 hl ha
  generalize (s9.add [(l, .lst lv)] [(lv, [])]).add [(a, .lst [.int h, .int st, .int en, .ref l])] [] = s10 at *
  rw [← hba]
  refine ww_seq (ww_asg (ew_call (eae_cons (ee_val (v := .ref b.a) rfl) (eae_cons (ee_val (v := .ref qv) rfl) (eae_cons (ee_val (v := .ref a) rfl) eae_nil))) ⟨s10, b, q, qv, a, l, xs, vs, h, st, en, lv, [], ⟨w0, hco, fun x hx => by have := (hok x hx).2.2; omega, by decide⟩, rfl, rfl, rfl⟩ (by rintro _ _ ⟨_, _, _, h, _⟩; cases h)) ?_)
  rintro _ s11 ⟨s11', lv1, k1, hz, w1, _, hk1⟩
  cases hz
  dsimp only [List.set_cons_succ, List.set_cons_zero]
  have hk1 : k1.length ≤ 1 := hk1
  obtain ⟨f1', f2', f3'⟩ := firstL_shaped vs h st en
  refine ww_seq (ww_cut (fun Γ' s' => ∃ b2 lv kept, Wd C_Book s' b2 q xs qv vs a l h st en lv kept ∧ Cor b2 xs ∧ b2.a = b.a ∧ b2.mt.length ≤ 1 ∧ (W = true → Wide0 b2 xs) ∧ kept.length ≤ 10 ∧ Γ' = [.dat (.list (ns.map .int)), .dat (.int far), .dat (.bool W), .dat (.int M), .val (.ref q), .val (.ref b.a), .dat (.int h), .dat (.int st), .dat (.int en), .val (.ref qv), .val (.ref a), .dat (firstL vs h st en), .no, e13, e14, e15, .no, e17, .no, .no]) ?_ ?_)
  · refine ww_ifW (etw_or (etw_pure (b := false) (et_to (et_test (ev_op (ev_var rfl) (by k_clsL) (oq_eq_any ⟨f1'⟩ ⟨rfl⟩))) (f3' hst.1)) ⟨(fun z => by cases z), fun _ => ?_⟩))
    rcases Bool.eq_false_or_eq_true W with hw | hw
    · exact etw_and (etw_pure (b := false) (et_to (et_not (et_test (ev_var rfl))) (by rw [hw]; rfl)) ⟨(fun z => by cases z), fun _ => ⟨(fun z => by cases z), fun _ => ww_next ⟨b, lv1, k1, w1, hco, rfl, hfew, hWd, by omega, rfl⟩⟩⟩)
    · refine etw_and (etw_pure (b := true) (et_to (et_not (et_test (ev_var rfl))) (by rw [hw]; rfl)) ⟨fun _ => etw_not (etw_test ((ew_call (eae_cons (ee_dat (ev_var rfl)) (eae_cons (ee_val (v := .ref b.a) rfl) (eae_cons (ee_val (v := .ref qv) rfl) (eae_cons (ee_dat (ev_var rfl)) (eae_cons (ee_val (v := .ref a) rfl) eae_nil))))) ⟨s11, b, q, qv, a, l, xs, vs, h, st, en, lv1, k1, ns, ⟨w1, hco, fun x hx => by have := (hok x hx).2.2; omega, by omega, hp, by omega⟩, rfl, rfl, rfl⟩ (by rintro _ _ ⟨_, _, _, _, h, _⟩; cases h)).mono ?_)), (fun z => by cases z)⟩)
      rintro e s12 ⟨s12', b2, lv2, k2, hz, w2, co2, g1, g2, g3, g4⟩
      cases hz
      exact ⟨true, rfl, (fun z => by cases z), fun _ => ww_next ⟨b2, lv2, k2, w2, co2, g1, by rw [g2]; exact hfew, (fun w => by rw [hw] at w; cases w), by omega, rfl⟩⟩
  clear w0 w1
  rintro _ s13 ⟨b2, lv2, k2, w2, co2, hba2, hfew2, hWd2, hk2, rfl⟩
  rw [← hba2]
  dsimp only
  refine ww_seq (ww_cut (fun Γ' s' => ∃ b3 xs3 vs3 lv kept e16, Wd C_Book s' b3 q xs3 qv vs3 a l h st en lv kept ∧ Cor b3 xs3 ∧ b3.a = b2.a ∧ (W = true → (b3.mt = [] ∧ b3.given = 0) ∧ ∃ us x T, WideOk vs3 us x T st ∧ T.length ≤ 5) ∧ kept.length ≤ 20 ∧ Γ' = [.dat (.list (ns.map .int)), .dat (.int far), .dat (.bool W), .dat (.int M), .val (.ref q), .val (.ref b2.a), .dat (.int h), .dat (.int st), .dat (.int en), .val (.ref qv), .val (.ref a), .dat (firstL vs3 h st en), .no, e13, e14, e15, e16, e17, .no, .no]) ?_ ?_)
  · refine ww_if (b := decide (cw ns 8 % 2 = 1)) (by k_clsL) (fun _ => ?_) fun _ => ww_next ⟨b2, xs, vs, lv2, k2, _, w2, co2, rfl, fun w => ⟨⟨(hWd2 w).bm, (hWd2 w).bg⟩, (hWd2 w).ok v1 v2.1 st |>.elim fun us z => z.elim fun x z => ⟨us, x, [], z, by decide⟩⟩, by omega, rfl⟩
    refine ww_seq (ww_pure (wp_asg (d := .int (if 999999999999 < st + cw ns 8 / 2 % 12 then 999999999999 else st + cw ns 8 / 2 % 12)) (v__law_in_time (ea_cons (by k_clsL) ea_nil) ⟨trivial⟩) ?_))
    obtain ⟨at2, hat2⟩ : ∃ at2, at2 = (if 999999999999 < st + cw ns 8 / 2 % 12 then 999999999999 else st + cw ns 8 / 2 % 12) := ⟨_, rfl⟩
    have hb2 : 0 ≤ at2 ∧ at2 < 1000000000000 ∧ at2 < st + 2000 := by rw [hat2]; split <;> omega
    rw [← hat2]
    clear hat2
    dsimp only [List.set_cons_succ, List.set_cons_zero]
    obtain ⟨us, x, hvs⟩ : ∃ us x, vs = us ++ [x] := ⟨vs.dropLast, vs.getLast (fun e => by have := v2.1; rw [e] at this; simp at this), (List.dropLast_concat_getLast _).symm⟩
    have hxv : x ∈ vs := by rw [hvs]; simp
    have hx : x ∈ xs := v1 x hxv
    have hkind := firstL_kind vs hh.1 hst.1 hen.2.2
    refine ww_seq (ww_drop (ew_call (eae_cons (ee_val (v := .ref b2.a) rfl) (eae_cons (ee_cix (v := .ref x.r) (ee_val rfl) w2.vw (by k_clsL) (by rw [hvs]; unfold refsR; rw [List.map_append]; exact atI_neg1 _ _)) (eae_cons (ee_dat (d := .list [firstL vs h st en, .int at2]) (EvF.ev (w_lst (ea_cons (ev_var rfl) (ea_cons (ev_var rfl) ea_nil)) ⟨show 2 ≤ 100000 by decide⟩))) eae_nil))) ⟨s13, b2, q, qv, a, l, xs, vs, h, st, en, lv2, k2, x, firstL vs h st en, at2, ⟨w2, co2, ⟨hx, by have := (hok x hx).2.1; omega, by have := (hok x hx).2.2; omega⟩, hkind, hb2.1, hb2.2.1⟩, rfl, rfl, rfl⟩ (by rintro _ _ ⟨_, _, _, h, _⟩; cases h)) ?_)
    rintro _ s14 ⟨s14', b3, y, hz, w3, co3, g1, g2, g3, yr, yn, yf, ym, yb, ya, g4⟩
    cases hz
    dsimp only
    refine ww_asg (ew_call (eae_cons (ee_val (v := .ref b3.a) (by rw [g1]; rfl)) (eae_cons (ee_val (v := .ref qv) rfl) (eae_cons (ee_val (v := .ref a) rfl) eae_nil))) ⟨s14, b3, q, qv, a, l, putR x y xs, putR x y vs, h, st, en, lv2, k2, ⟨w3, co3, fun c hc => ?_, by omega⟩, rfl, rfl, rfl⟩ (by rintro _ _ ⟨_, _, _, h, _⟩; cases h)) ?_
    · rcases putR_mem hc with rfl | ⟨hc, _⟩
      · rw [ym]; have := (hok x hx).2.2; omega
      · have := (hok c hc).2.2; omega
    rintro _ s15 ⟨s15', lv4, k4, hz, w4, _, hk4⟩
    cases hz
    refine ⟨b3, putR x y xs, putR x y vs, lv4, k4, _, w4, co3, g1, fun w => ⟨⟨by rw [g2]; exact (hWd2 w).bm, by rw [g3]; exact (hWd2 w).bg⟩, ?_⟩, by omega, rfl⟩
    have hW2 := hWd2 w
    have hfk : firstL vs h st en = .none ∨ ∃ y, firstL vs h st en = .int y := hkind.imp id fun ⟨y, z, _⟩ => ⟨y, z⟩
    have hwo : WideOk vs us x [] st := ⟨fun v h => ⟨(hW2.fr v (v1 v h)).1, (hW2.fr v (v1 v h)).2.1⟩, hvs, fun v h => (hW2.fr v (v1 v (by rw [hvs]; exact List.mem_append_left _ h))).2.2, (hW2.fr x hx).2.2, .inl rfl⟩
    obtain ⟨us2, T2, hw1, hw2⟩ := hwo.busy w2.pe v1 v3 hfk hb2.2.2 yr yf ym yb
    exact ⟨us2, y, T2, hw1, hw2⟩
  clear w2 hok co2 hWd2 hWd hk2 hfew2 v1 v2 v3 f1' f2' f3'
  rintro _ s16 ⟨b3, xs3, vs3, lv3, k3, e16, w3, co3, hba3, hWd3, hk3l, rfl⟩
  rw [← hba3]
  obtain ⟨f1', f2', f3'⟩ := firstL_shaped vs3 h st en
  dsimp only
  refine ww_seq (ww_pure (wp_if (b := false) (et_to (et_test (ev_op (ev_var rfl) (by k_clsL) (oq_eq_any ⟨f1'⟩ ⟨rfl⟩))) (f3' hst.1)) (fun z => by cases z) fun _ => wp_next ?_))
  dsimp only
  refine ww_seq (ww_asg (N := fun e s2 => e = .dat (.bool true) ∧ Keeps s16 s2 b3.adr) (ew_orV (ew_ee (ee_dat (d := .bool (!W)) (ev_notV (ev_var rfl))) ⟨!W, rfl, fun _ => ⟨rfl, Keeps.refl⟩, fun hw => ?_⟩)) ?_)
  · have hw : W = true := by simpa using hw
    obtain ⟨⟨hbm, hbg⟩, us, x, T, hwo, hTl⟩ := hWd3 hw
    refine (ew_call (eae_cons (ee_val (v := .ref b3.a) rfl) (eae_cons (ee_val (v := .ref qv) rfl) (eae_cons (ee_dat (ev_var rfl)) (eae_cons (ee_dat (ev_var rfl)) (eae_cons (ee_dat (d := .tuple [.int st, .int en]) (ev_tup (ea_cons (ev_var rfl) (ea_cons (ev_var rfl) ea_nil)) (show 2 ≤ 100000 by decide))) eae_nil))))) ⟨s16, b3, q, qv, a, l, xs3, vs3, h, st, en, lv3, k3, us, x, T, ⟨w3, co3, hwo, ⟨hbm, hbg⟩, by have := hstW hw; omega, hTl⟩, rfl, rfl, rfl⟩ (by rintro _ _ ⟨_, h, _⟩; cases h)).mono ?_
    rintro e s17 ⟨s17', hz, hk⟩
    cases hz
    exact ⟨rfl, hk⟩
  rintro _ s17 ⟨rfl, hk17⟩
  have ca := hk17.cell _ w3.ca (fun m => (w3.d1 _ m).2.2.1 rfl)
  have cl := w3.cl.keep hk17 (fun m => (w3.d1 _ m).2.2.2 rfl)
  obtain ⟨rs, hrs, hrp⟩ := kept_all w3.kk
  dsimp only [List.set_cons_succ, List.set_cons_zero]
  rw [hrs] at cl
  have hrl : rs.length ≤ 50000 := by have := congrArg List.length hrs; rw [List.length_map] at this; omega
  refine ww_pure (wp_ret (d := .bool true) (ev_to (ev_andV (ev_var rfl) fun _ => ev_to (ev_cb (ea_cons (EvF.ev (w_lc2 (zs := rs) (c1 := fun r => r) (c2 := fun r => .str (PyData.shown r)) (h := fun r => .bool (decide (PyData.shown r = PyData.shown r))) (it_cell (ee_cix (v := .ref l) (ee_val rfl) ca ev_int (by rfl)) cl.ls) ⟨hrl⟩ ⟨by decide⟩ ⟨by decide⟩ fun r hr => ?_)) ea_nil) (cq_all ⟨fun d hd => ?_⟩)) rfl) ?_) rfl)
  · obtain ⟨g1, g2, g3, g4⟩ := hrp r hr
    exact ev_op (ev_cb (ea_cons (ev_var rfl) ea_nil) (cq_repr ⟨g1⟩ ⟨g2⟩ ⟨g3⟩ ⟨g4⟩)) (ev_var rfl) od_eq_str
  · obtain ⟨r, _, rfl⟩ := List.mem_map.mp hd
    exact ⟨_, rfl⟩
  · have : ((rs.map fun r => PyData.bool (decide (PyData.shown r = PyData.shown r))).all boD) = true := by
      rw [List.all_map]
      exact List.all_eq_true.mpr fun r _ => by simp [boD]
    rw [this]; rfl
end
theorem all_mk {l : PySem.W.OpenLaw} {w : World} {K : PySem.W.Frag} {h : Heap} {mg : Str → Option Value} {fa : Addr} (X : K.In h) (G : h.Ns mainGlobals mg) (hfa : mg "law" = some (.ref fa))
    {C_Book : Addr}
    {f0 : Addr} {od0 an0 : Option Addr} {sl0 : Array (Option Value)} {oc0 kV0 dc0 pm0 cd0 ct0 : Value}
    {f1 : Addr} {od1 an1 : Option Addr} {sl1 : Array (Option Value)} {oc1 kV1 dc1 pm1 cd1 ct1 : Value}
    {f2 : Addr} {od2 an2 : Option Addr} {sl2 : Array (Option Value)} {oc2 kV2 dc2 pm2 cd2 ct2 : Value}
    {f3 : Addr} {od3 an3 : Option Addr} {sl3 : Array (Option Value)} {oc3 kV3 dc3 pm3 cd3 ct3 : Value}
    {f4 : Addr} {od4 an4 : Option Addr} {sl4 : Array (Option Value)} {oc4 kV4 dc4 pm4 cd4 ct4 : Value}
    {f5 : Addr} {od5 an5 : Option Addr} {sl5 : Array (Option Value)} {oc5 kV5 dc5 pm5 cd5 ct5 : Value}
    {f6 : Addr} {od6 an6 : Option Addr} {sl6 : Array (Option Value)} {oc6 kV6 dc6 pm6 cd6 ct6 : Value}
    {f7 : Addr} {od7 an7 : Option Addr} {sl7 : Array (Option Value)} {oc7 kV7 dc7 pm7 cd7 ct7 : Value}
    {f8 : Addr} {od8 an8 : Option Addr} {sl8 : Array (Option Value)} {oc8 kV8 dc8 pm8 cd8 ct8 : Value}
    {f9 : Addr} {od9 an9 : Option Addr} {sl9 : Array (Option Value)} {oc9 kV9 dc9 pm9 cd9 ct9 : Value}
    {f10 : Addr} {od10 an10 : Option Addr} {sl10 : Array (Option Value)} {oc10 kV10 dc10 pm10 cd10 ct10 : Value}
    {f11 : Addr} {od11 an11 : Option Addr} {sl11 : Array (Option Value)} {oc11 kV11 dc11 pm11 cd11 ct11 : Value}
    {f12 : Addr} {od12 an12 : Option Addr} {sl12 : Array (Option Value)} {oc12 kV12 dc12 pm12 cd12 ct12 : Value}
    {f13 : Addr} {od13 an13 : Option Addr} {sl13 : Array (Option Value)} {oc13 kV13 dc13 pm13 cd13 ct13 : Value}
    {f14 : Addr} {od14 an14 : Option Addr} {sl14 : Array (Option Value)} {oc14 kV14 dc14 pm14 cd14 ct14 : Value}
    {f15 : Addr} {od15 an15 : Option Addr} {sl15 : Array (Option Value)} {oc15 kV15 dc15 pm15 cd15 ct15 : Value}
    {f16 : Addr} {od16 an16 : Option Addr} {sl16 : Array (Option Value)} {oc16 kV16 dc16 pm16 cd16 ct16 : Value}
    {f17 : Addr} {od17 an17 : Option Addr} {sl17 : Array (Option Value)} {oc17 kV17 dc17 pm17 cd17 ct17 : Value}
    {f18 : Addr} {od18 an18 : Option Addr} {sl18 : Array (Option Value)} {oc18 kV18 dc18 pm18 cd18 ct18 : Value}
    {f19 : Addr} {od19 an19 : Option Addr} {sl19 : Array (Option Value)} {oc19 kV19 dc19 pm19 cd19 ct19 : Value}
    {f20 : Addr} {od20 an20 : Option Addr} {sl20 : Array (Option Value)} {oc20 kV20 dc20 pm20 cd20 ct20 : Value}
    {f21 : Addr} {od21 an21 : Option Addr} {sl21 : Array (Option Value)} {oc21 kV21 dc21 pm21 cd21 ct21 : Value}
    {f22 : Addr} {od22 an22 : Option Addr} {sl22 : Array (Option Value)} {oc22 kV22 dc22 pm22 cd22 ct22 : Value}
    {f23 : Addr} {od23 an23 : Option Addr} {sl23 : Array (Option Value)} {oc23 kV23 dc23 pm23 cd23 ct23 : Value}
    {f24 : Addr} {od24 an24 : Option Addr} {sl24 : Array (Option Value)} {oc24 kV24 dc24 pm24 cd24 ct24 : Value}
    {f25 : Addr} {od25 an25 : Option Addr} {sl25 : Array (Option Value)} {oc25 kV25 dc25 pm25 cd25 ct25 : Value}
    {f26 : Addr} {od26 an26 : Option Addr} {sl26 : Array (Option Value)} {oc26 kV26 dc26 pm26 cd26 ct26 : Value}
    {f27 : Addr} {od27 an27 : Option Addr} {sl27 : Array (Option Value)} {oc27 kV27 dc27 pm27 cd27 ct27 : Value}
    {f28 : Addr} {od28 an28 : Option Addr} {sl28 : Array (Option Value)} {oc28 kV28 dc28 pm28 cd28 ct28 : Value}
    {f29 : Addr} {od29 an29 : Option Addr} {sl29 : Array (Option Value)} {oc29 kV29 dc29 pm29 cd29 ct29 : Value}
    {f30 : Addr} {od30 an30 : Option Addr} {sl30 : Array (Option Value)} {oc30 kV30 dc30 pm30 cd30 ct30 : Value}
    {f31 : Addr} {od31 an31 : Option Addr} {sl31 : Array (Option Value)} {oc31 kV31 dc31 pm31 cd31 ct31 : Value}
    {f32 : Addr} {od32 an32 : Option Addr} {sl32 : Array (Option Value)} {oc32 kV32 dc32 pm32 cd32 ct32 : Value}
    {f33 : Addr} {od33 an33 : Option Addr} {sl33 : Array (Option Value)} {oc33 kV33 dc33 pm33 cd33 ct33 : Value}
    {f34 : Addr} {od34 an34 : Option Addr} {sl34 : Array (Option Value)} {oc34 kV34 dc34 pm34 cd34 ct34 : Value}
    {f35 : Addr} {od35 an35 : Option Addr} {sl35 : Array (Option Value)} {oc35 kV35 dc35 pm35 cd35 ct35 : Value}
    {f36 : Addr} {od36 an36 : Option Addr} {sl36 : Array (Option Value)} {oc36 kV36 dc36 pm36 cd36 ct36 : Value}
    {f37 : Addr} {od37 an37 : Option Addr} {sl37 : Array (Option Value)} {oc37 kV37 dc37 pm37 cd37 ct37 : Value}
    {f38 : Addr} {od38 an38 : Option Addr} {sl38 : Array (Option Value)} {oc38 kV38 dc38 pm38 cd38 ct38 : Value}
    {f39 : Addr} {od39 an39 : Option Addr} {sl39 : Array (Option Value)} {oc39 kV39 dc39 pm39 cd39 ct39 : Value}
    {f40 : Addr} {od40 an40 : Option Addr} {sl40 : Array (Option Value)} {oc40 kV40 dc40 pm40 cd40 ct40 : Value}
    {f41 : Addr} {od41 an41 : Option Addr} {sl41 : Array (Option Value)} {oc41 kV41 dc41 pm41 cd41 ct41 : Value}
    {f42 : Addr} {od42 an42 : Option Addr} {sl42 : Array (Option Value)} {oc42 kV42 dc42 pm42 cd42 ct42 : Value}
    {f43 : Addr} {od43 an43 : Option Addr} {sl43 : Array (Option Value)} {oc43 kV43 dc43 pm43 cd43 ct43 : Value}
    {f44 : Addr} {od44 an44 : Option Addr} {sl44 : Array (Option Value)} {oc44 kV44 dc44 pm44 cd44 ct44 : Value}
    {f45 : Addr} {od45 an45 : Option Addr} {sl45 : Array (Option Value)} {oc45 kV45 dc45 pm45 cd45 ct45 : Value}
    {f46 : Addr} {od46 an46 : Option Addr} {sl46 : Array (Option Value)} {oc46 kV46 dc46 pm46 cd46 ct46 : Value}
    {f47 : Addr} {od47 an47 : Option Addr} {sl47 : Array (Option Value)} {oc47 kV47 dc47 pm47 cd47 ct47 : Value}
    {f48 : Addr} {od48 an48 : Option Addr} {sl48 : Array (Option Value)} {oc48 kV48 dc48 pm48 cd48 ct48 : Value}
    {f49 : Addr} {od49 an49 : Option Addr} {sl49 : Array (Option Value)} {oc49 kV49 dc49 pm49 cd49 ct49 : Value}
    {f50 : Addr} {od50 an50 : Option Addr} {sl50 : Array (Option Value)} {oc50 kV50 dc50 pm50 cd50 ct50 : Value}
    {f51 : Addr} {od51 an51 : Option Addr} {sl51 : Array (Option Value)} {oc51 kV51 dc51 pm51 cd51 ct51 : Value}
    {f52 : Addr} {od52 an52 : Option Addr} {sl52 : Array (Option Value)} {oc52 kV52 dc52 pm52 cd52 ct52 : Value}
    {f53 : Addr} {od53 an53 : Option Addr} {sl53 : Array (Option Value)} {oc53 kV53 dc53 pm53 cd53 ct53 : Value}
    {f54 : Addr} {od54 an54 : Option Addr} {sl54 : Array (Option Value)} {oc54 kV54 dc54 pm54 cd54 ct54 : Value}
    {f55 : Addr} {od55 an55 : Option Addr} {sl55 : Array (Option Value)} {oc55 kV55 dc55 pm55 cd55 ct55 : Value}
    {f56 : Addr} {od56 an56 : Option Addr} {sl56 : Array (Option Value)} {oc56 kV56 dc56 pm56 cd56 ct56 : Value}
    {f57 : Addr} {od57 an57 : Option Addr} {sl57 : Array (Option Value)} {oc57 kV57 dc57 pm57 cd57 ct57 : Value}
    {f58 : Addr} {od58 an58 : Option Addr} {sl58 : Array (Option Value)} {oc58 kV58 dc58 pm58 cd58 ct58 : Value}
    {f59 : Addr} {od59 an59 : Option Addr} {sl59 : Array (Option Value)} {oc59 kV59 dc59 pm59 cd59 ct59 : Value}
    {f60 : Addr} {od60 an60 : Option Addr} {sl60 : Array (Option Value)} {oc60 kV60 dc60 pm60 cd60 ct60 : Value}
    {a_MONTHS : Addr} {i_MONTHS : Array Value} {n_MONTHS : Nat} {sl_MONTHS : Array (Option Value)}
    {t_FOUR_YEARS : Tok}
    {t_TIMES : Tok}
    {t_DAYS : Tok}
    {t_LONGEST : Tok}
    {t_MOST_STEP : Tok}
    {t_DEEPEST : Tok}
    {a_BEARING : Addr} {i_BEARING : Array Value} {n_BEARING : Nat} {sl_BEARING : Array (Option Value)}
    {t_LETTERS : Tok}
    {t_MOST_SIGNS : Tok}
    {t_MOST_RULES : Tok}
    {t_STRETCH : Tok}
    {C_HourError : Addr}
    {C_NoRule : Addr}
    {C_NoName : Addr}
    {C_Taken : Addr}
    {C_Stranger : Addr}
    {C_Twice : Addr}
    {C_NoTime : Addr}
    {C_NoMeeting : Addr}
    {C_Clash : Addr}
    (g_Book : PySem.W.nsIn K mainGlobals "Book" = some (some (.ref C_Book))) (pg_Book : PySem.W.plainGet K C_Book Str.empty = true) (hd_Book : PySem.W.hasDictIn K C_Book = true) (po_Book : PySem.W.plainOver K C_Book = true) (sa_Book : PySem.W.findIn K (.ref C_Book) "__setattr__" = some (some (.builtin "object.__setattr__"))) (mk_Book : PySem.W.makesIn K C_Book = true) (kc_Book : PySem.W.keepIn K (.ref C_Book) = true) (n_booked : PySem.W.findIn K (.ref C_Book) "booked" = some none) (n_given : PySem.W.findIn K (.ref C_Book) "given" = some none) (n_known : PySem.W.findIn K (.ref C_Book) "known" = some none)
    (a0 : PySem.W.nsIn K mainGlobals "_wall" = some (some (.ref f0))) (l0 : K.lookup f0 = some ⟨oc0, od0, .func (PySem.W.fnOf "_wall" "_wall" (defArgs s__wall) (defBody s__wall) (defScope s__wall) .none kV0 dc0 pm0 an0 cd0 ct0), sl0⟩) (c0 : PySem.W.codeIn K cd0 "_wall" = true) (k0 : PySem.W.keepIn K (.ref f0) = true)
    (a1 : PySem.W.nsIn K mainGlobals "is_whole" = some (some (.ref f1))) (l1 : K.lookup f1 = some ⟨oc1, od1, .func (PySem.W.fnOf "is_whole" "is_whole" (defArgs s_is_whole) (defBody s_is_whole) (defScope s_is_whole) .none kV1 dc1 pm1 an1 cd1 ct1), sl1⟩) (c1 : PySem.W.codeIn K cd1 "is_whole" = true) (k1 : PySem.W.keepIn K (.ref f1) = true)
    (a2 : PySem.W.nsIn K mainGlobals "is_between" = some (some (.ref f2))) (l2 : K.lookup f2 = some ⟨oc2, od2, .func (PySem.W.fnOf "is_between" "is_between" (defArgs s_is_between) (defBody s_is_between) (defScope s_is_between) .none kV2 dc2 pm2 an2 cd2 ct2), sl2⟩) (c2 : PySem.W.codeIn K cd2 "is_between" = true) (k2 : PySem.W.keepIn K (.ref f2) = true)
    (a3 : PySem.W.nsIn K mainGlobals "month_days" = some (some (.ref f3))) (l3 : K.lookup f3 = some ⟨oc3, od3, .func (PySem.W.fnOf "month_days" "month_days" (defArgs s_month_days) (defBody s_month_days) (defScope s_month_days) .none kV3 dc3 pm3 an3 cd3 ct3), sl3⟩) (c3 : PySem.W.codeIn K cd3 "month_days" = true) (k3 : PySem.W.keepIn K (.ref f3) = true)
    (a4 : PySem.W.nsIn K mainGlobals "date_of" = some (some (.ref f4))) (l4 : K.lookup f4 = some ⟨oc4, od4, .func (PySem.W.fnOf "date_of" "date_of" (defArgs s_date_of) (defBody s_date_of) (defScope s_date_of) .none kV4 dc4 pm4 an4 cd4 ct4), sl4⟩) (c4 : PySem.W.codeIn K cd4 "date_of" = true) (k4 : PySem.W.keepIn K (.ref f4) = true)
    (a5 : PySem.W.nsIn K mainGlobals "from_end" = some (some (.ref f5))) (l5 : K.lookup f5 = some ⟨oc5, od5, .func (PySem.W.fnOf "from_end" "from_end" (defArgs s_from_end) (defBody s_from_end) (defScope s_from_end) .none kV5 dc5 pm5 an5 cd5 ct5), sl5⟩) (c5 : PySem.W.codeIn K cd5 "from_end" = true) (k5 : PySem.W.keepIn K (.ref f5) = true)
    (a6 : PySem.W.nsIn K mainGlobals "blocked" = some (some (.ref f6))) (l6 : K.lookup f6 = some ⟨oc6, od6, .func (PySem.W.fnOf "blocked" "blocked" (defArgs s_blocked) (defBody s_blocked) (defScope s_blocked) .none kV6 dc6 pm6 an6 cd6 ct6), sl6⟩) (c6 : PySem.W.codeIn K cd6 "blocked" = true) (k6 : PySem.W.keepIn K (.ref f6) = true)
    (a7 : PySem.W.nsIn K mainGlobals "search" = some (some (.ref f7))) (l7 : K.lookup f7 = some ⟨oc7, od7, .func (PySem.W.fnOf "search" "search" (defArgs s_search) (defBody s_search) (defScope s_search) .none kV7 dc7 pm7 an7 cd7 ct7), sl7⟩) (c7 : PySem.W.codeIn K cd7 "search" = true) (k7 : PySem.W.keepIn K (.ref f7) = true)
    (a8 : PySem.W.nsIn K mainGlobals "is_time" = some (some (.ref f8))) (l8 : K.lookup f8 = some ⟨oc8, od8, .func (PySem.W.fnOf "is_time" "is_time" (defArgs s_is_time) (defBody s_is_time) (defScope s_is_time) .none kV8 dc8 pm8 an8 cd8 ct8), sl8⟩) (c8 : PySem.W.codeIn K cd8 "is_time" = true) (k8 : PySem.W.keepIn K (.ref f8) = true)
    (a9 : PySem.W.nsIn K mainGlobals "is_length" = some (some (.ref f9))) (l9 : K.lookup f9 = some ⟨oc9, od9, .func (PySem.W.fnOf "is_length" "is_length" (defArgs s_is_length) (defBody s_is_length) (defScope s_is_length) .none kV9 dc9 pm9 an9 cd9 ct9), sl9⟩) (c9 : PySem.W.codeIn K cd9 "is_length" = true) (k9 : PySem.W.keepIn K (.ref f9) = true)
    (a10 : PySem.W.nsIn K mainGlobals "is_row" = some (some (.ref f10))) (l10 : K.lookup f10 = some ⟨oc10, od10, .func (PySem.W.fnOf "is_row" "is_row" (defArgs s_is_row) (defBody s_is_row) (defScope s_is_row) .none kV10 dc10 pm10 an10 cd10 ct10), sl10⟩) (c10 : PySem.W.codeIn K cd10 "is_row" = true) (k10 : PySem.W.keepIn K (.ref f10) = true)
    (a11 : PySem.W.nsIn K mainGlobals "is_plain" = some (some (.ref f11))) (l11 : K.lookup f11 = some ⟨oc11, od11, .func (PySem.W.fnOf "is_plain" "is_plain" (defArgs s_is_plain) (defBody s_is_plain) (defScope s_is_plain) .none kV11 dc11 pm11 an11 cd11 ct11), sl11⟩) (c11 : PySem.W.codeIn K cd11 "is_plain" = true) (k11 : PySem.W.keepIn K (.ref f11) = true)
    (a12 : PySem.W.nsIn K mainGlobals "is_rule" = some (some (.ref f12))) (l12 : K.lookup f12 = some ⟨oc12, od12, .func (PySem.W.fnOf "is_rule" "is_rule" (defArgs s_is_rule) (defBody s_is_rule) (defScope s_is_rule) .none kV12 dc12 pm12 an12 cd12 ct12), sl12⟩) (c12 : PySem.W.codeIn K cd12 "is_rule" = true) (k12 : PySem.W.keepIn K (.ref f12) = true)
    (a13 : PySem.W.nsIn K mainGlobals "innermost" = some (some (.ref f13))) (l13 : K.lookup f13 = some ⟨oc13, od13, .func (PySem.W.fnOf "innermost" "innermost" (defArgs s_innermost) (defBody s_innermost) (defScope s_innermost) .none kV13 dc13 pm13 an13 cd13 ct13), sl13⟩) (c13 : PySem.W.codeIn K cd13 "innermost" = true) (k13 : PySem.W.keepIn K (.ref f13) = true)
    (a14 : PySem.W.nsIn K mainGlobals "length_of" = some (some (.ref f14))) (l14 : K.lookup f14 = some ⟨oc14, od14, .func (PySem.W.fnOf "length_of" "length_of" (defArgs s_length_of) (defBody s_length_of) (defScope s_length_of) .none kV14 dc14 pm14 an14 cd14 ct14), sl14⟩) (c14 : PySem.W.codeIn K cd14 "length_of" = true) (k14 : PySem.W.keepIn K (.ref f14) = true)
    (a15 : PySem.W.nsIn K mainGlobals "plain_begins" = some (some (.ref f15))) (l15 : K.lookup f15 = some ⟨oc15, od15, .func (PySem.W.fnOf "plain_begins" "plain_begins" (defArgs s_plain_begins) (defBody s_plain_begins) (defScope s_plain_begins) .none kV15 dc15 pm15 an15 cd15 ct15), sl15⟩) (c15 : PySem.W.codeIn K cd15 "plain_begins" = true) (k15 : PySem.W.keepIn K (.ref f15) = true)
    (a16 : PySem.W.nsIn K mainGlobals "begins" = some (some (.ref f16))) (l16 : K.lookup f16 = some ⟨oc16, od16, .func (PySem.W.fnOf "begins" "begins" (defArgs s_begins) (defBody s_begins) (defScope s_begins) .none kV16 dc16 pm16 an16 cd16 ct16), sl16⟩) (c16 : PySem.W.codeIn K cd16 "begins" = true) (k16 : PySem.W.keepIn K (.ref f16) = true)
    (a17 : PySem.W.nsIn K mainGlobals "covers" = some (some (.ref f17))) (l17 : K.lookup f17 = some ⟨oc17, od17, .func (PySem.W.fnOf "covers" "covers" (defArgs s_covers) (defBody s_covers) (defScope s_covers) .none kV17 dc17 pm17 an17 cd17 ct17), sl17⟩) (c17 : PySem.W.codeIn K cd17 "covers" = true) (k17 : PySem.W.keepIn K (.ref f17) = true)
    (a18 : PySem.W.nsIn K mainGlobals "is_name" = some (some (.ref f18))) (l18 : K.lookup f18 = some ⟨oc18, od18, .func (PySem.W.fnOf "is_name" "is_name" (defArgs s_is_name) (defBody s_is_name) (defScope s_is_name) .none kV18 dc18 pm18 an18 cd18 ct18), sl18⟩) (c18 : PySem.W.codeIn K cd18 "is_name" = true) (k18 : PySem.W.keepIn K (.ref f18) = true)
    (a19 : PySem.W.nsIn K mainGlobals "_law_cell_at" = some (some (.ref f19))) (l19 : K.lookup f19 = some ⟨oc19, od19, .func (PySem.W.fnOf "_law_cell_at" "_law_cell_at" (defArgs s__law_cell_at) (defBody s__law_cell_at) (defScope s__law_cell_at) .none kV19 dc19 pm19 an19 cd19 ct19), sl19⟩) (c19 : PySem.W.codeIn K cd19 "_law_cell_at" = true) (k19 : PySem.W.keepIn K (.ref f19) = true)
    (a20 : PySem.W.nsIn K mainGlobals "_law_whole" = some (some (.ref f20))) (l20 : K.lookup f20 = some ⟨oc20, od20, .func (PySem.W.fnOf "_law_whole" "_law_whole" (defArgs s__law_whole) (defBody s__law_whole) (defScope s__law_whole) .none kV20 dc20 pm20 an20 cd20 ct20), sl20⟩) (c20 : PySem.W.codeIn K cd20 "_law_whole" = true) (k20 : PySem.W.keepIn K (.ref f20) = true)
    (a21 : PySem.W.nsIn K mainGlobals "_law_days" = some (some (.ref f21))) (l21 : K.lookup f21 = some ⟨oc21, od21, .func (PySem.W.fnOf "_law_days" "_law_days" (defArgs s__law_days) (defBody s__law_days) (defScope s__law_days) .none kV21 dc21 pm21 an21 cd21 ct21), sl21⟩) (c21 : PySem.W.codeIn K cd21 "_law_days" = true) (k21 : PySem.W.keepIn K (.ref f21) = true)
    (a22 : PySem.W.nsIn K mainGlobals "_law_in_month" = some (some (.ref f22))) (l22 : K.lookup f22 = some ⟨oc22, od22, .func (PySem.W.fnOf "_law_in_month" "_law_in_month" (defArgs s__law_in_month) (defBody s__law_in_month) (defScope s__law_in_month) .none kV22 dc22 pm22 an22 cd22 ct22), sl22⟩) (c22 : PySem.W.codeIn K cd22 "_law_in_month" = true) (k22 : PySem.W.keepIn K (.ref f22) = true)
    (a23 : PySem.W.nsIn K mainGlobals "_law_plain_begins" = some (some (.ref f23))) (l23 : K.lookup f23 = some ⟨oc23, od23, .func (PySem.W.fnOf "_law_plain_begins" "_law_plain_begins" (defArgs s__law_plain_begins) (defBody s__law_plain_begins) (defScope s__law_plain_begins) .none kV23 dc23 pm23 an23 cd23 ct23), sl23⟩) (c23 : PySem.W.codeIn K cd23 "_law_plain_begins" = true) (k23 : PySem.W.keepIn K (.ref f23) = true)
    (a24 : PySem.W.nsIn K mainGlobals "_law_bearing" = some (some (.ref f24))) (l24 : K.lookup f24 = some ⟨oc24, od24, .func (PySem.W.fnOf "_law_bearing" "_law_bearing" (defArgs s__law_bearing) (defBody s__law_bearing) (defScope s__law_bearing) .none kV24 dc24 pm24 an24 cd24 ct24), sl24⟩) (c24 : PySem.W.codeIn K cd24 "_law_bearing" = true) (k24 : PySem.W.keepIn K (.ref f24) = true)
    (a25 : PySem.W.nsIn K mainGlobals "_law_heads" = some (some (.ref f25))) (l25 : K.lookup f25 = some ⟨oc25, od25, .func (PySem.W.fnOf "_law_heads" "_law_heads" (defArgs s__law_heads) (defBody s__law_heads) (defScope s__law_heads) .none kV25 dc25 pm25 an25 cd25 ct25), sl25⟩) (c25 : PySem.W.codeIn K cd25 "_law_heads" = true) (k25 : PySem.W.keepIn K (.ref f25) = true)
    (a26 : PySem.W.nsIn K mainGlobals "_law_begun" = some (some (.ref f26))) (l26 : K.lookup f26 = some ⟨oc26, od26, .func (PySem.W.fnOf "_law_begun" "_law_begun" (defArgs s__law_begun) (defBody s__law_begun) (defScope s__law_begun) .none kV26 dc26 pm26 an26 cd26 ct26), sl26⟩) (c26 : PySem.W.codeIn K cd26 "_law_begun" = true) (k26 : PySem.W.keepIn K (.ref f26) = true)
    (a27 : PySem.W.nsIn K mainGlobals "_law_size" = some (some (.ref f27))) (l27 : K.lookup f27 = some ⟨oc27, od27, .func (PySem.W.fnOf "_law_size" "_law_size" (defArgs s__law_size) (defBody s__law_size) (defScope s__law_size) .none kV27 dc27 pm27 an27 cd27 ct27), sl27⟩) (c27 : PySem.W.codeIn K cd27 "_law_size" = true) (k27 : PySem.W.keepIn K (.ref f27) = true)
    (a28 : PySem.W.nsIn K mainGlobals "_law_weekdays" = some (some (.ref f28))) (l28 : K.lookup f28 = some ⟨oc28, od28, .func (PySem.W.fnOf "_law_weekdays" "_law_weekdays" (defArgs s__law_weekdays) (defBody s__law_weekdays) (defScope s__law_weekdays) .none kV28 dc28 pm28 an28 cd28 ct28), sl28⟩) (c28 : PySem.W.codeIn K cd28 "_law_weekdays" = true) (k28 : PySem.W.keepIn K (.ref f28) = true)
    (a29 : PySem.W.nsIn K mainGlobals "_law_plain_by" = some (some (.ref f29))) (l29 : K.lookup f29 = some ⟨oc29, od29, .func (PySem.W.fnOf "_law_plain_by" "_law_plain_by" (defArgs s__law_plain_by) (defBody s__law_plain_by) (defScope s__law_plain_by) .none kV29 dc29 pm29 an29 cd29 ct29), sl29⟩) (c29 : PySem.W.codeIn K cd29 "_law_plain_by" = true) (k29 : PySem.W.keepIn K (.ref f29) = true)
    (a30 : PySem.W.nsIn K mainGlobals "_law_head_by" = some (some (.ref f30))) (l30 : K.lookup f30 = some ⟨oc30, od30, .func (PySem.W.fnOf "_law_head_by" "_law_head_by" (defArgs s__law_head_by) (defBody s__law_head_by) (defScope s__law_head_by) .none kV30 dc30 pm30 an30 cd30 ct30), sl30⟩) (c30 : PySem.W.codeIn K cd30 "_law_head_by" = true) (k30 : PySem.W.keepIn K (.ref f30) = true)
    (a31 : PySem.W.nsIn K mainGlobals "_law_far" = some (some (.ref f31))) (l31 : K.lookup f31 = some ⟨oc31, od31, .func (PySem.W.fnOf "_law_far" "_law_far" (defArgs s__law_far) (defBody s__law_far) (defScope s__law_far) .none kV31 dc31 pm31 an31 cd31 ct31), sl31⟩) (c31 : PySem.W.codeIn K cd31 "_law_far" = true) (k31 : PySem.W.keepIn K (.ref f31) = true)
    (a32 : PySem.W.nsIn K mainGlobals "_law_in_time" = some (some (.ref f32))) (l32 : K.lookup f32 = some ⟨oc32, od32, .func (PySem.W.fnOf "_law_in_time" "_law_in_time" (defArgs s__law_in_time) (defBody s__law_in_time) (defScope s__law_in_time) .none kV32 dc32 pm32 an32 cd32 ct32), sl32⟩) (c32 : PySem.W.codeIn K cd32 "_law_in_time" = true) (k32 : PySem.W.keepIn K (.ref f32) = true)
    (a33 : PySem.W.nsIn K mainGlobals "_law_name_by" = some (some (.ref f33))) (l33 : K.lookup f33 = some ⟨oc33, od33, .func (PySem.W.fnOf "_law_name_by" "_law_name_by" (defArgs s__law_name_by) (defBody s__law_name_by) (defScope s__law_name_by) .none kV33 dc33 pm33 an33 cd33 ct33), sl33⟩) (c33 : PySem.W.codeIn K cd33 "_law_name_by" = true) (k33 : PySem.W.keepIn K (.ref f33) = true)
    (a34 : PySem.W.nsIn K mainGlobals "_law_free_by" = some (some (.ref f34))) (l34 : K.lookup f34 = some ⟨oc34, od34, .func (PySem.W.fnOf "_law_free_by" "_law_free_by" (defArgs s__law_free_by) (defBody s__law_free_by) (defScope s__law_free_by) .none kV34 dc34 pm34 an34 cd34 ct34), sl34⟩) (c34 : PySem.W.codeIn K cd34 "_law_free_by" = true) (k34 : PySem.W.keepIn K (.ref f34) = true)
    (a35 : PySem.W.nsIn K mainGlobals "_law_people_by" = some (some (.ref f35))) (l35 : K.lookup f35 = some ⟨oc35, od35, .func (PySem.W.fnOf "_law_people_by" "_law_people_by" (defArgs s__law_people_by) (defBody s__law_people_by) (defScope s__law_people_by) .none kV35 dc35 pm35 an35 cd35 ct35), sl35⟩) (c35 : PySem.W.codeIn K cd35 "_law_people_by" = true) (k35 : PySem.W.keepIn K (.ref f35) = true)
    (a36 : PySem.W.nsIn K mainGlobals "_law_book_of" = some (some (.ref f36))) (l36 : K.lookup f36 = some ⟨oc36, od36, .func (PySem.W.fnOf "_law_book_of" "_law_book_of" (defArgs s__law_book_of) (defBody s__law_book_of) (defScope s__law_book_of) .none kV36 dc36 pm36 an36 cd36 ct36), sl36⟩) (c36 : PySem.W.codeIn K cd36 "_law_book_of" = true) (k36 : PySem.W.keepIn K (.ref f36) = true)
    (a37 : PySem.W.nsIn K mainGlobals "_law_lasts" = some (some (.ref f37))) (l37 : K.lookup f37 = some ⟨oc37, od37, .func (PySem.W.fnOf "_law_lasts" "_law_lasts" (defArgs s__law_lasts) (defBody s__law_lasts) (defScope s__law_lasts) .none kV37 dc37 pm37 an37 cd37 ct37), sl37⟩) (c37 : PySem.W.codeIn K cd37 "_law_lasts" = true) (k37 : PySem.W.keepIn K (.ref f37) = true)
    (a38 : PySem.W.nsIn K mainGlobals "_law_open" = some (some (.ref f38))) (l38 : K.lookup f38 = some ⟨oc38, od38, .func (PySem.W.fnOf "_law_open" "_law_open" (defArgs s__law_open) (defBody s__law_open) (defScope s__law_open) .none kV38 dc38 pm38 an38 cd38 ct38), sl38⟩) (c38 : PySem.W.codeIn K cd38 "_law_open" = true) (k38 : PySem.W.keepIn K (.ref f38) = true)
    (a39 : PySem.W.nsIn K mainGlobals "_law_is_told" = some (some (.ref f39))) (l39 : K.lookup f39 = some ⟨oc39, od39, .func (PySem.W.fnOf "_law_is_told" "_law_is_told" (defArgs s__law_is_told) (defBody s__law_is_told) (defScope s__law_is_told) .none kV39 dc39 pm39 an39 cd39 ct39), sl39⟩) (c39 : PySem.W.codeIn K cd39 "_law_is_told" = true) (k39 : PySem.W.keepIn K (.ref f39) = true)
    (a40 : PySem.W.nsIn K mainGlobals "_law_row_holds" = some (some (.ref f40))) (l40 : K.lookup f40 = some ⟨oc40, od40, .func (PySem.W.fnOf "_law_row_holds" "_law_row_holds" (defArgs s__law_row_holds) (defBody s__law_row_holds) (defScope s__law_row_holds) .none kV40 dc40 pm40 an40 cd40 ct40), sl40⟩) (c40 : PySem.W.codeIn K cd40 "_law_row_holds" = true) (k40 : PySem.W.keepIn K (.ref f40) = true)
    (a41 : PySem.W.nsIn K mainGlobals "_law_holds" = some (some (.ref f41))) (l41 : K.lookup f41 = some ⟨oc41, od41, .func (PySem.W.fnOf "_law_holds" "_law_holds" (defArgs s__law_holds) (defBody s__law_holds) (defScope s__law_holds) .none kV41 dc41 pm41 an41 cd41 ct41), sl41⟩) (c41 : PySem.W.codeIn K cd41 "_law_holds" = true) (k41 : PySem.W.keepIn K (.ref f41) = true)
    (a42 : PySem.W.nsIn K mainGlobals "_law_all_open" = some (some (.ref f42))) (l42 : K.lookup f42 = some ⟨oc42, od42, .func (PySem.W.fnOf "_law_all_open" "_law_all_open" (defArgs s__law_all_open) (defBody s__law_all_open) (defScope s__law_all_open) .none kV42 dc42 pm42 an42 cd42 ct42), sl42⟩) (c42 : PySem.W.codeIn K cd42 "_law_all_open" = true) (k42 : PySem.W.keepIn K (.ref f42) = true)
    (a43 : PySem.W.nsIn K mainGlobals "_law_busier" = some (some (.ref f43))) (l43 : K.lookup f43 = some ⟨oc43, od43, .func (PySem.W.fnOf "_law_busier" "_law_busier" (defArgs s__law_busier) (defBody s__law_busier) (defScope s__law_busier) .none kV43 dc43 pm43 an43 cd43 ct43), sl43⟩) (c43 : PySem.W.codeIn K cd43 "_law_busier" = true) (k43 : PySem.W.keepIn K (.ref f43) = true)
    (a44 : PySem.W.nsIn K mainGlobals "_law_taken" = some (some (.ref f44))) (l44 : K.lookup f44 = some ⟨oc44, od44, .func (PySem.W.fnOf "_law_taken" "_law_taken" (defArgs s__law_taken) (defBody s__law_taken) (defScope s__law_taken) .none kV44 dc44 pm44 an44 cd44 ct44), sl44⟩) (c44 : PySem.W.codeIn K cd44 "_law_taken" = true) (k44 : PySem.W.keepIn K (.ref f44) = true)
    (a45 : PySem.W.nsIn K mainGlobals "_law_asked" = some (some (.ref f45))) (l45 : K.lookup f45 = some ⟨oc45, od45, .func (PySem.W.fnOf "_law_asked" "_law_asked" (defArgs s__law_asked) (defBody s__law_asked) (defScope s__law_asked) .none kV45 dc45 pm45 an45 cd45 ct45), sl45⟩) (c45 : PySem.W.codeIn K cd45 "_law_asked" = true) (k45 : PySem.W.keepIn K (.ref f45) = true)
    (a46 : PySem.W.nsIn K mainGlobals "_law_asked_again" = some (some (.ref f46))) (l46 : K.lookup f46 = some ⟨oc46, od46, .func (PySem.W.fnOf "_law_asked_again" "_law_asked_again" (defArgs s__law_asked_again) (defBody s__law_asked_again) (defScope s__law_asked_again) .none kV46 dc46 pm46 an46 cd46 ct46), sl46⟩) (c46 : PySem.W.codeIn K cd46 "_law_asked_again" = true) (k46 : PySem.W.keepIn K (.ref f46) = true)
    (a47 : PySem.W.findIn K (.ref C_Book) "__init__" = some (some (.ref f47))) (i47 : PySem.W.isFn K (.ref f47) = true) (l47 : K.lookup f47 = some ⟨oc47, od47, .func (PySem.W.fnOf "__init__" "Book.__init__" (defArgs s_Book_init) (defBody s_Book_init) (defScope s_Book_init) .none kV47 dc47 pm47 an47 cd47 ct47), sl47⟩) (c47 : PySem.W.codeIn K cd47 "Book.__init__" = true) (k47 : PySem.W.keepIn K (.ref f47) = true)
    (a48 : PySem.W.findIn K (.ref C_Book) "come" = some (some (.ref f48))) (i48 : PySem.W.isFn K (.ref f48) = true) (l48 : K.lookup f48 = some ⟨oc48, od48, .func (PySem.W.fnOf "come" "Book.come" (defArgs s_Book_come) (defBody s_Book_come) (defScope s_Book_come) .none kV48 dc48 pm48 an48 cd48 ct48), sl48⟩) (c48 : PySem.W.codeIn K cd48 "Book.come" = true) (k48 : PySem.W.keepIn K (.ref f48) = true)
    (a49 : PySem.W.findIn K (.ref C_Book) "busy" = some (some (.ref f49))) (i49 : PySem.W.isFn K (.ref f49) = true) (l49 : K.lookup f49 = some ⟨oc49, od49, .func (PySem.W.fnOf "busy" "Book.busy" (defArgs s_Book_busy) (defBody s_Book_busy) (defScope s_Book_busy) .none kV49 dc49 pm49 an49 cd49 ct49), sl49⟩) (c49 : PySem.W.codeIn K cd49 "Book.busy" = true) (k49 : PySem.W.keepIn K (.ref f49) = true)
    (a50 : PySem.W.findIn K (.ref C_Book) "need" = some (some (.ref f50))) (i50 : PySem.W.isFn K (.ref f50) = true) (l50 : K.lookup f50 = some ⟨oc50, od50, .func (PySem.W.fnOf "need" "Book.need" (defArgs s_Book_need) (defBody s_Book_need) (defScope s_Book_need) .none kV50 dc50 pm50 an50 cd50 ct50), sl50⟩) (c50 : PySem.W.codeIn K cd50 "Book.need" = true) (k50 : PySem.W.keepIn K (.ref f50) = true)
    (a51 : PySem.W.findIn K (.ref C_Book) "is_open" = some (some (.ref f51))) (i51 : PySem.W.isFn K (.ref f51) = true) (l51 : K.lookup f51 = some ⟨oc51, od51, .func (PySem.W.fnOf "is_open" "Book.is_open" (defArgs s_Book_is_open) (defBody s_Book_is_open) (defScope s_Book_is_open) .none kV51 dc51 pm51 an51 cd51 ct51), sl51⟩) (c51 : PySem.W.codeIn K cd51 "Book.is_open" = true) (k51 : PySem.W.keepIn K (.ref f51) = true)
    (a52 : PySem.W.findIn K (.ref C_Book) "named" = some (some (.ref f52))) (i52 : PySem.W.isFn K (.ref f52) = true) (l52 : K.lookup f52 = some ⟨oc52, od52, .func (PySem.W.fnOf "named" "Book.named" (defArgs s_Book_named) (defBody s_Book_named) (defScope s_Book_named) .none kV52 dc52 pm52 an52 cd52 ct52), sl52⟩) (c52 : PySem.W.codeIn K cd52 "Book.named" = true) (k52 : PySem.W.keepIn K (.ref f52) = true)
    (a53 : PySem.W.findIn K (.ref C_Book) "stretch" = some (some (.ref f53))) (i53 : PySem.W.isFn K (.ref f53) = true) (l53 : K.lookup f53 = some ⟨oc53, od53, .func (PySem.W.fnOf "stretch" "Book.stretch" (defArgs s_Book_stretch) (defBody s_Book_stretch) (defScope s_Book_stretch) .none kV53 dc53 pm53 an53 cd53 ct53), sl53⟩) (c53 : PySem.W.codeIn K cd53 "Book.stretch" = true) (k53 : PySem.W.keepIn K (.ref f53) = true)
    (a54 : PySem.W.findIn K (.ref C_Book) "first" = some (some (.ref f54))) (i54 : PySem.W.isFn K (.ref f54) = true) (l54 : K.lookup f54 = some ⟨oc54, od54, .func (PySem.W.fnOf "first" "Book.first" (defArgs s_Book_first) (defBody s_Book_first) (defScope s_Book_first) .none kV54 dc54 pm54 an54 cd54 ct54), sl54⟩) (c54 : PySem.W.codeIn K cd54 "Book.first" = true) (k54 : PySem.W.keepIn K (.ref f54) = true)
    (a55 : PySem.W.findIn K (.ref C_Book) "meet" = some (some (.ref f55))) (i55 : PySem.W.isFn K (.ref f55) = true) (l55 : K.lookup f55 = some ⟨oc55, od55, .func (PySem.W.fnOf "meet" "Book.meet" (defArgs s_Book_meet) (defBody s_Book_meet) (defScope s_Book_meet) .none kV55 dc55 pm55 an55 cd55 ct55), sl55⟩) (c55 : PySem.W.codeIn K cd55 "Book.meet" = true) (k55 : PySem.W.keepIn K (.ref f55) = true)
    (a56 : PySem.W.findIn K (.ref C_Book) "meetings" = some (some (.ref f56))) (i56 : PySem.W.isFn K (.ref f56) = true) (l56 : K.lookup f56 = some ⟨oc56, od56, .func (PySem.W.fnOf "meetings" "Book.meetings" (defArgs s_Book_meetings) (defBody s_Book_meetings) (defScope s_Book_meetings) .none kV56 dc56 pm56 an56 cd56 ct56), sl56⟩) (c56 : PySem.W.codeIn K cd56 "Book.meetings" = true) (k56 : PySem.W.keepIn K (.ref f56) = true)
    (a57 : PySem.W.findIn K (.ref C_Book) "place" = some (some (.ref f57))) (i57 : PySem.W.isFn K (.ref f57) = true) (l57 : K.lookup f57 = some ⟨oc57, od57, .func (PySem.W.fnOf "place" "Book.place" (defArgs s_Book_place) (defBody s_Book_place) (defScope s_Book_place) .none kV57 dc57 pm57 an57 cd57 ct57), sl57⟩) (c57 : PySem.W.codeIn K cd57 "Book.place" = true) (k57 : PySem.W.keepIn K (.ref f57) = true)
    (a58 : PySem.W.findIn K (.ref C_Book) "drop" = some (some (.ref f58))) (i58 : PySem.W.isFn K (.ref f58) = true) (l58 : K.lookup f58 = some ⟨oc58, od58, .func (PySem.W.fnOf "drop" "Book.drop" (defArgs s_Book_drop) (defBody s_Book_drop) (defScope s_Book_drop) .none kV58 dc58 pm58 an58 cd58 ct58), sl58⟩) (c58 : PySem.W.codeIn K cd58 "Book.drop" = true) (k58 : PySem.W.keepIn K (.ref f58) = true)
    (a59 : PySem.W.findIn K (.ref C_Book) "move" = some (some (.ref f59))) (i59 : PySem.W.isFn K (.ref f59) = true) (l59 : K.lookup f59 = some ⟨oc59, od59, .func (PySem.W.fnOf "move" "Book.move" (defArgs s_Book_move) (defBody s_Book_move) (defScope s_Book_move) .none kV59 dc59 pm59 an59 cd59 ct59), sl59⟩) (c59 : PySem.W.codeIn K cd59 "Book.move" = true) (k59 : PySem.W.keepIn K (.ref f59) = true)
    (a60 : PySem.W.nsIn K mainGlobals "law" = some (some (.ref f60))) (l60 : K.lookup f60 = some ⟨oc60, od60, .func (PySem.W.fnOf "law" "law" (defArgs s_law) (defBody s_law) (defScope s_law) .none kV60 dc60 pm60 an60 cd60 ct60), sl60⟩) (c60 : PySem.W.codeIn K cd60 "law" = true) (k60 : PySem.W.keepIn K (.ref f60) = true)
    (b_all : PySem.W.nsIn K mainGlobals "all" = some none)
    (b_any : PySem.W.nsIn K mainGlobals "any" = some none)
    (b_bool : PySem.W.nsIn K mainGlobals "bool" = some none)
    (b_int : PySem.W.nsIn K mainGlobals "int" = some none)
    (b_isinstance : PySem.W.nsIn K mainGlobals "isinstance" = some none)
    (b_len : PySem.W.nsIn K mainGlobals "len" = some none)
    (b_list : PySem.W.nsIn K mainGlobals "list" = some none)
    (b_max : PySem.W.nsIn K mainGlobals "max" = some none)
    (b_min : PySem.W.nsIn K mainGlobals "min" = some none)
    (b_range : PySem.W.nsIn K mainGlobals "range" = some none)
    (b_repr : PySem.W.nsIn K mainGlobals "repr" = some none)
    (b_reversed : PySem.W.nsIn K mainGlobals "reversed" = some none)
    (b_set : PySem.W.nsIn K mainGlobals "set" = some none)
    (b_str : PySem.W.nsIn K mainGlobals "str" = some none)
    (b_tuple : PySem.W.nsIn K mainGlobals "tuple" = some none)
    (g_MONTHS : PySem.W.nsIn K mainGlobals "MONTHS" = some (some (.ref a_MONTHS))) (l_MONTHS : K.lookup a_MONTHS = some ⟨.type "list", none, .seq i_MONTHS n_MONTHS, sl_MONTHS⟩) (v_MONTHS : i_MONTHS.toList.map absV = ([V.int (31), V.int (28), V.int (31), V.int (30), V.int (31), V.int (30), V.int (31), V.int (31), V.int (30), V.int (31), V.int (30), V.int (31)] : List V).map some)
    (g_FOUR_YEARS : PySem.W.nsIn K mainGlobals "FOUR_YEARS" = some (some (.int (1461) t_FOUR_YEARS)))
    (g_TIMES : PySem.W.nsIn K mainGlobals "TIMES" = some (some (.int (1000000000000) t_TIMES)))
    (g_DAYS : PySem.W.nsIn K mainGlobals "DAYS" = some (some (.int (100000000000) t_DAYS)))
    (g_LONGEST : PySem.W.nsIn K mainGlobals "LONGEST" = some (some (.int (48) t_LONGEST)))
    (g_MOST_STEP : PySem.W.nsIn K mainGlobals "MOST_STEP" = some (some (.int (1000000) t_MOST_STEP)))
    (g_DEEPEST : PySem.W.nsIn K mainGlobals "DEEPEST" = some (some (.int (8) t_DEEPEST)))
    (g_BEARING : PySem.W.nsIn K mainGlobals "BEARING" = some (some (.ref a_BEARING))) (l_BEARING : K.lookup a_BEARING = some ⟨.type "list", none, .seq i_BEARING n_BEARING, sl_BEARING⟩) (v_BEARING : i_BEARING.toList.map absV = ([V.str "from", V.str "until", V.str "also", V.str "but"] : List V).map some)
    (g_LETTERS : PySem.W.nsIn K mainGlobals "LETTERS" = some (some (.str "abcdefghijklmnopqrstuvwxyz" t_LETTERS)))
    (g_MOST_SIGNS : PySem.W.nsIn K mainGlobals "MOST_SIGNS" = some (some (.int (12) t_MOST_SIGNS)))
    (g_MOST_RULES : PySem.W.nsIn K mainGlobals "MOST_RULES" = some (some (.int (20) t_MOST_RULES)))
    (g_STRETCH : PySem.W.nsIn K mainGlobals "STRETCH" = some (some (.int (10000) t_STRETCH)))
    (x_HourError_g : PySem.W.nsIn K mainGlobals "HourError" = some (some (.ref C_HourError))) (x_HourError_x : PySem.W.excIn K C_HourError [.type "ValueError", .type "Exception", .type "BaseException", .type "object"] "ValueError.__new__" = true) (x_HourError_k : PySem.W.keepIn K (.ref C_HourError) = true) (x_HourError_b : PySem.W.subIn K (.ref C_HourError) (.type "BaseException") = some true) (x_HourError_t : PySem.W.typeIn K (.ref C_HourError) = some (.type "type")) (x_HourError_i : PySem.W.isClsIn K C_HourError = true) (x_HourError_h : PySem.W.hasDictIn K C_HourError = true) (x_HourError_v : PySem.W.subIn K (.ref C_HourError) (.type "ValueError") = some true) (x_HourError_s : PySem.W.subIn K (.ref C_HourError) (.ref C_HourError) = some true) (x_HourError_1 : PySem.W.findIn K (.ref C_HourError) "__getattribute__" = some (some (.builtin "BaseException.__getattribute__"))) (x_HourError_2 : PySem.W.findIn K (.ref C_HourError) "__getattr__" = some none) (x_HourError_3 : PySem.W.findIn K (.ref C_HourError) "__class__" = some (some (.builtin "object.__class__"))) (x_HourError_4 : PySem.W.specialIn K (.builtin "object.__class__") "__get__" = some (some (.builtin "getset_descriptor.__get__"))) (x_HourError_5 : PySem.W.takesIn K (.builtin "object.__class__") = some true) (x_HourError_6 : PySem.W.mroIn K C_HourError (.type "object") = some true)
    (x_NoRule_g : PySem.W.nsIn K mainGlobals "NoRule" = some (some (.ref C_NoRule))) (x_NoRule_x : PySem.W.excIn K C_NoRule [.type "ValueError", .type "Exception", .type "BaseException", .type "object"] "ValueError.__new__" = true) (x_NoRule_k : PySem.W.keepIn K (.ref C_NoRule) = true) (x_NoRule_b : PySem.W.subIn K (.ref C_NoRule) (.type "BaseException") = some true) (x_NoRule_t : PySem.W.typeIn K (.ref C_NoRule) = some (.type "type")) (x_NoRule_i : PySem.W.isClsIn K C_NoRule = true) (x_NoRule_h : PySem.W.hasDictIn K C_NoRule = true) (x_NoRule_v : PySem.W.subIn K (.ref C_NoRule) (.type "ValueError") = some true) (x_NoRule_s : PySem.W.subIn K (.ref C_NoRule) (.ref C_NoRule) = some true) (x_NoRule_1 : PySem.W.findIn K (.ref C_NoRule) "__getattribute__" = some (some (.builtin "BaseException.__getattribute__"))) (x_NoRule_2 : PySem.W.findIn K (.ref C_NoRule) "__getattr__" = some none) (x_NoRule_3 : PySem.W.findIn K (.ref C_NoRule) "__class__" = some (some (.builtin "object.__class__"))) (x_NoRule_4 : PySem.W.specialIn K (.builtin "object.__class__") "__get__" = some (some (.builtin "getset_descriptor.__get__"))) (x_NoRule_5 : PySem.W.takesIn K (.builtin "object.__class__") = some true) (x_NoRule_6 : PySem.W.mroIn K C_NoRule (.type "object") = some true)
    (x_NoName_g : PySem.W.nsIn K mainGlobals "NoName" = some (some (.ref C_NoName))) (x_NoName_x : PySem.W.excIn K C_NoName [.type "ValueError", .type "Exception", .type "BaseException", .type "object"] "ValueError.__new__" = true) (x_NoName_k : PySem.W.keepIn K (.ref C_NoName) = true) (x_NoName_b : PySem.W.subIn K (.ref C_NoName) (.type "BaseException") = some true) (x_NoName_t : PySem.W.typeIn K (.ref C_NoName) = some (.type "type")) (x_NoName_i : PySem.W.isClsIn K C_NoName = true) (x_NoName_h : PySem.W.hasDictIn K C_NoName = true) (x_NoName_v : PySem.W.subIn K (.ref C_NoName) (.type "ValueError") = some true) (x_NoName_s : PySem.W.subIn K (.ref C_NoName) (.ref C_NoName) = some true) (x_NoName_1 : PySem.W.findIn K (.ref C_NoName) "__getattribute__" = some (some (.builtin "BaseException.__getattribute__"))) (x_NoName_2 : PySem.W.findIn K (.ref C_NoName) "__getattr__" = some none) (x_NoName_3 : PySem.W.findIn K (.ref C_NoName) "__class__" = some (some (.builtin "object.__class__"))) (x_NoName_4 : PySem.W.specialIn K (.builtin "object.__class__") "__get__" = some (some (.builtin "getset_descriptor.__get__"))) (x_NoName_5 : PySem.W.takesIn K (.builtin "object.__class__") = some true) (x_NoName_6 : PySem.W.mroIn K C_NoName (.type "object") = some true)
    (x_Taken_g : PySem.W.nsIn K mainGlobals "Taken" = some (some (.ref C_Taken))) (x_Taken_x : PySem.W.excIn K C_Taken [.type "ValueError", .type "Exception", .type "BaseException", .type "object"] "ValueError.__new__" = true) (x_Taken_k : PySem.W.keepIn K (.ref C_Taken) = true) (x_Taken_b : PySem.W.subIn K (.ref C_Taken) (.type "BaseException") = some true) (x_Taken_t : PySem.W.typeIn K (.ref C_Taken) = some (.type "type")) (x_Taken_i : PySem.W.isClsIn K C_Taken = true) (x_Taken_h : PySem.W.hasDictIn K C_Taken = true) (x_Taken_v : PySem.W.subIn K (.ref C_Taken) (.type "ValueError") = some true) (x_Taken_s : PySem.W.subIn K (.ref C_Taken) (.ref C_Taken) = some true) (x_Taken_1 : PySem.W.findIn K (.ref C_Taken) "__getattribute__" = some (some (.builtin "BaseException.__getattribute__"))) (x_Taken_2 : PySem.W.findIn K (.ref C_Taken) "__getattr__" = some none) (x_Taken_3 : PySem.W.findIn K (.ref C_Taken) "__class__" = some (some (.builtin "object.__class__"))) (x_Taken_4 : PySem.W.specialIn K (.builtin "object.__class__") "__get__" = some (some (.builtin "getset_descriptor.__get__"))) (x_Taken_5 : PySem.W.takesIn K (.builtin "object.__class__") = some true) (x_Taken_6 : PySem.W.mroIn K C_Taken (.type "object") = some true)
    (x_Stranger_g : PySem.W.nsIn K mainGlobals "Stranger" = some (some (.ref C_Stranger))) (x_Stranger_x : PySem.W.excIn K C_Stranger [.type "ValueError", .type "Exception", .type "BaseException", .type "object"] "ValueError.__new__" = true) (x_Stranger_k : PySem.W.keepIn K (.ref C_Stranger) = true) (x_Stranger_b : PySem.W.subIn K (.ref C_Stranger) (.type "BaseException") = some true) (x_Stranger_t : PySem.W.typeIn K (.ref C_Stranger) = some (.type "type")) (x_Stranger_i : PySem.W.isClsIn K C_Stranger = true) (x_Stranger_h : PySem.W.hasDictIn K C_Stranger = true) (x_Stranger_v : PySem.W.subIn K (.ref C_Stranger) (.type "ValueError") = some true) (x_Stranger_s : PySem.W.subIn K (.ref C_Stranger) (.ref C_Stranger) = some true) (x_Stranger_1 : PySem.W.findIn K (.ref C_Stranger) "__getattribute__" = some (some (.builtin "BaseException.__getattribute__"))) (x_Stranger_2 : PySem.W.findIn K (.ref C_Stranger) "__getattr__" = some none) (x_Stranger_3 : PySem.W.findIn K (.ref C_Stranger) "__class__" = some (some (.builtin "object.__class__"))) (x_Stranger_4 : PySem.W.specialIn K (.builtin "object.__class__") "__get__" = some (some (.builtin "getset_descriptor.__get__"))) (x_Stranger_5 : PySem.W.takesIn K (.builtin "object.__class__") = some true) (x_Stranger_6 : PySem.W.mroIn K C_Stranger (.type "object") = some true)
    (x_Twice_g : PySem.W.nsIn K mainGlobals "Twice" = some (some (.ref C_Twice))) (x_Twice_x : PySem.W.excIn K C_Twice [.type "ValueError", .type "Exception", .type "BaseException", .type "object"] "ValueError.__new__" = true) (x_Twice_k : PySem.W.keepIn K (.ref C_Twice) = true) (x_Twice_b : PySem.W.subIn K (.ref C_Twice) (.type "BaseException") = some true) (x_Twice_t : PySem.W.typeIn K (.ref C_Twice) = some (.type "type")) (x_Twice_i : PySem.W.isClsIn K C_Twice = true) (x_Twice_h : PySem.W.hasDictIn K C_Twice = true) (x_Twice_v : PySem.W.subIn K (.ref C_Twice) (.type "ValueError") = some true) (x_Twice_s : PySem.W.subIn K (.ref C_Twice) (.ref C_Twice) = some true) (x_Twice_1 : PySem.W.findIn K (.ref C_Twice) "__getattribute__" = some (some (.builtin "BaseException.__getattribute__"))) (x_Twice_2 : PySem.W.findIn K (.ref C_Twice) "__getattr__" = some none) (x_Twice_3 : PySem.W.findIn K (.ref C_Twice) "__class__" = some (some (.builtin "object.__class__"))) (x_Twice_4 : PySem.W.specialIn K (.builtin "object.__class__") "__get__" = some (some (.builtin "getset_descriptor.__get__"))) (x_Twice_5 : PySem.W.takesIn K (.builtin "object.__class__") = some true) (x_Twice_6 : PySem.W.mroIn K C_Twice (.type "object") = some true)
    (x_NoTime_g : PySem.W.nsIn K mainGlobals "NoTime" = some (some (.ref C_NoTime))) (x_NoTime_x : PySem.W.excIn K C_NoTime [.type "ValueError", .type "Exception", .type "BaseException", .type "object"] "ValueError.__new__" = true) (x_NoTime_k : PySem.W.keepIn K (.ref C_NoTime) = true) (x_NoTime_b : PySem.W.subIn K (.ref C_NoTime) (.type "BaseException") = some true) (x_NoTime_t : PySem.W.typeIn K (.ref C_NoTime) = some (.type "type")) (x_NoTime_i : PySem.W.isClsIn K C_NoTime = true) (x_NoTime_h : PySem.W.hasDictIn K C_NoTime = true) (x_NoTime_v : PySem.W.subIn K (.ref C_NoTime) (.type "ValueError") = some true) (x_NoTime_s : PySem.W.subIn K (.ref C_NoTime) (.ref C_NoTime) = some true) (x_NoTime_1 : PySem.W.findIn K (.ref C_NoTime) "__getattribute__" = some (some (.builtin "BaseException.__getattribute__"))) (x_NoTime_2 : PySem.W.findIn K (.ref C_NoTime) "__getattr__" = some none) (x_NoTime_3 : PySem.W.findIn K (.ref C_NoTime) "__class__" = some (some (.builtin "object.__class__"))) (x_NoTime_4 : PySem.W.specialIn K (.builtin "object.__class__") "__get__" = some (some (.builtin "getset_descriptor.__get__"))) (x_NoTime_5 : PySem.W.takesIn K (.builtin "object.__class__") = some true) (x_NoTime_6 : PySem.W.mroIn K C_NoTime (.type "object") = some true)
    (x_NoMeeting_g : PySem.W.nsIn K mainGlobals "NoMeeting" = some (some (.ref C_NoMeeting))) (x_NoMeeting_x : PySem.W.excIn K C_NoMeeting [.type "ValueError", .type "Exception", .type "BaseException", .type "object"] "ValueError.__new__" = true) (x_NoMeeting_k : PySem.W.keepIn K (.ref C_NoMeeting) = true) (x_NoMeeting_b : PySem.W.subIn K (.ref C_NoMeeting) (.type "BaseException") = some true) (x_NoMeeting_t : PySem.W.typeIn K (.ref C_NoMeeting) = some (.type "type")) (x_NoMeeting_i : PySem.W.isClsIn K C_NoMeeting = true) (x_NoMeeting_h : PySem.W.hasDictIn K C_NoMeeting = true) (x_NoMeeting_v : PySem.W.subIn K (.ref C_NoMeeting) (.type "ValueError") = some true) (x_NoMeeting_s : PySem.W.subIn K (.ref C_NoMeeting) (.ref C_NoMeeting) = some true) (x_NoMeeting_1 : PySem.W.findIn K (.ref C_NoMeeting) "__getattribute__" = some (some (.builtin "BaseException.__getattribute__"))) (x_NoMeeting_2 : PySem.W.findIn K (.ref C_NoMeeting) "__getattr__" = some none) (x_NoMeeting_3 : PySem.W.findIn K (.ref C_NoMeeting) "__class__" = some (some (.builtin "object.__class__"))) (x_NoMeeting_4 : PySem.W.specialIn K (.builtin "object.__class__") "__get__" = some (some (.builtin "getset_descriptor.__get__"))) (x_NoMeeting_5 : PySem.W.takesIn K (.builtin "object.__class__") = some true) (x_NoMeeting_6 : PySem.W.mroIn K C_NoMeeting (.type "object") = some true)
    (x_Clash_g : PySem.W.nsIn K mainGlobals "Clash" = some (some (.ref C_Clash))) (x_Clash_x : PySem.W.excIn K C_Clash [.type "ValueError", .type "Exception", .type "BaseException", .type "object"] "ValueError.__new__" = true) (x_Clash_k : PySem.W.keepIn K (.ref C_Clash) = true) (x_Clash_b : PySem.W.subIn K (.ref C_Clash) (.type "BaseException") = some true) (x_Clash_t : PySem.W.typeIn K (.ref C_Clash) = some (.type "type")) (x_Clash_i : PySem.W.isClsIn K C_Clash = true) (x_Clash_h : PySem.W.hasDictIn K C_Clash = true) (x_Clash_v : PySem.W.subIn K (.ref C_Clash) (.type "ValueError") = some true) (x_Clash_s : PySem.W.subIn K (.ref C_Clash) (.ref C_Clash) = some true) (x_Clash_1 : PySem.W.findIn K (.ref C_Clash) "__getattribute__" = some (some (.builtin "BaseException.__getattribute__"))) (x_Clash_2 : PySem.W.findIn K (.ref C_Clash) "__getattr__" = some none) (x_Clash_3 : PySem.W.findIn K (.ref C_Clash) "__class__" = some (some (.builtin "object.__class__"))) (x_Clash_4 : PySem.W.specialIn K (.builtin "object.__class__") "__get__" = some (some (.builtin "getset_descriptor.__get__"))) (x_Clash_5 : PySem.W.takesIn K (.builtin "object.__class__") = some true) (x_Clash_6 : PySem.W.mroIn K C_Clash (.type "object") = some true) :
    ∃ fd : FuncData, (∀ (s : Shared) (v : Value), BindsTo s fd ⟨[v], []⟩ [("_law_script", v)]) ∧ ∀ base : Heap, K.In base → base.Ns mainGlobals mg → LawRun l.prog w K mg base fa fd "_law_script" (spV K rLaw) := by
  have e := hfa.symm.trans (PySem.W.mg_of X G a60)
  cases e
  have T : Txt K mg a_MONTHS a_BEARING C_HourError C_NoRule C_NoName C_Taken C_Stranger C_Twice C_NoTime C_NoMeeting C_Clash C_Book := ⟨fnT_mk X G a0 l0 c0 k0, fnT_mk X G a1 l1 c1 k1, fnT_mk X G a2 l2 c2 k2, fnT_mk X G a3 l3 c3 k3, fnT_mk X G a4 l4 c4 k4, fnT_mk X G a5 l5 c5 k5, fnT_mk X G a6 l6 c6 k6, fnT_mk X G a7 l7 c7 k7, fnT_mk X G a8 l8 c8 k8, fnT_mk X G a9 l9 c9 k9, fnT_mk X G a10 l10 c10 k10, fnT_mk X G a11 l11 c11 k11, fnT_mk X G a12 l12 c12 k12, fnT_mk X G a13 l13 c13 k13, fnT_mk X G a14 l14 c14 k14, fnT_mk X G a15 l15 c15 k15, fnT_mk X G a16 l16 c16 k16, fnT_mk X G a17 l17 c17 k17, fnT_mk X G a18 l18 c18 k18, fnT_mk X G a19 l19 c19 k19, fnT_mk X G a20 l20 c20 k20, fnT_mk X G a21 l21 c21 k21, fnT_mk X G a22 l22 c22 k22, fnT_mk X G a23 l23 c23 k23, fnT_mk X G a24 l24 c24 k24, fnT_mk X G a25 l25 c25 k25, fnT_mk X G a26 l26 c26 k26, fnT_mk X G a27 l27 c27 k27, fnT_mk X G a28 l28 c28 k28, fnT_mk X G a29 l29 c29 k29, fnT_mk X G a30 l30 c30 k30, fnT_mk X G a31 l31 c31 k31, fnT_mk X G a32 l32 c32 k32, fnT_mk X G a33 l33 c33 k33, fnT_mk X G a34 l34 c34 k34, fnT_mk X G a35 l35 c35 k35, fnT_mk X G a36 l36 c36 k36, fnT_mk X G a37 l37 c37 k37, fnT_mk X G a38 l38 c38 k38, fnT_mk X G a39 l39 c39 k39, fnT_mk X G a40 l40 c40 k40, fnT_mk X G a41 l41 c41 k41, fnT_mk X G a42 l42 c42 k42, fnT_mk X G a43 l43 c43 k43, fnT_mk X G a44 l44 c44 k44, fnT_mk X G a45 l45 c45 k45, fnT_mk X G a46 l46 c46 k46, mkT_mk X G g_Book mk_Book kc_Book a47 i47 l47 c47 k47, mtT_mk a48 i48 l48 c48 k48, mtT_mk a49 i49 l49 c49 k49, mtT_mk a50 i50 l50 c50 k50, mtT_mk a51 i51 l51 c51 k51, mtT_mk a52 i52 l52 c52 k52, mtT_mk a53 i53 l53 c53 k53, mtT_mk a54 i54 l54 c54 k54, mtT_mk a55 i55 l55 c55 k55, mtT_mk a56 i56 l56 c56 k56, mtT_mk a57 i57 l57 c57 k57, mtT_mk a58 i58 l58 c58 k58, mtT_mk a59 i59 l59 c59 k59, fnT_mk X G a60 l60 c60 k60, ⟨pg_Book, hd_Book, po_Book, sa_Book⟩, n_booked, n_given, n_known, PySem.W.mg_none_of X G b_all, PySem.W.mg_none_of X G b_any, PySem.W.mg_none_of X G b_bool, PySem.W.mg_none_of X G b_int, PySem.W.mg_none_of X G b_isinstance, PySem.W.mg_none_of X G b_len, PySem.W.mg_none_of X G b_list, PySem.W.mg_none_of X G b_max, PySem.W.mg_none_of X G b_min, PySem.W.mg_none_of X G b_range, PySem.W.mg_none_of X G b_repr, PySem.W.mg_none_of X G b_reversed, PySem.W.mg_none_of X G b_set, PySem.W.mg_none_of X G b_str, PySem.W.mg_none_of X G b_tuple, gdat_mk X G ([V.int (31), V.int (28), V.int (31), V.int (30), V.int (31), V.int (30), V.int (31), V.int (31), V.int (30), V.int (31), V.int (30), V.int (31)]) g_MONTHS l_MONTHS v_MONTHS (by decide) (fun B => (.cons (.int _) (.cons (.int _) (.cons (.int _) (.cons (.int _) (.cons (.int _) (.cons (.int _) (.cons (.int _) (.cons (.int _) (.cons (.int _) (.cons (.int _) (.cons (.int _) (.cons (.int _) .nil))))))))))))), gint_mk X G g_FOUR_YEARS, gint_mk X G g_TIMES, gint_mk X G g_DAYS, gint_mk X G g_LONGEST, gint_mk X G g_MOST_STEP, gint_mk X G g_DEEPEST, gdat_mk X G ([V.str "from", V.str "until", V.str "also", V.str "but"]) g_BEARING l_BEARING v_BEARING (by decide) (fun B => (.cons (.str _) (.cons (.str _) (.cons (.str _) (.cons (.str _) .nil))))), gstr_mk X G g_LETTERS, gint_mk X G g_MOST_SIGNS, gint_mk X G g_MOST_RULES, gint_mk X G g_STRETCH, xcT_mk X G x_HourError_g x_HourError_x x_HourError_k x_HourError_b x_HourError_t x_HourError_i x_HourError_h x_HourError_v x_HourError_s x_HourError_1 x_HourError_2 x_HourError_3 x_HourError_4 x_HourError_5 x_HourError_6, xcT_mk X G x_NoRule_g x_NoRule_x x_NoRule_k x_NoRule_b x_NoRule_t x_NoRule_i x_NoRule_h x_NoRule_v x_NoRule_s x_NoRule_1 x_NoRule_2 x_NoRule_3 x_NoRule_4 x_NoRule_5 x_NoRule_6, xcT_mk X G x_NoName_g x_NoName_x x_NoName_k x_NoName_b x_NoName_t x_NoName_i x_NoName_h x_NoName_v x_NoName_s x_NoName_1 x_NoName_2 x_NoName_3 x_NoName_4 x_NoName_5 x_NoName_6, xcT_mk X G x_Taken_g x_Taken_x x_Taken_k x_Taken_b x_Taken_t x_Taken_i x_Taken_h x_Taken_v x_Taken_s x_Taken_1 x_Taken_2 x_Taken_3 x_Taken_4 x_Taken_5 x_Taken_6, xcT_mk X G x_Stranger_g x_Stranger_x x_Stranger_k x_Stranger_b x_Stranger_t x_Stranger_i x_Stranger_h x_Stranger_v x_Stranger_s x_Stranger_1 x_Stranger_2 x_Stranger_3 x_Stranger_4 x_Stranger_5 x_Stranger_6, xcT_mk X G x_Twice_g x_Twice_x x_Twice_k x_Twice_b x_Twice_t x_Twice_i x_Twice_h x_Twice_v x_Twice_s x_Twice_1 x_Twice_2 x_Twice_3 x_Twice_4 x_Twice_5 x_Twice_6, xcT_mk X G x_NoTime_g x_NoTime_x x_NoTime_k x_NoTime_b x_NoTime_t x_NoTime_i x_NoTime_h x_NoTime_v x_NoTime_s x_NoTime_1 x_NoTime_2 x_NoTime_3 x_NoTime_4 x_NoTime_5 x_NoTime_6, xcT_mk X G x_NoMeeting_g x_NoMeeting_x x_NoMeeting_k x_NoMeeting_b x_NoMeeting_t x_NoMeeting_i x_NoMeeting_h x_NoMeeting_v x_NoMeeting_s x_NoMeeting_1 x_NoMeeting_2 x_NoMeeting_3 x_NoMeeting_4 x_NoMeeting_5 x_NoMeeting_6, xcT_mk X G x_Clash_g x_Clash_x x_Clash_k x_Clash_b x_Clash_t x_Clash_i x_Clash_h x_Clash_v x_Clash_s x_Clash_1 x_Clash_2 x_Clash_3 x_Clash_4 x_Clash_5 x_Clash_6⟩
  refine ⟨PySem.W.fnOf "law" "law" (defArgs s_law) (defBody s_law) (defScope s_law) .none kV60 dc60 pm60 an60 cd60 ct60, fun s v => .of_eq rfl, fun base _ _ => ?_⟩
  have d__law_far := ok__law_far (P := l.prog) (w := w) (base := base) T
  have d__law_cell_at := ok__law_cell_at (P := l.prog) (w := w) (base := base) T
  have d__law_weekdays := ok__law_weekdays (P := l.prog) (w := w) (base := base) T
  have d__law_plain_by := ok__law_plain_by (P := l.prog) (w := w) (base := base) T d__law_weekdays
  have d__law_free_by := ok__law_free_by (P := l.prog) (w := w) (base := base) T d__law_plain_by d__law_weekdays
  have d__law_head_by := ok__law_head_by (P := l.prog) (w := w) (base := base) T
  have d__law_name_by := ok__law_name_by (P := l.prog) (w := w) (base := base) T
  have d__law_people_by := ok__law_people_by (P := l.prog) (w := w) (base := base) T d__law_cell_at d__law_free_by d__law_head_by d__law_plain_by d__law_name_by
  have d_Book_init := ok_Book_init (P := l.prog) (w := w) (base := base) T
  have d_is_name := ok_is_name (P := l.prog) (w := w) (base := base) T
  have d_is_whole := ok_is_whole (P := l.prog) (w := w) (base := base) T
  have d_is_between := ok_is_between (P := l.prog) (w := w) (base := base) T d_is_whole
  have d_is_row := ok_is_row (P := l.prog) (w := w) (base := base) T d_is_between
  have d_is_time := ok_is_time (P := l.prog) (w := w) (base := base) T d_is_between
  have d_is_length := ok_is_length (P := l.prog) (w := w) (base := base) T d_is_between
  have d_is_plain := ok_is_plain (P := l.prog) (w := w) (base := base) T d_is_row d_is_between d_is_time d_is_length
  have d_is_rule := ok_is_rule (P := l.prog) (w := w) (base := base) T d_is_plain d_is_row d_is_time
  have d_Book_come := ok_Book_come (P := l.prog) (w := w) (base := base) T d_is_name d_is_rule
  have d_Book_need := ok_Book_need (P := l.prog) (w := w) (base := base) T
  have d_innermost := ok_innermost (P := l.prog) (w := w) (base := base) T
  have d_length_of := ok_length_of (P := l.prog) (w := w) (base := base) T d_innermost
  have d_month_days := ok_month_days (P := l.prog) (w := w) (base := base) T
  have d_date_of := ok_date_of (P := l.prog) (w := w) (base := base) T d_month_days
  have d_from_end := ok_from_end (P := l.prog) (w := w) (base := base) T d_date_of d_month_days
  have d_plain_begins := ok_plain_begins (P := l.prog) (w := w) (base := base) T d_from_end d_date_of
  have d_begins := ok_begins (P := l.prog) (w := w) (base := base) T d_plain_begins
  have d_covers := ok_covers (P := l.prog) (w := w) (base := base) T d_length_of d_begins
  have d_Book_busy := ok_Book_busy (P := l.prog) (w := w) (base := base) T d_Book_need d_is_rule d_covers
  have d__law_book_of := ok__law_book_of (P := l.prog) (w := w) (base := base) T d_Book_init d_Book_come d_Book_busy
  have d__law_in_time := ok__law_in_time (P := l.prog) (w := w) (base := base) T
  have d_Book_named := ok_Book_named (P := l.prog) (w := w) (base := base) T d_Book_need
  have d_Book_is_open := ok_Book_is_open (P := l.prog) (w := w) (base := base) T d_covers
  have d_blocked := ok_blocked (P := l.prog) (w := w) (base := base) T d_Book_is_open
  have d_search := ok_search (P := l.prog) (w := w) (base := base) T d_blocked
  have d_Book_stretch := ok_Book_stretch (P := l.prog) (w := w) (base := base) T d_is_time
  have d_Book_first := ok_Book_first (P := l.prog) (w := w) (base := base) T d_Book_named d_search d_is_length d_Book_stretch
  have d__law_whole := ok__law_whole (P := l.prog) (w := w) (base := base) T
  have d__law_is_told := ok__law_is_told (P := l.prog) (w := w) (base := base) T d__law_whole
  have d__law_bearing := ok__law_bearing (P := l.prog) (w := w) (base := base) T
  have d__law_heads := ok__law_heads (P := l.prog) (w := w) (base := base) T d__law_bearing
  have d__law_size := ok__law_size (P := l.prog) (w := w) (base := base) T d__law_heads
  have d__law_days := ok__law_days (P := l.prog) (w := w) (base := base) T
  have d__law_in_month := ok__law_in_month (P := l.prog) (w := w) (base := base) T d__law_days
  have d__law_plain_begins := ok__law_plain_begins (P := l.prog) (w := w) (base := base) T d__law_in_month
  have d__law_begun := ok__law_begun (P := l.prog) (w := w) (base := base) T d__law_heads d__law_plain_begins
  have d__law_lasts := ok__law_lasts (P := l.prog) (w := w) (base := base) T d__law_size d__law_begun
  have d__law_open := ok__law_open (P := l.prog) (w := w) (base := base) T d__law_lasts
  have d__law_all_open := ok__law_all_open (P := l.prog) (w := w) (base := base) T d__law_open
  have d__law_row_holds := ok__law_row_holds (P := l.prog) (w := w) (base := base) T d__law_whole d__law_open
  have d__law_holds := ok__law_holds (P := l.prog) (w := w) (base := base) T d__law_all_open d__law_row_holds
  have d__law_asked := ok__law_asked (P := l.prog) (w := w) (base := base) T d_Book_first d__law_is_told d__law_holds
  have d_Book_meet := ok_Book_meet (P := l.prog) (w := w) (base := base) T d_Book_first
  have d__law_busier := ok__law_busier (P := l.prog) (w := w) (base := base) T d_Book_busy
  have d_Book_place := ok_Book_place (P := l.prog) (w := w) (base := base) T d_is_whole
  have d_Book_move := ok_Book_move (P := l.prog) (w := w) (base := base) T d_Book_place d_search d_Book_stretch
  have d__law_taken := ok__law_taken (P := l.prog) (w := w) (base := base) T d_Book_meet d_Book_move
  have d_Book_drop := ok_Book_drop (P := l.prog) (w := w) (base := base) T d_Book_place
  have d__law_asked_again := ok__law_asked_again (P := l.prog) (w := w) (base := base) T d_Book_meet d__law_in_time d_Book_move d_Book_drop d__law_asked d__law_cell_at
  exact ok_law (P := l.prog) (w := w) (base := base) T d__law_far d__law_people_by d__law_book_of d__law_in_time d__law_asked d__law_cell_at d_Book_meet d__law_busier d__law_taken d_Book_come d__law_asked_again _ _ (fun_mk (st := s_law) l60 c60 k60)
end K11
open PySem PySem.W PyProof.Rows
set_option maxRecDepth 100000 in
set_option maxHeartbeats 0 in
theorem PySem.Challenge.cw_freehour_k11_whole_why_no_earlier_holds : PySem.Challenge.rw_freehour_k11_whole_why_no_earlier.Holds := by
  w_on; o_law; k_head; (case hw => w_witness2)
  k_fill
  refine Pd.law_walkG (x := "_law_script") (l := PySem.Challenge.rw_freehour_k11_whole_why_no_earlier) rfl rfl (fun w h Y => PySem.W.kIn_of Y) ?F
  case F =>
    intro w mg fa h KX G hmg
    refine' K11.all_mk KX G hmg ?g_Book ?pg_Book ?hd_Book ?po_Book ?sa_Book ?mk_Book ?kc_Book ?n_booked ?n_given ?n_known ?a0 ?l0 ?c0 ?k0 ?a1 ?l1 ?c1 ?k1 ?a2 ?l2 ?c2 ?k2 ?a3 ?l3 ?c3 ?k3 ?a4 ?l4 ?c4 ?k4 ?a5 ?l5 ?c5 ?k5 ?a6 ?l6 ?c6 ?k6 ?a7 ?l7 ?c7 ?k7 ?a8 ?l8 ?c8 ?k8 ?a9 ?l9 ?c9 ?k9 ?a10 ?l10 ?c10 ?k10 ?a11 ?l11 ?c11 ?k11 ?a12 ?l12 ?c12 ?k12 ?a13 ?l13 ?c13 ?k13 ?a14 ?l14 ?c14 ?k14 ?a15 ?l15 ?c15 ?k15 ?a16 ?l16 ?c16 ?k16 ?a17 ?l17 ?c17 ?k17 ?a18 ?l18 ?c18 ?k18 ?a19 ?l19 ?c19 ?k19 ?a20 ?l20 ?c20 ?k20 ?a21 ?l21 ?c21 ?k21 ?a22 ?l22 ?c22 ?k22 ?a23 ?l23 ?c23 ?k23 ?a24 ?l24 ?c24 ?k24 ?a25 ?l25 ?c25 ?k25 ?a26 ?l26 ?c26 ?k26 ?a27 ?l27 ?c27 ?k27 ?a28 ?l28 ?c28 ?k28 ?a29 ?l29 ?c29 ?k29 ?a30 ?l30 ?c30 ?k30 ?a31 ?l31 ?c31 ?k31 ?a32 ?l32 ?c32 ?k32 ?a33 ?l33 ?c33 ?k33 ?a34 ?l34 ?c34 ?k34 ?a35 ?l35 ?c35 ?k35 ?a36 ?l36 ?c36 ?k36 ?a37 ?l37 ?c37 ?k37 ?a38 ?l38 ?c38 ?k38 ?a39 ?l39 ?c39 ?k39 ?a40 ?l40 ?c40 ?k40 ?a41 ?l41 ?c41 ?k41 ?a42 ?l42 ?c42 ?k42 ?a43 ?l43 ?c43 ?k43 ?a44 ?l44 ?c44 ?k44 ?a45 ?l45 ?c45 ?k45 ?a46 ?l46 ?c46 ?k46 ?a47 ?i47 ?l47 ?c47 ?k47 ?a48 ?i48 ?l48 ?c48 ?k48 ?a49 ?i49 ?l49 ?c49 ?k49 ?a50 ?i50 ?l50 ?c50 ?k50 ?a51 ?i51 ?l51 ?c51 ?k51 ?a52 ?i52 ?l52 ?c52 ?k52 ?a53 ?i53 ?l53 ?c53 ?k53 ?a54 ?i54 ?l54 ?c54 ?k54 ?a55 ?i55 ?l55 ?c55 ?k55 ?a56 ?i56 ?l56 ?c56 ?k56 ?a57 ?i57 ?l57 ?c57 ?k57 ?a58 ?i58 ?l58 ?c58 ?k58 ?a59 ?i59 ?l59 ?c59 ?k59 ?a60 ?l60 ?c60 ?k60 ?b_all ?b_any ?b_bool ?b_int ?b_isinstance ?b_len ?b_list ?b_max ?b_min ?b_range ?b_repr ?b_reversed ?b_set ?b_str ?b_tuple ?g_MONTHS ?l_MONTHS ?v_MONTHS ?g_FOUR_YEARS ?g_TIMES ?g_DAYS ?g_LONGEST ?g_MOST_STEP ?g_DEEPEST ?g_BEARING ?l_BEARING ?v_BEARING ?g_LETTERS ?g_MOST_SIGNS ?g_MOST_RULES ?g_STRETCH ?x_HourError_g ?x_HourError_x ?x_HourError_k ?x_HourError_b ?x_HourError_t ?x_HourError_i ?x_HourError_h ?x_HourError_v ?x_HourError_s ?x_HourError_1 ?x_HourError_2 ?x_HourError_3 ?x_HourError_4 ?x_HourError_5 ?x_HourError_6 ?x_NoRule_g ?x_NoRule_x ?x_NoRule_k ?x_NoRule_b ?x_NoRule_t ?x_NoRule_i ?x_NoRule_h ?x_NoRule_v ?x_NoRule_s ?x_NoRule_1 ?x_NoRule_2 ?x_NoRule_3 ?x_NoRule_4 ?x_NoRule_5 ?x_NoRule_6 ?x_NoName_g ?x_NoName_x ?x_NoName_k ?x_NoName_b ?x_NoName_t ?x_NoName_i ?x_NoName_h ?x_NoName_v ?x_NoName_s ?x_NoName_1 ?x_NoName_2 ?x_NoName_3 ?x_NoName_4 ?x_NoName_5 ?x_NoName_6 ?x_Taken_g ?x_Taken_x ?x_Taken_k ?x_Taken_b ?x_Taken_t ?x_Taken_i ?x_Taken_h ?x_Taken_v ?x_Taken_s ?x_Taken_1 ?x_Taken_2 ?x_Taken_3 ?x_Taken_4 ?x_Taken_5 ?x_Taken_6 ?x_Stranger_g ?x_Stranger_x ?x_Stranger_k ?x_Stranger_b ?x_Stranger_t ?x_Stranger_i ?x_Stranger_h ?x_Stranger_v ?x_Stranger_s ?x_Stranger_1 ?x_Stranger_2 ?x_Stranger_3 ?x_Stranger_4 ?x_Stranger_5 ?x_Stranger_6 ?x_Twice_g ?x_Twice_x ?x_Twice_k ?x_Twice_b ?x_Twice_t ?x_Twice_i ?x_Twice_h ?x_Twice_v ?x_Twice_s ?x_Twice_1 ?x_Twice_2 ?x_Twice_3 ?x_Twice_4 ?x_Twice_5 ?x_Twice_6 ?x_NoTime_g ?x_NoTime_x ?x_NoTime_k ?x_NoTime_b ?x_NoTime_t ?x_NoTime_i ?x_NoTime_h ?x_NoTime_v ?x_NoTime_s ?x_NoTime_1 ?x_NoTime_2 ?x_NoTime_3 ?x_NoTime_4 ?x_NoTime_5 ?x_NoTime_6 ?x_NoMeeting_g ?x_NoMeeting_x ?x_NoMeeting_k ?x_NoMeeting_b ?x_NoMeeting_t ?x_NoMeeting_i ?x_NoMeeting_h ?x_NoMeeting_v ?x_NoMeeting_s ?x_NoMeeting_1 ?x_NoMeeting_2 ?x_NoMeeting_3 ?x_NoMeeting_4 ?x_NoMeeting_5 ?x_NoMeeting_6 ?x_Clash_g ?x_Clash_x ?x_Clash_k ?x_Clash_b ?x_Clash_t ?x_Clash_i ?x_Clash_h ?x_Clash_v ?x_Clash_s ?x_Clash_1 ?x_Clash_2 ?x_Clash_3 ?x_Clash_4 ?x_Clash_5 ?x_Clash_6
    (case g_Book => k_is); (case pg_Book => k_is); (case hd_Book => k_is); (case po_Book => k_is); (case sa_Book => k_is); (case mk_Book => k_is); (case kc_Book => k_is); (case n_booked => k_is)
    (case n_given => k_is); (case n_known => k_is); (case a0 => k_is); (case l0 => k_is); (case c0 => k_is); (case k0 => k_is); (case a1 => k_is); (case l1 => k_is)
    (case c1 => k_is); (case k1 => k_is); (case a2 => k_is); (case l2 => k_is); (case c2 => k_is); (case k2 => k_is); (case a3 => k_is); (case l3 => k_is)
    (case c3 => k_is); (case k3 => k_is); (case a4 => k_is); (case l4 => k_is); (case c4 => k_is); (case k4 => k_is); (case a5 => k_is); (case l5 => k_is)
    (case c5 => k_is); (case k5 => k_is); (case a6 => k_is); (case l6 => k_is); (case c6 => k_is); (case k6 => k_is); (case a7 => k_is); (case l7 => k_is)
    (case c7 => k_is); (case k7 => k_is); (case a8 => k_is); (case l8 => k_is); (case c8 => k_is); (case k8 => k_is); (case a9 => k_is); (case l9 => k_is)
    (case c9 => k_is); (case k9 => k_is); (case a10 => k_is); (case l10 => k_is); (case c10 => k_is); (case k10 => k_is); (case a11 => k_is); (case l11 => k_is)
    (case c11 => k_is); (case k11 => k_is); (case a12 => k_is); (case l12 => k_is); (case c12 => k_is); (case k12 => k_is); (case a13 => k_is); (case l13 => k_is)
    (case c13 => k_is); (case k13 => k_is); (case a14 => k_is); (case l14 => k_is); (case c14 => k_is); (case k14 => k_is); (case a15 => k_is); (case l15 => k_is)
    (case c15 => k_is); (case k15 => k_is); (case a16 => k_is); (case l16 => k_is); (case c16 => k_is); (case k16 => k_is); (case a17 => k_is); (case l17 => k_is)
    (case c17 => k_is); (case k17 => k_is); (case a18 => k_is); (case l18 => k_is); (case c18 => k_is); (case k18 => k_is); (case a19 => k_is); (case l19 => k_is)
    (case c19 => k_is); (case k19 => k_is); (case a20 => k_is); (case l20 => k_is); (case c20 => k_is); (case k20 => k_is); (case a21 => k_is); (case l21 => k_is)
    (case c21 => k_is); (case k21 => k_is); (case a22 => k_is); (case l22 => k_is); (case c22 => k_is); (case k22 => k_is); (case a23 => k_is); (case l23 => k_is)
    (case c23 => k_is); (case k23 => k_is); (case a24 => k_is); (case l24 => k_is); (case c24 => k_is); (case k24 => k_is); (case a25 => k_is); (case l25 => k_is)
    (case c25 => k_is); (case k25 => k_is); (case a26 => k_is); (case l26 => k_is); (case c26 => k_is); (case k26 => k_is); (case a27 => k_is); (case l27 => k_is)
    (case c27 => k_is); (case k27 => k_is); (case a28 => k_is); (case l28 => k_is); (case c28 => k_is); (case k28 => k_is); (case a29 => k_is); (case l29 => k_is)
    (case c29 => k_is); (case k29 => k_is); (case a30 => k_is); (case l30 => k_is); (case c30 => k_is); (case k30 => k_is); (case a31 => k_is); (case l31 => k_is)
    (case c31 => k_is); (case k31 => k_is); (case a32 => k_is); (case l32 => k_is); (case c32 => k_is); (case k32 => k_is); (case a33 => k_is); (case l33 => k_is)
    (case c33 => k_is); (case k33 => k_is); (case a34 => k_is); (case l34 => k_is); (case c34 => k_is); (case k34 => k_is); (case a35 => k_is); (case l35 => k_is)
    (case c35 => k_is); (case k35 => k_is); (case a36 => k_is); (case l36 => k_is); (case c36 => k_is); (case k36 => k_is); (case a37 => k_is); (case l37 => k_is)
    (case c37 => k_is); (case k37 => k_is); (case a38 => k_is); (case l38 => k_is); (case c38 => k_is); (case k38 => k_is); (case a39 => k_is); (case l39 => k_is)
    (case c39 => k_is); (case k39 => k_is); (case a40 => k_is); (case l40 => k_is); (case c40 => k_is); (case k40 => k_is); (case a41 => k_is); (case l41 => k_is)
    (case c41 => k_is); (case k41 => k_is); (case a42 => k_is); (case l42 => k_is); (case c42 => k_is); (case k42 => k_is); (case a43 => k_is); (case l43 => k_is)
    (case c43 => k_is); (case k43 => k_is); (case a44 => k_is); (case l44 => k_is); (case c44 => k_is); (case k44 => k_is); (case a45 => k_is); (case l45 => k_is)
    (case c45 => k_is); (case k45 => k_is); (case a46 => k_is); (case l46 => k_is); (case c46 => k_is); (case k46 => k_is); (case a47 => k_is); (case i47 => k_is)
    (case l47 => k_is); (case c47 => k_is); (case k47 => k_is); (case a48 => k_is); (case i48 => k_is); (case l48 => k_is); (case c48 => k_is); (case k48 => k_is)
    (case a49 => k_is); (case i49 => k_is); (case l49 => k_is); (case c49 => k_is); (case k49 => k_is); (case a50 => k_is); (case i50 => k_is); (case l50 => k_is)
    (case c50 => k_is); (case k50 => k_is); (case a51 => k_is); (case i51 => k_is); (case l51 => k_is); (case c51 => k_is); (case k51 => k_is); (case a52 => k_is)
    (case i52 => k_is); (case l52 => k_is); (case c52 => k_is); (case k52 => k_is); (case a53 => k_is); (case i53 => k_is); (case l53 => k_is); (case c53 => k_is)
    (case k53 => k_is); (case a54 => k_is); (case i54 => k_is); (case l54 => k_is); (case c54 => k_is); (case k54 => k_is); (case a55 => k_is); (case i55 => k_is)
    (case l55 => k_is); (case c55 => k_is); (case k55 => k_is); (case a56 => k_is); (case i56 => k_is); (case l56 => k_is); (case c56 => k_is); (case k56 => k_is)
    (case a57 => k_is); (case i57 => k_is); (case l57 => k_is); (case c57 => k_is); (case k57 => k_is); (case a58 => k_is); (case i58 => k_is); (case l58 => k_is)
    (case c58 => k_is); (case k58 => k_is); (case a59 => k_is); (case i59 => k_is); (case l59 => k_is); (case c59 => k_is); (case k59 => k_is); (case a60 => k_is)
    (case l60 => k_is); (case c60 => k_is); (case k60 => k_is); (case b_all => k_is); (case b_any => k_is); (case b_bool => k_is); (case b_int => k_is); (case b_isinstance => k_is)
    (case b_len => k_is); (case b_list => k_is); (case b_max => k_is); (case b_min => k_is); (case b_range => k_is); (case b_repr => k_is); (case b_reversed => k_is); (case b_set => k_is)
    (case b_str => k_is); (case b_tuple => k_is); (case g_MONTHS => k_is); (case l_MONTHS => k_is); (case v_MONTHS => rfl); (case g_FOUR_YEARS => k_is); (case g_TIMES => k_is); (case g_DAYS => k_is)
    (case g_LONGEST => k_is); (case g_MOST_STEP => k_is); (case g_DEEPEST => k_is); (case g_BEARING => k_is); (case l_BEARING => k_is); (case v_BEARING => rfl); (case g_LETTERS => k_is); (case g_MOST_SIGNS => k_is)
    (case g_MOST_RULES => k_is); (case g_STRETCH => k_is); (case x_HourError_g => k_is); (case x_HourError_x => k_exc); (case x_HourError_k => k_is); (case x_HourError_b => k_is); (case x_HourError_t => k_is); (case x_HourError_i => k_is)
    (case x_HourError_h => k_is); (case x_HourError_v => k_is); (case x_HourError_s => first | rfl | k_is); (case x_HourError_1 => k_is); (case x_HourError_2 => k_is); (case x_HourError_3 => k_is); (case x_HourError_4 => k_is); (case x_HourError_5 => k_is)
    (case x_HourError_6 => k_is); (case x_NoRule_g => k_is); (case x_NoRule_x => k_exc); (case x_NoRule_k => k_is); (case x_NoRule_b => k_is); (case x_NoRule_t => k_is); (case x_NoRule_i => k_is); (case x_NoRule_h => k_is)
    (case x_NoRule_v => k_is); (case x_NoRule_s => first | rfl | k_is); (case x_NoRule_1 => k_is); (case x_NoRule_2 => k_is); (case x_NoRule_3 => k_is); (case x_NoRule_4 => k_is); (case x_NoRule_5 => k_is); (case x_NoRule_6 => k_is)
    (case x_NoName_g => k_is); (case x_NoName_x => k_exc); (case x_NoName_k => k_is); (case x_NoName_b => k_is); (case x_NoName_t => k_is); (case x_NoName_i => k_is); (case x_NoName_h => k_is); (case x_NoName_v => k_is)
    (case x_NoName_s => first | rfl | k_is); (case x_NoName_1 => k_is); (case x_NoName_2 => k_is); (case x_NoName_3 => k_is); (case x_NoName_4 => k_is); (case x_NoName_5 => k_is); (case x_NoName_6 => k_is); (case x_Taken_g => k_is)
    (case x_Taken_x => k_exc); (case x_Taken_k => k_is); (case x_Taken_b => k_is); (case x_Taken_t => k_is); (case x_Taken_i => k_is); (case x_Taken_h => k_is); (case x_Taken_v => k_is); (case x_Taken_s => first | rfl | k_is)
    (case x_Taken_1 => k_is); (case x_Taken_2 => k_is); (case x_Taken_3 => k_is); (case x_Taken_4 => k_is); (case x_Taken_5 => k_is); (case x_Taken_6 => k_is); (case x_Stranger_g => k_is); (case x_Stranger_x => k_exc)
    (case x_Stranger_k => k_is); (case x_Stranger_b => k_is); (case x_Stranger_t => k_is); (case x_Stranger_i => k_is); (case x_Stranger_h => k_is); (case x_Stranger_v => k_is); (case x_Stranger_s => first | rfl | k_is); (case x_Stranger_1 => k_is)
    (case x_Stranger_2 => k_is); (case x_Stranger_3 => k_is); (case x_Stranger_4 => k_is); (case x_Stranger_5 => k_is); (case x_Stranger_6 => k_is); (case x_Twice_g => k_is); (case x_Twice_x => k_exc); (case x_Twice_k => k_is)
    (case x_Twice_b => k_is); (case x_Twice_t => k_is); (case x_Twice_i => k_is); (case x_Twice_h => k_is); (case x_Twice_v => k_is); (case x_Twice_s => first | rfl | k_is); (case x_Twice_1 => k_is); (case x_Twice_2 => k_is)
    (case x_Twice_3 => k_is); (case x_Twice_4 => k_is); (case x_Twice_5 => k_is); (case x_Twice_6 => k_is); (case x_NoTime_g => k_is); (case x_NoTime_x => k_exc); (case x_NoTime_k => k_is); (case x_NoTime_b => k_is)
    (case x_NoTime_t => k_is); (case x_NoTime_i => k_is); (case x_NoTime_h => k_is); (case x_NoTime_v => k_is); (case x_NoTime_s => first | rfl | k_is); (case x_NoTime_1 => k_is); (case x_NoTime_2 => k_is); (case x_NoTime_3 => k_is)
    (case x_NoTime_4 => k_is); (case x_NoTime_5 => k_is); (case x_NoTime_6 => k_is); (case x_NoMeeting_g => k_is); (case x_NoMeeting_x => k_exc); (case x_NoMeeting_k => k_is); (case x_NoMeeting_b => k_is); (case x_NoMeeting_t => k_is)
    (case x_NoMeeting_i => k_is); (case x_NoMeeting_h => k_is); (case x_NoMeeting_v => k_is); (case x_NoMeeting_s => first | rfl | k_is); (case x_NoMeeting_1 => k_is); (case x_NoMeeting_2 => k_is); (case x_NoMeeting_3 => k_is); (case x_NoMeeting_4 => k_is)
    (case x_NoMeeting_5 => k_is); (case x_NoMeeting_6 => k_is); (case x_Clash_g => k_is); (case x_Clash_x => k_exc); (case x_Clash_k => k_is); (case x_Clash_b => k_is); (case x_Clash_t => k_is); (case x_Clash_i => k_is)
    (case x_Clash_h => k_is); (case x_Clash_v => k_is); (case x_Clash_s => first | rfl | k_is); (case x_Clash_1 => k_is); (case x_Clash_2 => k_is); (case x_Clash_3 => k_is); (case x_Clash_4 => k_is); (case x_Clash_5 => k_is)
    (case x_Clash_6 => k_is)
