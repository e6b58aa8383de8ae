import PyProof.Rows.All
import Wide.All
import OpenK.AllK
import Wide.FinOn
import HandS.ForMost
import HandS.ForExc
import HandS.IsInst
import HandS.Conv
import HandS.Rev
import HandS.RevRange
import HandS.Zip
import HandS.Evl
import HandS.ExcIs
import HandS.More
import PyProof.ReprRoads
import HandS.Text
import KE.GoesRaise
import HandS.Deep
import HandS.Style
import HandS.TupAny
import PySem.Challenge.RW_freehour_k05_what_is_a_rule
set_option Elab.async false
set_option linter.all false
set_option maxRecDepth 100000
set_option maxHeartbeats 4000000
/-! Pure data: what code over data (none, bools, ints, texts, tuples, lists) evaluates to, without the heap in sight. -/
namespace Pd
open PySem L2

/-! ### heaps that grow -/
def Ex (H H' : Hp) : Prop := ∀ a o, H a = some o → H' a = some o
theorem Ex.rfl' {H : Hp} : Ex H H := fun _ _ h => h
theorem Ex.trans {H H1 H2 : Hp} (a : Ex H H1) (b : Ex H1 H2) : Ex H H2 := fun x o h => b x o (a x o h)
theorem Ex.new {H : Hp} {p : Addr} {o : HO} (h : H p = none) : Ex H (upd H p o) := fun a u e => by
  rw [upd_ne (ne_of_none e h)]; exact e
theorem Ex.mut {H H' : Hp} {p : Addr} {o : HO} (e : Ex H H') (h : H p = none) : Ex H (upd H' p o) := fun a u ha => by
  rw [upd_ne (ne_of_none ha h)]; exact e a u ha
theorem Ex.back {H H' : Hp} {p : Addr} (e : Ex H H') (h : H' p = none) : H p = none := by
  cases h1 : H p with
  | none => rfl
  | some o => rw [e p o h1] at h; cases h
theorem Ex.rd {H H' : Hp} {a : Addr} {u : HO} (e : Ex H H') (h : Rd H a u) : Rd H' a u := by
  rcases h with h | ⟨o, h⟩
  · exact .inl (e a _ h)
  · exact .inr ⟨o, e a _ h⟩
theorem Ex.sl {K : PySem.W.Frag} {H H' : Hp} {a : Addr} {xs : List V} (e : Ex H H') (h : SqL K H a xs) : SqL K H' a xs := by
  rcases h with h | h
  · exact .inl (e.rd h)
  · exact .inr h
theorem Ex.st {K : PySem.W.Frag} {H H' : Hp} {a : Addr} {xs : List V} (e : Ex H H') (h : SqT K H a xs) : SqT K H' a xs := by
  rcases h with h | h
  · exact .inl (e.rd h)
  · exact .inr h

mutual
theorem dpUp {K : PySem.W.Frag} {H H' : Hp} (e : Ex H H') : ∀ (d : PyData) (v : V), Dp K H v d → Dp K H' v d
  | .none, _, h => by cases h; exact .non
  | .bool b, _, h => by cases h; exact .bl b
  | .int i, _, h => by cases h; exact .int i
  | .str x, _, h => by cases h; exact .str x
  | .list ds, _, h => by cases h with | lst hs ha => exact .lst (e.sl hs) (dpUpAll e ds _ ha)
  | .tuple ds, _, h => by cases h with | tup hs ha => exact .tup (e.st hs) (dpUpAll e ds _ ha)
  | .dict _, _, h => by cases h
theorem dpUpAll {K : PySem.W.Frag} {H H' : Hp} (e : Ex H H') : ∀ (ds : List PyData) (vs : List V), DpAll K H vs ds → DpAll K H' vs ds
  | [], _, h => by cases h; exact .nil
  | d :: ds, _, h => by cases h with | cons h1 h2 => exact .cons (dpUp e d _ h1) (dpUpAll e ds _ h2)
end
theorem Ex.dp {K : PySem.W.Frag} {H H' : Hp} (e : Ex H H') {d : PyData} {v : V} (h : Dp K H v d) : Dp K H' v d := dpUp e d v h
theorem Ex.dpa {K : PySem.W.Frag} {H H' : Hp} (e : Ex H H') {ds : List PyData} {vs : List V} (h : DpAll K H vs ds) : DpAll K H' vs ds := dpUpAll e ds vs h

section
variable {K : PySem.W.Frag} {H : Hp}
theorem dpa_len : ∀ {ds : List PyData} {vs : List V}, DpAll K H vs ds → vs.length = ds.length
  | [], _, h => by cases h; rfl
  | _ :: ds, _, h => by cases h with | cons h1 h2 => simp [dpa_len h2]
theorem dpa_get : ∀ {ds : List PyData} {vs : List V} {i : Nat} {d : PyData}, DpAll K H vs ds → ds[i]? = some d → ∃ v, vs[i]? = some v ∧ Dp K H v d
  | [], _, _, _, _, e => by simp at e
  | _ :: _, _, 0, _, h, e => by cases h with | cons h1 h2 => simp at e; subst e; exact ⟨_, rfl, h1⟩
  | _ :: ds, _, i + 1, d, h, e => by
    cases h with
    | cons h1 h2 =>
      obtain ⟨v, e1, e2⟩ := dpa_get (i := i) h2 (by simpa using e)
      exact ⟨v, by simpa using e1, e2⟩
theorem dpa_getV : ∀ {ds : List PyData} {vs : List V} {i : Nat} {v : V}, DpAll K H vs ds → vs[i]? = some v → ∃ d, ds[i]? = some d ∧ Dp K H v d
  | [], _, _, _, h, e => by cases h; simp at e
  | _ :: _, _, 0, _, h, e => by cases h with | cons h1 h2 => simp at e; subst e; exact ⟨_, rfl, h1⟩
  | _ :: ds, _, i + 1, d, h, e => by
    cases h with
    | cons h1 h2 =>
      obtain ⟨v, e1, e2⟩ := dpa_getV (i := i) h2 (by simpa using e)
      exact ⟨v, by simpa using e1, e2⟩
theorem dpa_app : ∀ {ds es : List PyData} {vs ws : List V}, DpAll K H vs ds → DpAll K H ws es → DpAll K H (vs ++ ws) (ds ++ es)
  | [], _, _, _, h, g => by cases h; exact g
  | _ :: ds, _, _, _, h, g => by cases h with | cons h1 h2 => exact .cons h1 (dpa_app h2 g)
theorem dpa_take : ∀ (n : Nat) {ds : List PyData} {vs : List V}, DpAll K H vs ds → DpAll K H (vs.take n) (ds.take n)
  | 0, _, _, _ => by simp; exact .nil
  | _ + 1, [], _, h => by cases h; exact .nil
  | n + 1, _ :: _, _, h => by cases h with | cons h1 h2 => exact .cons h1 (dpa_take n h2)
theorem dpa_drop : ∀ (n : Nat) {ds : List PyData} {vs : List V}, DpAll K H vs ds → DpAll K H (vs.drop n) (ds.drop n)
  | 0, _, _, h => h
  | _ + 1, [], _, h => by cases h; exact .nil
  | n + 1, _ :: _, _, h => by cases h with | cons h1 h2 => exact dpa_drop n h2
theorem dpa_set : ∀ {ds : List PyData} {vs : List V} {d : PyData} {v : V} (n : Nat), DpAll K H vs ds → Dp K H v d → DpAll K H (vs.set n v) (ds.set n d)
  | [], _, _, _, _, h, _ => by cases h; exact .nil
  | _ :: _, _, _, _, 0, h, g => by cases h with | cons h1 h2 => exact .cons g h2
  | _ :: _, _, _, _, n + 1, h, g => by cases h with | cons h1 h2 => exact .cons h1 (dpa_set n h2 g)
theorem dpa_rev {ds : List PyData} {vs : List V} (h : DpAll K H vs ds) : DpAll K H vs.reverse ds.reverse := by
  induction ds generalizing vs with
  | nil => cases h; exact .nil
  | cons d ds ih =>
    cases h with
    | cons h1 h2 =>
      rw [List.reverse_cons, List.reverse_cons]
      exact dpa_app (ih h2) (.cons h1 .nil)
theorem dpa_ints : ∀ (ns : List Int), DpAll K H (ns.map V.int) (ns.map PyData.int)
  | [] => .nil
  | n :: ns => .cons (.int n) (dpa_ints ns)
theorem dpa_strs : ∀ (ns : List Str), DpAll K H (ns.map V.str) (ns.map PyData.str)
  | [] => .nil
  | n :: ns => .cons (.str n) (dpa_strs ns)
theorem dpa_bls : ∀ (ns : List Bool), DpAll K H (ns.map V.bl) (ns.map PyData.bool)
  | [] => .nil
  | n :: ns => .cons (.bl n) (dpa_bls ns)
theorem dpa_ints_inv : ∀ {ns : List Int} {vs : List V}, DpAll K H vs (ns.map PyData.int) → vs = ns.map V.int
  | [], _, h => by cases h; rfl
  | n :: ns, _, h => by
    cases h with
    | cons h1 h2 => cases h1; rw [dpa_ints_inv h2]; rfl
theorem dpa_strs_inv : ∀ {ns : List Str} {vs : List V}, DpAll K H vs (ns.map PyData.str) → vs = ns.map V.str
  | [], _, h => by cases h; rfl
  | n :: ns, _, h => by
    cases h with
    | cons h1 h2 => cases h1; rw [dpa_strs_inv h2]; rfl
theorem dpa_bls_inv : ∀ {ns : List Bool} {vs : List V}, DpAll K H vs (ns.map PyData.bool) → vs = ns.map V.bl
  | [], _, h => by cases h; rfl
  | n :: ns, _, h => by
    cases h with
    | cons h1 h2 => cases h1; rw [dpa_bls_inv h2]; rfl
end

/-! ### the base B: what is shared and stands still; H: all that is tracked -/
structure Stp (B H B2 H2 : Hp) : Prop where
  bb : Ex B B2
  bh : Ex B2 H2
  hh : Ex H H2
  hid : ∀ a o, H a = some o → B a = none → B2 a = none
theorem Stp.refl {B H : Hp} (h : Ex B H) : Stp B H B H := ⟨Ex.rfl', h, Ex.rfl', fun _ _ _ z => z⟩
theorem Stp.trans {B H B1 H1 B2 H2 : Hp} (a : Stp B H B1 H1) (b : Stp B1 H1 B2 H2) : Stp B H B2 H2 :=
  ⟨a.bb.trans b.bb, b.bh, a.hh.trans b.hh, fun x o h z => b.hid x o (a.hh x o h) (a.hid x o h z)⟩
/-- a new object that is shared | that is not -/
theorem Stp.new {B H B1 H1 : Hp} {p : Addr} {o : HO} (a : Stp B H B1 H1) (h : H1 p = none) : Stp B H (upd B1 p o) (upd H1 p o) := by
  have hb : B1 p = none := a.bh.back h
  refine ⟨a.bb.trans (Ex.new hb), fun x u e => ?_, a.hh.trans (Ex.new h), fun x u e z => ?_⟩
  · by_cases hx : x = p
    · subst hx; rw [upd_same] at e ⊢; exact e
    · rw [upd_ne hx] at e ⊢; exact a.bh x u e
  · have hx : x ≠ p := ne_of_none (a.hh x u e) h
    rw [upd_ne hx]; exact a.hid x u e z
theorem Stp.own {B H B1 H1 : Hp} {p : Addr} {o : HO} (a : Stp B H B1 H1) (h : H1 p = none) : Stp B H B1 (upd H1 p o) :=
  ⟨a.bb, a.bh.trans (Ex.new h), a.hh.trans (Ex.new h), a.hid⟩

/-- what a slot holds: nothing that is known, shared data, a list that only this slot knows, a value as it is -/
inductive Ent where
  | no | dat (d : PyData) | own (ds : List PyData) | val (v : V)
/-- the surroundings: what stands in cells that are no slot's own and are not shared, and what is told of the shared things -/
structure Gd where
  K : PySem.W.Frag
  cells : List (Addr × HO)
  rel : Hp → Prop
  rup : ∀ B B', Ex B B' → rel B → rel B'
def Gd.foot (G : Gd) : List Addr := G.cells.map (·.1)
def Gd.Wd (G : Gd) (B H : Hp) : Prop := (∀ c ∈ G.cells, H c.1 = some c.2 ∧ B c.1 = none) ∧ G.rel B
abbrev Gd.pure (K : PySem.W.Frag) : Gd := ⟨K, [], fun _ => True, fun _ _ _ h => h⟩
theorem Gd.Wd.step {G : Gd} {B H B2 H2 : Hp} (w : G.Wd B H) (s : Stp B H B2 H2) : G.Wd B2 H2 :=
  ⟨fun c hc => ⟨s.hh _ _ (w.1 c hc).1, s.hid _ _ (w.1 c hc).1 (w.1 c hc).2⟩, G.rup _ _ s.bb w.2⟩
theorem Gd.mem_foot {G : Gd} {c : Addr × HO} (h : c ∈ G.cells) : c.1 ∈ G.foot := List.mem_map_of_mem h
theorem Gd.Wd.mut {G : Gd} {B H : Hp} {p : Addr} {o : HO} (w : G.Wd B H) (n : p ∉ G.foot) : G.Wd B (upd H p o) :=
  ⟨fun c hc => ⟨by rw [upd_ne (fun e => n (by rw [← e]; exact Gd.mem_foot hc))]; exact (w.1 c hc).1, (w.1 c hc).2⟩, w.2⟩
theorem Gd.Wd.frz {G : Gd} {B H : Hp} {p : Addr} {o : HO} (w : G.Wd B H) (n : p ∉ G.foot) (x : Ex B (upd B p o)) : G.Wd (upd B p o) H :=
  ⟨fun c hc => ⟨(w.1 c hc).1, by rw [upd_ne (fun e => n (by rw [← e]; exact Gd.mem_foot hc))]; exact (w.1 c hc).2⟩, G.rup _ _ x w.2⟩
theorem Gd.Wd.there {G : Gd} {B H : Hp} (w : G.Wd B H) {a : Addr} (h : a ∈ G.foot) : (∃ o, H a = some o) ∧ B a = none := by
  obtain ⟨c, hc, rfl⟩ := List.mem_map.mp h
  exact ⟨⟨_, (w.1 c hc).1⟩, (w.1 c hc).2⟩
def EntOk (G : Gd) (B0 H0 B H : Hp) (x : Option V) : Ent → Prop
  | .no => True
  | .dat d => ∃ v, x = some v ∧ Dp G.K B v d
  | .own ds => ∃ p vs, x = some (.ref p) ∧ B p = none ∧ H0 p = none ∧ H p = some (.lst vs) ∧ DpAll G.K B vs ds
  | .val v => x = some v
structure EnvB (G : Gd) (B0 H0 B H : Hp) (σ : L2.St) (Γ : List Ent) : Prop where
  stp : Stp B0 H0 B H
  wd : G.Wd B H
  len : σ.length = Γ.length
  get : ∀ (i : Nat) (x : Option V) (e : Ent), σ[i]? = some x → Γ[i]? = some e → EntOk G B0 H0 B H x e
  dis : ∀ (i j : Nat) (p : Addr) (ds es : List PyData), i ≠ j → Γ[i]? = some (.own ds) → Γ[j]? = some (.own es) → σ[i]? = some (some (.ref p)) → σ[j]? ≠ some (some (.ref p))
  off : ∀ (i : Nat) (p : Addr) (ds : List PyData), Γ[i]? = some (.own ds) → σ[i]? = some (some (.ref p)) → p ∉ G.foot
section
variable {G : Gd} {B0 H0 B H B1 H1 : Hp} {σ : L2.St} {Γ : List Ent}
theorem EntOk.step (s : Stp B H B1 H1) {x : Option V} {e : Ent} (h : EntOk G B0 H0 B H x e) : EntOk G B0 H0 B1 H1 x e := by
  cases e with
  | no => trivial
  | dat d => obtain ⟨v, h1, h2⟩ := h; exact ⟨v, h1, s.bb.dp h2⟩
  | own ds => obtain ⟨p, vs, h1, h2, h3, h4, h5⟩ := h; exact ⟨p, vs, h1, s.hid p _ h4 h2, h3, s.hh p _ h4, s.bb.dpa h5⟩
  | val v => exact h
theorem EnvB.step (E : EnvB G B0 H0 B H σ Γ) (s : Stp B H B1 H1) : EnvB G B0 H0 B1 H1 σ Γ :=
  ⟨E.stp.trans s, E.wd.step s, E.len, fun i x e h1 h2 => (E.get i x e h1 h2).step s, E.dis, E.off⟩
theorem EnvB.dat (E : EnvB G B0 H0 B H σ Γ) {i : Nat} {d : PyData} (h : Γ[i]? = some (.dat d)) : ∃ v, σ[i]? = some (some v) ∧ Dp G.K B v d := by
  have hi : i < σ.length := by rw [E.len]; exact (List.getElem?_eq_some_iff.mp h).1
  obtain ⟨v, h1, h2⟩ := E.get i σ[i] (.dat d) (List.getElem?_eq_getElem hi) h
  exact ⟨v, by rw [List.getElem?_eq_getElem hi, h1], h2⟩
theorem EnvB.val (E : EnvB G B0 H0 B H σ Γ) {i : Nat} {v : V} (h : Γ[i]? = some (.val v)) : σ[i]? = some (some v) := by
  have hi : i < σ.length := by rw [E.len]; exact (List.getElem?_eq_some_iff.mp h).1
  have h1 : σ[i] = some v := E.get i σ[i] (.val v) (List.getElem?_eq_getElem hi) h
  rw [List.getElem?_eq_getElem hi, h1]
theorem EnvB.own (E : EnvB G B0 H0 B H σ Γ) {i : Nat} {ds : List PyData} (h : Γ[i]? = some (.own ds)) :
    ∃ p vs, σ[i]? = some (some (.ref p)) ∧ B p = none ∧ H0 p = none ∧ H p = some (.lst vs) ∧ DpAll G.K B vs ds := by
  have hi : i < σ.length := by rw [E.len]; exact (List.getElem?_eq_some_iff.mp h).1
  obtain ⟨p, vs, h1, h2⟩ := E.get i σ[i] (.own ds) (List.getElem?_eq_getElem hi) h
  exact ⟨p, vs, by rw [List.getElem?_eq_getElem hi, h1], h2⟩
theorem get_set {α : Type} {l : List α} {i j : Nat} {a b : α} (h : (l.set i a)[j]? = some b) : (j = i ∧ b = a) ∨ (j ≠ i ∧ l[j]? = some b) := by
  by_cases e : j = i
  · subst e
    by_cases hj : j < l.length
    · rw [List.getElem?_set_self hj] at h; exact .inl ⟨rfl, (Option.some.inj h).symm⟩
    · rw [List.getElem?_eq_none (by rw [List.length_set]; omega)] at h; cases h
  · rw [List.getElem?_set_ne (Ne.symm e)] at h; exact .inr ⟨e, h⟩
/-- a slot gets shared data | an exact value | is forgotten -/
theorem EnvB.set_dat (E : EnvB G B0 H0 B H σ Γ) (i : Nat) {v : V} {d : PyData} (h : Dp G.K B v d) : EnvB G B0 H0 B H (σ.set i (some v)) (Γ.set i (.dat d)) := by
  refine ⟨E.stp, E.wd, by simpa using E.len, fun j x e h1 h2 => ?_, fun j k p ds es hjk h1 h2 h3 h4 => ?_, fun j p ds h1 h3 => ?_⟩
  · rcases get_set h2 with ⟨rfl, rfl⟩ | ⟨ne, h2⟩
    · rcases get_set h1 with ⟨_, rfl⟩ | ⟨ne, _⟩
      · exact ⟨v, rfl, h⟩
      · exact absurd rfl ne
    · rcases get_set h1 with ⟨e, _⟩ | ⟨_, h1⟩
      · exact absurd e ne
      · exact E.get j x e h1 h2
  · rcases get_set h1 with ⟨_, z⟩ | ⟨n1, h1⟩
    · cases z
    · rcases get_set h2 with ⟨_, z⟩ | ⟨n2, h2⟩
      · cases z
      · rw [List.getElem?_set_ne (Ne.symm n1)] at h3
        rw [List.getElem?_set_ne (Ne.symm n2)] at h4
        exact E.dis j k p ds es hjk h1 h2 h3 h4
  · rcases get_set h1 with ⟨_, z⟩ | ⟨n1, h1⟩
    · cases z
    · rw [List.getElem?_set_ne (Ne.symm n1)] at h3
      exact E.off j p ds h1 h3
theorem EnvB.set_val (E : EnvB G B0 H0 B H σ Γ) (i : Nat) (v : V) : EnvB G B0 H0 B H (σ.set i (some v)) (Γ.set i (.val v)) := by
  refine ⟨E.stp, E.wd, by simpa using E.len, fun j x e h1 h2 => ?_, fun j k p ds es hjk h1 h2 h3 h4 => ?_, fun j p ds h1 h3 => ?_⟩
  · rcases get_set h2 with ⟨rfl, rfl⟩ | ⟨ne, h2⟩
    · rcases get_set h1 with ⟨_, rfl⟩ | ⟨ne, _⟩
      · exact rfl
      · exact absurd rfl ne
    · rcases get_set h1 with ⟨e, _⟩ | ⟨_, h1⟩
      · exact absurd e ne
      · exact E.get j x e h1 h2
  · rcases get_set h1 with ⟨_, z⟩ | ⟨n1, h1⟩
    · cases z
    · rcases get_set h2 with ⟨_, z⟩ | ⟨n2, h2⟩
      · cases z
      · rw [List.getElem?_set_ne (Ne.symm n1)] at h3
        rw [List.getElem?_set_ne (Ne.symm n2)] at h4
        exact E.dis j k p ds es hjk h1 h2 h3 h4
  · rcases get_set h1 with ⟨_, z⟩ | ⟨n1, h1⟩
    · cases z
    · rw [List.getElem?_set_ne (Ne.symm n1)] at h3
      exact E.off j p ds h1 h3
theorem EnvB.set_no (E : EnvB G B0 H0 B H σ Γ) (i : Nat) (x : Option V) : EnvB G B0 H0 B H (σ.set i x) (Γ.set i .no) := by
  refine ⟨E.stp, E.wd, by simpa using E.len, fun j x e h1 h2 => ?_, fun j k p ds es hjk h1 h2 h3 h4 => ?_, fun j p ds h1 h3 => ?_⟩
  · rcases get_set h2 with ⟨rfl, rfl⟩ | ⟨ne, h2⟩
    · trivial
    · rcases get_set h1 with ⟨e, _⟩ | ⟨_, h1⟩
      · exact absurd e ne
      · exact E.get j x e h1 h2
  · rcases get_set h1 with ⟨_, z⟩ | ⟨n1, h1⟩
    · cases z
    · rcases get_set h2 with ⟨_, z⟩ | ⟨n2, h2⟩
      · cases z
      · rw [List.getElem?_set_ne (Ne.symm n1)] at h3
        rw [List.getElem?_set_ne (Ne.symm n2)] at h4
        exact E.dis j k p ds es hjk h1 h2 h3 h4
  · rcases get_set h1 with ⟨_, z⟩ | ⟨n1, h1⟩
    · cases z
    · rw [List.getElem?_set_ne (Ne.symm n1)] at h3
      exact E.off j p ds h1 h3
/-- a slot gets a list that nobody else knows -/
theorem EnvB.set_own (E : EnvB G B0 H0 B H σ Γ) (i : Nat) {p : Addr} {vs : List V} {ds : List PyData} (hp : H p = none) (h : DpAll G.K B vs ds) :
    EnvB G B0 H0 B (upd H p (.lst vs)) (σ.set i (some (.ref p))) (Γ.set i (.own ds)) := by
  have hB : B p = none := E.stp.bh.back hp
  have hH0 : H0 p = none := E.stp.hh.back hp
  have E1 : EnvB G B0 H0 B (upd H p (.lst vs)) σ Γ := E.step ⟨Ex.rfl', E.stp.bh.trans (Ex.new hp), Ex.new hp, fun _ _ _ z => z⟩
  have ne : ∀ (j : Nat) (es : List PyData), Γ[j]? = some (.own es) → σ[j]? ≠ some (some (.ref p)) := fun j es h1 h2 => by
    obtain ⟨q, ws, e1, _, _, e4, _⟩ := E.own h1
    rw [e1] at h2; cases h2; rw [hp] at e4; cases e4
  refine ⟨E1.stp, E1.wd, by simpa using E.len, fun j x e h1 h2 => ?_, fun j k q ds' es hjk h1 h2 h3 h4 => ?_, fun j q ds' h1 h3 => ?_⟩
  · rcases get_set h2 with ⟨rfl, rfl⟩ | ⟨ne, h2⟩
    · rcases get_set h1 with ⟨_, rfl⟩ | ⟨ne, _⟩
      · exact ⟨p, vs, rfl, hB, hH0, upd_same, h⟩
      · exact absurd rfl ne
    · rcases get_set h1 with ⟨e, _⟩ | ⟨_, h1⟩
      · exact absurd e ne
      · exact E1.get j x e h1 h2
  · rcases get_set h3 with ⟨rfl, z⟩ | ⟨n1, g3⟩
    · cases z
      rcases get_set h4 with ⟨e, _⟩ | ⟨n2, h4⟩
      · exact hjk e.symm
      · rcases get_set h2 with ⟨e, _⟩ | ⟨_, h2⟩
        · exact n2 e
        · exact ne k es h2 h4
    · rcases get_set h1 with ⟨e, _⟩ | ⟨_, g1⟩
      · exact n1 e
      · rcases get_set h4 with ⟨rfl, z⟩ | ⟨n2, h4⟩
        · cases z
          exact ne j ds' g1 g3
        · rcases get_set h2 with ⟨e, _⟩ | ⟨_, h2⟩
          · exact n2 e
          · exact E.dis j k q ds' es hjk g1 h2 g3 h4
  · rcases get_set h3 with ⟨rfl, z⟩ | ⟨n1, g3⟩
    · cases z
      intro hm
      obtain ⟨⟨o, ho⟩, _⟩ := E.wd.there hm
      rw [hp] at ho; cases ho
    · rcases get_set h1 with ⟨e, _⟩ | ⟨_, g1⟩
      · exact absurd e n1
      · exact E.off j q ds' g1 g3
/-- the list of a slot is changed in its place -/
theorem EnvB.mut_own (E : EnvB G B0 H0 B H σ Γ) {i : Nat} {p : Addr} {ws : List V} {ds es : List PyData} (hi : Γ[i]? = some (.own ds)) (hs : σ[i]? = some (some (.ref p))) (h : DpAll G.K B ws es) :
    EnvB G B0 H0 B (upd H p (.lst ws)) σ (Γ.set i (.own es)) := by
  obtain ⟨q, us, e1, e2, e3, e4, e5⟩ := E.own hi
  rw [hs] at e1; cases e1
  refine ⟨⟨E.stp.bb, E.stp.bh.mut e2, E.stp.hh.mut e3, E.stp.hid⟩, E.wd.mut (E.off i p ds hi hs), by simpa using E.len, fun j x e h1 h2 => ?_, fun j k q ds' es' hjk h1 h2 h3 h4 => ?_, fun j q ds' h1 h3 => ?_⟩
  · rcases get_set h2 with ⟨rfl, rfl⟩ | ⟨ne, h2⟩
    · rw [hs] at h1; cases h1
      exact ⟨p, ws, rfl, e2, e3, upd_same, h⟩
    · have z := E.get j x e h1 h2
      cases e with
      | no => trivial
      | dat d => exact z
      | val v => exact z
      | own fs =>
        obtain ⟨r, rs, z1, z2, z3, z4, z5⟩ := z
        refine ⟨r, rs, z1, z2, z3, ?_, z5⟩
        have : r ≠ p := fun e => by
          subst e; subst z1
          exact E.dis j i r fs ds ne h2 hi h1 hs
        rw [upd_ne this]; exact z4
  · rcases get_set h1 with ⟨rfl, z⟩ | ⟨n1, g1⟩
    · rcases get_set h2 with ⟨e, _⟩ | ⟨n2, h2⟩
      · exact hjk e.symm
      · exact E.dis _ k q ds es' hjk hi h2 h3 h4
    · skip
      rcases get_set h2 with ⟨rfl, z⟩ | ⟨n2, h2⟩
      · exact E.dis j _ q ds' ds hjk g1 hi h3 h4
      · exact E.dis j k q ds' es' hjk g1 h2 h3 h4
  · rcases get_set h1 with ⟨rfl, z⟩ | ⟨n1, g1⟩
    · exact E.off _ q ds hi h3
    · exact E.off j q ds' g1 h3
/-- the list of a slot is shared from now on -/
theorem EnvB.freeze' (E : EnvB G B0 H0 B H σ Γ) {i : Nat} {ds : List PyData} (hi : Γ[i]? = some (.own ds)) :
    ∃ p vs, B p = none ∧ H p = some (.lst vs) ∧ Ex B (upd B p (.lst vs)) ∧ EnvB G B0 H0 (upd B p (.lst vs)) H σ (Γ.set i (.dat (.list ds))) := by
  obtain ⟨p, vs, e1, e2, e3, e4, e5⟩ := E.own hi
  have xb : Ex B (upd B p (.lst vs)) := Ex.new e2
  refine ⟨p, vs, e2, e4, xb, ⟨E.stp.bb.trans xb, fun a o h => ?_, E.stp.hh, fun a o h z => ?_⟩, E.wd.frz (E.off i p ds hi e1) xb, by simpa using E.len, fun j x e h1 h2 => ?_, fun j k q ds' es' hjk h1 h2 h3 h4 => ?_, fun j q ds' h1 h3 => ?_⟩
  · by_cases ha : a = p
    · subst ha; rw [upd_same] at h; cases h; exact e4
    · rw [upd_ne ha] at h; exact E.stp.bh a o h
  · have ha : a ≠ p := ne_of_none h e3
    rw [upd_ne ha]; exact E.stp.hid a o h z
  · rcases get_set h2 with ⟨rfl, rfl⟩ | ⟨ne, h2⟩
    · rw [e1] at h1; cases h1
      exact ⟨.ref p, rfl, .lst (SqL.of upd_same) (xb.dpa e5)⟩
    · have z := E.get j x e h1 h2
      cases e with
      | no => trivial
      | dat d => obtain ⟨v, z1, z2⟩ := z; exact ⟨v, z1, xb.dp z2⟩
      | val v => exact z
      | own fs =>
        obtain ⟨r, rs, z1, z2, z3, z4, z5⟩ := z
        have : r ≠ p := fun e => by
          subst e; subst z1
          exact E.dis j i r fs ds ne h2 hi h1 e1
        exact ⟨r, rs, z1, by rw [upd_ne this]; exact z2, z3, z4, xb.dpa z5⟩
  · rcases get_set h1 with ⟨_, z⟩ | ⟨n1, h1⟩
    · cases z
    · rcases get_set h2 with ⟨_, z⟩ | ⟨n2, h2⟩
      · cases z
      · exact E.dis j k q ds' es' hjk h1 h2 h3 h4
  · rcases get_set h1 with ⟨_, z⟩ | ⟨n1, h1⟩
    · cases z
    · exact E.off j q ds' h1 h3
theorem EnvB.freeze (E : EnvB G B0 H0 B H σ Γ) {i : Nat} {ds : List PyData} (hi : Γ[i]? = some (.own ds)) :
    ∃ B1, Ex B B1 ∧ EnvB G B0 H0 B1 H σ (Γ.set i (.dat (.list ds))) := by
  obtain ⟨p, vs, _, _, x, E1⟩ := E.freeze' hi
  exact ⟨_, x, E1⟩
/-- the list of a slot is read, and stays the slot's own -/
theorem EnvB.borrow (E : EnvB G B0 H0 B H σ Γ) {i : Nat} {ds : List PyData} (hi : Γ[i]? = some (.own ds)) :
    ∃ B1, EnvB G B0 H0 B1 H σ (Γ.set i (.dat (.list ds))) ∧ ∀ B2 H2, Stp B1 H B2 H2 → ∃ B3, Stp B H B3 H2 := by
  obtain ⟨p, vs, hb, hh, x, E1⟩ := E.freeze' hi
  refine ⟨_, E1, fun B2 H2 s => ⟨fun a => if a = p then none else B2 a, ⟨fun a o h => ?_, fun a o h => ?_, s.hh, fun a o h z => ?_⟩⟩⟩
  · show (if a = p then none else B2 a) = some o
    rw [if_neg (ne_of_none h hb)]
    exact s.bb a o (x a o h)
  · have h : (if a = p then none else B2 a) = some o := h
    by_cases ha : a = p
    · rw [if_pos ha] at h; cases h
    · rw [if_neg ha] at h; exact s.bh a o h
  · show (if a = p then none else B2 a) = none
    by_cases ha : a = p
    · rw [if_pos ha]
    · rw [if_neg ha]; exact s.hid a o h (by rw [upd_ne ha]; exact z)
def wipeE (Γ : List Ent) : List Nat → List Ent
  | [] => Γ
  | v :: vs => (wipeE Γ vs).set v .no
theorem EnvB.wipe (E : EnvB G B0 H0 B H σ Γ) : ∀ vs : List Nat, EnvB G B0 H0 B H (wipe σ vs) (wipeE Γ vs)
  | [] => E
  | v :: vs => (E.wipe vs).set_no v none
end

/-! ### what evaluates to what -/
section
variable (G : Gd)
def EvD (te : TE) (Γ : List Ent) (d : PyData) : Prop :=
  ∀ (B0 H0 B H : Hp) (σ : L2.St), EnvB G B0 H0 B H σ Γ → ∀ Q : VK, (∀ v B2 H2, Stp B H B2 H2 → Dp G.K B2 v d → Q v H2) → te σ H Q
/-- a new list that nobody knows -/
def EvF (te : TE) (Γ : List Ent) (ds : List PyData) : Prop :=
  ∀ (B0 H0 B H : Hp) (σ : L2.St), EnvB G B0 H0 B H σ Γ → ∀ Q : VK, (∀ p vs B2 H2, Stp B H B2 H2 → H2 p = none → DpAll G.K B2 vs ds → Q (.ref p) (upd H2 p (.lst vs))) → te σ H Q
def EvT (tt : TT) (Γ : List Ent) (b : Bool) : Prop :=
  ∀ (B0 H0 B H : Hp) (σ : L2.St), EnvB G B0 H0 B H σ Γ → ∀ Q : Bool → Hp → Prop, (∀ B2 H2, Stp B H B2 H2 → Q b H2) → tt σ H Q
def EvA (ta : TA) (Γ : List Ent) (ds : List PyData) : Prop :=
  ∀ (B0 H0 B H : Hp) (σ : L2.St), EnvB G B0 H0 B H σ Γ → ∀ Q : List V → Hp → Prop, (∀ vs B2 H2, Stp B H B2 H2 → DpAll G.K B2 vs ds → Q vs H2) → ta σ H Q
def EvO (to : TO) (Γ : List Ent) (o : Option Int) : Prop :=
  ∀ (B0 H0 B H : Hp) (σ : L2.St), EnvB G B0 H0 B H σ Γ → ∀ Q : Option Int → Hp → Prop, (∀ B2 H2, Stp B H B2 H2 → Q o H2) → to σ H Q
/-- by values -/
def OpD (r : R2) (x y z : PyData) : Prop :=
  ∀ (B H : Hp) (v w : V), Ex B H → Dp G.K B v x → Dp G.K B w y → ∀ Q : VK, (∀ u B2 H2, Stp B H B2 H2 → Dp G.K B2 u z → Q u H2) → r v w H Q
def CaD (r : List V → Hp → VK → Prop) (ds : List PyData) (z : PyData) : Prop :=
  ∀ (B H : Hp) (vs : List V), Ex B H → DpAll G.K B vs ds → ∀ Q : VK, (∀ u B2 H2, Stp B H B2 H2 → Dp G.K B2 u z → Q u H2) → r vs H Q
def CaF (r : List V → Hp → VK → Prop) (ds zs : List PyData) : Prop :=
  ∀ (B H : Hp) (vs : List V), Ex B H → DpAll G.K B vs ds → ∀ Q : VK, (∀ p us B2 H2, Stp B H B2 H2 → H2 p = none → DpAll G.K B2 us zs → Q (.ref p) (upd H2 p (.lst us))) → r vs H Q
end
section
variable {G : Gd} {Γ : List Ent} {ta tb tc te : TE} {t u : TT} {x y z d : PyData} {r r' : R2} {a b : Bool}
theorem EvF.ev {ds : List PyData} (h : EvF G te Γ ds) : EvD G te Γ (.list ds) := fun B0 H0 B H σ E Q k =>
  h B0 H0 B H σ E Q fun p vs B2 H2 s hp hd => k _ _ _ (s.new hp) (.lst (SqL.of upd_same) ((Ex.new (s.bh.back hp)).dpa hd))
theorem ev_var {i : Nat} (h : Γ[i]? = some (.dat d)) : EvD G (tVar i) Γ d := fun B0 H0 B H σ E Q k => by
  obtain ⟨v, h1, h2⟩ := E.dat h
  exact ⟨v, h1, k v B H (Stp.refl E.stp.bh) h2⟩
theorem ev_c {v : V} (h : ∀ B, Dp G.K B v d) : EvD G (tC v) Γ d := fun B0 H0 B H σ E Q k => k v B H (Stp.refl E.stp.bh) (h B)
theorem ev_int {i : Int} : EvD G (tC (.int i)) Γ (.int i) := ev_c fun _ => .int i
theorem ev_bl {b : Bool} : EvD G (tC (.bl b)) Γ (.bool b) := ev_c fun _ => .bl b
theorem ev_str {x : Str} : EvD G (tC (.str x)) Γ (.str x) := ev_c fun _ => .str x
theorem ev_non : EvD G (tC .non) Γ .none := ev_c fun _ => .non
theorem ev_op (ha : EvD G ta Γ x) (hb : EvD G tb Γ y) (hr : OpD G r x y z) : EvD G (tOp r ta tb) Γ z := fun B0 H0 B H σ E Q k =>
  ha B0 H0 B H σ E _ fun v B1 H1 s1 d1 => hb B0 H0 B1 H1 σ (E.step s1) _ fun w B2 H2 s2 d2 =>
    hr B2 H2 v w s2.bh (s2.bb.dp d1) d2 Q fun u B3 H3 s3 d3 => k u B3 H3 ((s1.trans s2).trans s3) d3
theorem ev_un {rr : V → Hp → VK → Prop} {i j : Int} (ha : EvD G ta Γ (.int i)) (hr : ∀ (H : Hp) (Q : VK), Q (.int j) H → rr (.int i) H Q) : EvD G (tUn rr ta) Γ (.int j) := fun B0 H0 B H σ E Q k =>
  ha B0 H0 B H σ E _ fun v B1 H1 s1 d1 => by cases d1; exact hr H1 Q (k _ B1 H1 s1 (.int j))
theorem ev_neg {i : Int} (ha : EvD G ta Γ (.int i)) : EvD G (tUn (rU fun i => .int (-i)) ta) Γ (.int (-i)) := ev_un ha fun H Q q => ⟨i, rfl, q⟩
/-- operators on ints -/
theorem od_I0 {g : Int → Int → V} {i j : Int} (hz : ∀ B, Dp G.K B (g i j) z) : OpD G (rI0 g) (.int i) (.int j) z := fun B H v w e d1 d2 Q k => by
  cases d1; cases d2
  exact ⟨i, j, rfl, rfl, k _ B H (Stp.refl e) (hz B)⟩
theorem od_I {C : Int → Int → Prop} {g : Int → Int → V} {i j : Int} (hc : C i j) (hz : ∀ B, Dp G.K B (g i j) z) : OpD G (rI C g) (.int i) (.int j) z := fun B H v w e d1 d2 Q k => by
  cases d1; cases d2
  exact ⟨i, j, rfl, rfl, hc, k _ B H (Stp.refl e) (hz B)⟩
theorem ev_andV (h1 : EvD G ta Γ (.bool a)) (h2 : a = true → EvD G tb Γ (.bool b)) : EvD G (tAndV ta tb) Γ (.bool (a && b)) := fun B0 H0 B H σ E Q k =>
  h1 B0 H0 B H σ E _ fun v B1 H1 s1 d1 => by
    cases d1
    refine ⟨a, rfl, ?_⟩
    cases a with
    | true => exact h2 rfl B0 H0 B1 H1 σ (E.step s1) Q fun w B2 H2 s2 d2 => k w B2 H2 (s1.trans s2) d2
    | false => exact k _ B1 H1 s1 (.bl false)
theorem ev_orV (h1 : EvD G ta Γ (.bool a)) (h2 : a = false → EvD G tb Γ (.bool b)) : EvD G (tOrV ta tb) Γ (.bool (a || b)) := fun B0 H0 B H σ E Q k =>
  h1 B0 H0 B H σ E _ fun v B1 H1 s1 d1 => by
    cases d1
    refine ⟨a, rfl, ?_⟩
    cases a with
    | false => exact h2 rfl B0 H0 B1 H1 σ (E.step s1) Q fun w B2 H2 s2 d2 => k w B2 H2 (s1.trans s2) d2
    | true => exact k _ B1 H1 s1 (.bl true)
theorem ev_notV (h1 : EvD G ta Γ (.bool a)) : EvD G (tNotV ta) Γ (.bool (!a)) := fun B0 H0 B H σ E Q k =>
  h1 B0 H0 B H σ E _ fun v B1 H1 s1 d1 => by
    cases d1
    exact ⟨a, rfl, k _ B1 H1 s1 (.bl _)⟩
theorem ev_chain (ha : EvD G ta Γ x) (hb : EvD G tb Γ y) (hr : OpD G r x y (.bool a)) (hc : a = true → EvD G tc Γ z) (hr' : a = true → OpD G r' y z (.bool b)) : EvD G (tChain r r' ta tb tc) Γ (.bool (a && b)) := fun B0 H0 B H σ E Q k =>
  ha B0 H0 B H σ E _ fun v B1 H1 s1 d1 => hb B0 H0 B1 H1 σ (E.step s1) _ fun w B2 H2 s2 d2 =>
    hr B2 H2 v w s2.bh (s2.bb.dp d1) d2 _ fun c B3 H3 s3 d3 => by
      cases d3
      refine ⟨a, rfl, ?_⟩
      have s13 := (s1.trans s2).trans s3
      cases a with
      | true =>
        exact hc rfl B0 H0 B3 H3 σ (E.step s13) _ fun w2 B4 H4 s4 d4 => hr' rfl B4 H4 w w2 s4.bh ((s3.trans s4).bb.dp d2) d4 Q fun c2 B5 H5 s5 d5 => k c2 B5 H5 ((s13.trans s4).trans s5) d5
      | false => exact k _ B3 H3 s13 (.bl false)
theorem ev_if (h : EvT G t Γ a) (h1 : a = true → EvD G ta Γ d) (h2 : a = false → EvD G tb Γ d) : EvD G (tIf t ta tb) Γ d := fun B0 H0 B H σ E Q k =>
  h B0 H0 B H σ E _ fun B1 H1 s1 => by
    cases a with
    | true => exact h1 rfl B0 H0 B1 H1 σ (E.step s1) Q fun w B2 H2 s2 d2 => k w B2 H2 (s1.trans s2) d2
    | false => exact h2 rfl B0 H0 B1 H1 σ (E.step s1) Q fun w B2 H2 s2 d2 => k w B2 H2 (s1.trans s2) d2
theorem et_test (h : EvD G te Γ (.bool a)) : EvT G (tTest te) Γ a := fun B0 H0 B H σ E Q k =>
  h B0 H0 B H σ E _ fun v B1 H1 s1 d1 => by cases d1; exact ⟨a, rfl, k B1 H1 s1⟩
theorem et_B (h : EvD G te Γ (.bool a)) : EvT G (tB te) Γ a := fun B0 H0 B H σ E Q k =>
  h B0 H0 B H σ E _ fun v B1 H1 s1 d1 => by cases d1; exact ⟨a, rfl, k B1 H1 s1⟩
theorem et_and (h1 : EvT G t Γ a) (h2 : a = true → EvT G u Γ b) : EvT G (tAnd t u) Γ (a && b) := fun B0 H0 B H σ E Q k =>
  h1 B0 H0 B H σ E _ fun B1 H1 s1 => by
    cases a with
    | true => exact h2 rfl B0 H0 B1 H1 σ (E.step s1) Q fun B2 H2 s2 => k B2 H2 (s1.trans s2)
    | false => exact k B1 H1 s1
theorem et_or (h1 : EvT G t Γ a) (h2 : a = false → EvT G u Γ b) : EvT G (tOr t u) Γ (a || b) := fun B0 H0 B H σ E Q k =>
  h1 B0 H0 B H σ E _ fun B1 H1 s1 => by
    cases a with
    | false => exact h2 rfl B0 H0 B1 H1 σ (E.step s1) Q fun B2 H2 s2 => k B2 H2 (s1.trans s2)
    | true => exact k B1 H1 s1
theorem et_not (h1 : EvT G t Γ a) : EvT G (tNot t) Γ (!a) := fun B0 H0 B H σ E Q k => h1 B0 H0 B H σ E _ fun B1 H1 s1 => k B1 H1 s1
theorem et_yes : EvT G tYes Γ true := fun B0 H0 B H σ E Q k => k B H (Stp.refl E.stp.bh)
theorem ea_nil : EvA G tNil Γ [] := fun B0 H0 B H σ E Q k => k [] B H (Stp.refl E.stp.bh) .nil
theorem ea_cons {tr : TA} {ds : List PyData} (h : EvD G te Γ d) (hr : EvA G tr Γ ds) : EvA G (tCons te tr) Γ (d :: ds) := fun B0 H0 B H σ E Q k =>
  h B0 H0 B H σ E _ fun v B1 H1 s1 d1 => hr B0 H0 B1 H1 σ (E.step s1) _ fun vs B2 H2 s2 d2 => k _ B2 H2 (s1.trans s2) (.cons (s2.bb.dp d1) d2)
theorem ev_tup {t : TA} {ds : List PyData} (h : EvA G t Γ ds) (hl : ds.length ≤ 100000 := by decide) : EvD G (tTup t) Γ (.tuple ds) := fun B0 H0 B H σ E Q k =>
  h B0 H0 B H σ E _ fun vs B1 H1 s1 d1 => ⟨Evl.sz_of (by rw [dpa_len d1]; exact hl), fun p hp => k _ _ _ (s1.new hp) (.tup (SqT.of upd_same) ((Ex.new (s1.bh.back hp)).dpa d1))⟩
theorem ef_lst {t : TA} {ds : List PyData} (h : EvA G t Γ ds) (hl : ds.length ≤ 100000 := by decide) : EvF G (tLst t) Γ ds := fun B0 H0 B H σ E Q k =>
  h B0 H0 B H σ E _ fun vs B1 H1 s1 d1 => ⟨Evl.sz_of (by rw [dpa_len d1]; exact hl), fun p hp => k p vs B1 H1 s1 hp d1⟩
theorem ev_cb {rr : List V → Hp → VK → Prop} {t : TA} {ds : List PyData} (h : EvA G t Γ ds) (hr : CaD G rr ds z) : EvD G (tCB rr t) Γ z := fun B0 H0 B H σ E Q k =>
  h B0 H0 B H σ E _ fun vs B1 H1 s1 d1 => hr B1 H1 vs s1.bh d1 Q fun u B2 H2 s2 d2 => k u B2 H2 (s1.trans s2) d2
theorem ef_cb {rr : List V → Hp → VK → Prop} {t : TA} {ds zs : List PyData} (h : EvA G t Γ ds) (hr : CaF G rr ds zs) : EvF G (tCB rr t) Γ zs := fun B0 H0 B H σ E Q k =>
  h B0 H0 B H σ E _ fun vs B1 H1 s1 d1 => hr B1 H1 vs s1.bh d1 Q fun p us B2 H2 s2 hp d2 => k p us B2 H2 (s1.trans s2) hp d2
theorem eo_none : EvO G tNoPart Γ none := fun B0 H0 B H σ E Q k => k B H (Stp.refl E.stp.bh)
theorem eo_some {i : Int} (h : EvD G te Γ (.int i)) : EvO G (tPart te) Γ (some i) := fun B0 H0 B H σ E Q k =>
  h B0 H0 B H σ E _ fun v B1 H1 s1 d1 => by cases d1; exact ⟨i, rfl, k B1 H1 s1⟩
theorem ev_to (h : EvD G te Γ x) (e : x = y) : EvD G te Γ y := e ▸ h
theorem et_to (h : EvT G t Γ a) (e : a = b) : EvT G t Γ b := e ▸ h
end
end Pd

namespace Pd
open PySem L2

/-! ### operators that take what stands there -/
section
variable {X : Cx}
def rCatS (K : PySem.W.Frag) : R2 := fun x y H Q => ∃ l b xs zs, x = .ref l ∧ y = .ref b ∧ SqL K H l xs ∧ SqL K H b zs ∧ xs.length + zs.length ≤ sizeLine ∧ ∀ p, H p = none → Q (.ref p) (upd H p (.lst (xs ++ zs)))
theorem op_catS : OpR X (binaryOp .Add) (rCatS X.K) := by
  intro pins s σ H x y v u Q I rx ry h
  obtain ⟨l, b, xs, zs, rfl, rfl, hH, hB, hz, q⟩ := h
  cases rx
  cases ry
  obtain ⟨its, r, ⟨⟨cls, dd, data, sl⟩, n, e, hc, hdd, hd⟩, z⟩ := I.list hH
  obtain ⟨its2, r2, ⟨⟨cls2, dd2, data2, sl2⟩, n2, e2, hc2, hdd2, hd2⟩, z2⟩ := I.list hB
  simp only at hc hd hc2 hd2 hdd hdd2
  subst hc hd hc2 hd2 hdd hdd2
  have l1 := r.length
  have l2 := r2.length
  have ea : its.toArray ++ its2.toArray = (its ++ its2).toArray := by simp
  refine concat_meets ⟨_, e, rfl⟩ ⟨_, e2, rfl⟩ noFill_list_add seq_list_add PySem.F.slot_list_add PySem.F.entry_list_add (PySem.F.args_list_add_2 _ _) (PyProof.Rows.list_addW l b its.toArray its2.toArray n n2 _ _ sl sl2 (by simp only [List.size_toArray]; omega)) ⟨e, e2, ?_⟩
  rw [ea]
  exact ⟨.ref _, _, I.lnew (t' := s.toks) (r.append r2) (by rw [List.length_append]; omega), rfl, q _ I.fresh⟩
def rAddTx : R2 := fun x y H Q => ∃ i j, x = .str i ∧ y = .str j ∧ i.length + j.length ≤ sizeLine ∧ Q (.str (i ++ j)) H
def rAddA (K : PySem.W.Frag) : R2 := fun x y H Q => rI0 (fun i j => .int (i + j)) x y H Q ∨ rAddTx x y H Q ∨ rCatS K x y H Q ∨ rCatT K x y H Q
theorem op_addA : OpR X (binaryOp .Add) (rAddA X.K) := op_add.or (OpR.or (r := rAddTx) op_add_str (op_catS.or op_catT))
def rEqA (K : PySem.W.Frag) : R2 := fun x y H Q => rEq x y H Q ∨ rEqD K x y H Q
def rNeA (K : PySem.W.Frag) : R2 := fun x y H Q => rNe x y H Q ∨ rNeD K x y H Q
theorem op_eqA (hu : X.A.units + 64 < cLine) : OpR X (compareOp .Eq) (rEqA X.K) := op_eq.or (op_eqD hu)
theorem op_neA (hu : X.A.units + 64 < cLine) : OpR X (compareOp .NotEq) (rNeA X.K) := op_ne.or (op_neD hu)
def rLt : R2 := rI0 fun i j => .bl (decide (i < j))
def rLe : R2 := rI0 fun i j => .bl (decide (i ≤ j))
def rGt : R2 := rI0 fun i j => .bl (decide (j < i))
def rGe : R2 := rI0 fun i j => .bl (decide (j ≤ i))
theorem op_ltI : OpR X (compareOp .Lt) rLt := op_lt
theorem op_leI : OpR X (compareOp .LtE) rLe := op_le
theorem op_gtI : OpR X (compareOp .Gt) rGt := op_gt
theorem op_geI : OpR X (compareOp .GtE) rGe := op_ge
def rSub : R2 := rI0 fun i j => .int (i - j)
theorem op_subI : OpR X (binaryOp .Sub) rSub := op_sub
def rMul : R2 := rI CMul fun i j => .int (i * j)
theorem op_mulI : OpR X (binaryOp .Mult) rMul := op_mul
def rDiv : R2 := rI CDiv fun i j => .int (i / j)
theorem op_divI : OpR X (binaryOp .FloorDiv) rDiv := op_fdiv
def rMod : R2 := rI (fun _ j => 0 < j) fun i j => .int (i % j)
theorem op_modI : OpR X (binaryOp .Mod) rMod := op_mod
def rPow : R2 := rI CPow fun i j => .int (i ^ j.toNat)
theorem op_powI : OpR X (binaryOp .Pow) rPow := op_pow
def rIsN : R2 := fun x y H Q => y = .non ∧ Q (.bl (decide (x = .non))) H
theorem op_isNI : OpR X (compareOp .Is) rIsN := op_isN
def rIsNot : R2 := fun x y H Q => y = .non ∧ Q (.bl (!decide (x = .non))) H
theorem op_isNotI : OpR X (compareOp .IsNot) rIsNot := op_notN
def rInSg : R2 := fun x y H Q => ∃ (c : Nat) (z : Str), x = .str ⟨#[c]⟩ ∧ y = .str z ∧ Q (.bl (decide (c ∈ z.cps.toList))) H
def rNotInSg : R2 := fun x y H Q => ∃ (c : Nat) (z : Str), x = .str ⟨#[c]⟩ ∧ y = .str z ∧ Q (.bl (!decide (c ∈ z.cps.toList))) H
def rInA (K : PySem.W.Frag) : R2 := fun x y H Q => rIn K false x y H Q ∨ rInSg x y H Q
def rNotInA (K : PySem.W.Frag) : R2 := fun x y H Q => rIn K true x y H Q ∨ rNotInSg x y H Q
theorem op_inA : OpR X (compareOp .In) (rInA X.K) := OpR.or op_in_seq (r' := rInSg) op_in_sign
theorem op_notInA : OpR X (compareOp .NotIn) (rNotInA X.K) := OpR.or op_notIn_seq (r' := rNotInSg) op_notIn_sign
def rLen (K : PySem.W.Frag) : List V → Hp → VK → Prop := fun xs H Q => ∃ x n, xs = [x] ∧ LenV K x H n ∧ Q (.int n) H
theorem call_lenA : CallR X (.builtin "len") (rLen X.K) := call_len
def rIntA : List V → Hp → VK → Prop := fun xs H Q => ((∃ i, xs = [.int i] ∧ Q (.int i) H) ∨ ∃ k, xs = [.bl k] ∧ Q (.int (if k then 1 else 0)) H) ∨ ∃ a n, xs = [.str a] ∧ PySem.intText? a = some n ∧ a.length ≤ 640 ∧ Q (.int n) H
theorem call_intA : CallR X (.type "int") rIntA := CallR.or call_int1 call_int_str
def rStrI : List V → Hp → VK → Prop := fun xs H Q => ∃ i, xs = [.int i] ∧ i.natAbs.log2 < 1920 ∧ Q (.str (toString i)) H
theorem call_strI : CallR X (.type "str") rStrI := call_str_int
def rListOf (K : PySem.W.Frag) : List V → Hp → VK → Prop := fun xs H Q => ∃ p ys, xs = [.ref p] ∧ (SqL K H p ys ∨ SqT K H p ys) ∧ ∀ l, H l = none → Q (.ref l) (upd H l (.lst ys))
theorem call_listA : CallR X (.type "list") (rListOf X.K) := call_list_of
def rTupOf (K : PySem.W.Frag) : List V → Hp → VK → Prop := fun xs H Q => ∃ p ys, xs = [.ref p] ∧ ((SqL K H p ys ∧ ∀ l, H l = none → Q (.ref l) (upd H l (.tup ys))) ∨ (SqT K H p ys ∧ Q (.ref p) H))
theorem call_tupA : CallR X (.type "tuple") (rTupOf X.K) := call_tuple_of
def rMax2 : List V → Hp → VK → Prop := fun xs H Q => ∃ i j, xs = [.int i, .int j] ∧ Q (.int (if j > i then j else i)) H
theorem call_maxI (hc : X.calm = true) : CallR X (.builtin "max") rMax2 := call_max2 hc
def rMin2 : List V → Hp → VK → Prop := fun xs H Q => ∃ i j, xs = [.int i, .int j] ∧ Q (.int (if j < i then j else i)) H
theorem call_minI (hc : X.calm = true) : CallR X (.builtin "min") rMin2 := call_min2 hc
/-- walks of anything served -/
theorem pi_or {tg e : Expr} {w1 w2 : TI} (h1 : PI X tg e w1) (h2 : PI X tg e w2) : PI X tg e (fun σ H R => w1 σ H R ∨ w2 σ H R) := ⟨fun pins s σ H R I h => h.elim (h1.run pins s σ H R I) (h2.run pins s σ H R I)⟩
def iAny (K : PySem.W.Frag) (te : TE) : TI := fun σ H R => iList K te σ H R ∨ iTup K te σ H R ∨ iStr te σ H R
theorem pi_any {tg e : Expr} {te : TE} (h : PE X e te) : PI X tg e (iAny X.K te) := pi_or (pi_list h) (pi_or (pi_tup h) (pi_str h))
end

section
variable {G : Gd} {Γ : List Ent} {ta tb tc te : TE} {x y z d : PyData} {i j : Int} {p q : Str} {a b : Bool}
/-! ### their data -/
theorem od_add_int : OpD G (rAddA G.K) (.int i) (.int j) (.int (i + j)) := fun B H v w e d1 d2 Q k => .inl (od_I0 (fun _ => .int _) B H v w e d1 d2 Q k)
theorem od_add_str (h : p.length + q.length ≤ 100000) : OpD G (rAddA G.K) (.str p) (.str q) (.str (p ++ q)) := fun B H v w e d1 d2 Q k => by
  cases d1; cases d2
  exact .inr (.inl ⟨p, q, rfl, rfl, Evl.sz_of h, k _ B H (Stp.refl e) (.str _)⟩)
theorem of_add_list {xs ys : List PyData} (h : xs.length + ys.length ≤ 100000) (ha : EvD G ta Γ (.list xs)) (hb : EvD G tb Γ (.list ys)) : EvF G (tOp (rAddA G.K) ta tb) Γ (xs ++ ys) := fun B0 H0 B H σ E Q k =>
  ha B0 H0 B H σ E _ fun v B1 H1 s1 d1 => hb B0 H0 B1 H1 σ (E.step s1) _ fun w B2 H2 s2 d2 => by
    have d1' := s2.bb.dp d1
    cases d1' with
    | lst h1 a1 =>
      cases d2 with
      | lst h2 a2 =>
        exact .inr (.inr (.inl ⟨_, _, _, _, rfl, rfl, s2.bh.sl h1, s2.bh.sl h2, Evl.sz_of (by rw [dpa_len a1, dpa_len a2]; exact h), fun p hp => k p _ B2 H2 (s1.trans s2) hp (dpa_app a1 a2)⟩))
theorem od_add_tup {xs ys : List PyData} (hx : xs ≠ []) (h : xs.length + ys.length ≤ 100000) : OpD G (rAddA G.K) (.tuple xs) (.tuple ys) (.tuple (xs ++ ys)) := fun B H v w e d1 d2 Q k => by
  cases d1 with
  | tup h1 a1 =>
    cases d2 with
    | tup h2 a2 =>
      refine .inr (.inr (.inr ⟨_, _, _, _, rfl, rfl, e.st h1, e.st h2, fun z => ?_, Evl.sz_of (by rw [dpa_len a1, dpa_len a2]; exact h), fun z => ?_, fun z p hp => ?_⟩))
      · have := dpa_len a1; rw [z] at this; exact hx (List.length_eq_zero_iff.mp this.symm)
      · have := dpa_len a2; rw [z] at this; have := List.length_eq_zero_iff.mp this.symm; subst this
        exact k _ B H (Stp.refl e) (by rw [List.append_nil]; exact .tup h1 a1)
      · exact k _ _ _ ((Stp.refl e).new hp) (.tup (SqT.of upd_same) ((Ex.new (e.back hp)).dpa (dpa_app a1 a2)))
theorem ev_add_int (ha : EvD G ta Γ (.int i)) (hb : EvD G tb Γ (.int j)) : EvD G (tOp (rAddA G.K) ta tb) Γ (.int (i + j)) := ev_op ha hb od_add_int
theorem ev_add_str (ha : EvD G ta Γ (.str p)) (hb : EvD G tb Γ (.str q)) (h : p.length + q.length ≤ 100000) : EvD G (tOp (rAddA G.K) ta tb) Γ (.str (p ++ q)) := ev_op ha hb (od_add_str h)
theorem ev_add_tup {xs ys : List PyData} (ha : EvD G ta Γ (.tuple xs)) (hb : EvD G tb Γ (.tuple ys)) (hx : xs ≠ []) (h : xs.length + ys.length ≤ 100000) : EvD G (tOp (rAddA G.K) ta tb) Γ (.tuple (xs ++ ys)) := ev_op ha hb (od_add_tup hx h)
theorem ev_sub (ha : EvD G ta Γ (.int i)) (hb : EvD G tb Γ (.int j)) : EvD G (tOp rSub ta tb) Γ (.int (i - j)) := ev_op ha hb (od_I0 fun _ => .int _)
theorem ev_mul (ha : EvD G ta Γ (.int i)) (hb : EvD G tb Γ (.int j)) (h : CMul i j) : EvD G (tOp rMul ta tb) Γ (.int (i * j)) := ev_op ha hb (od_I h fun _ => .int _)
theorem ev_div (ha : EvD G ta Γ (.int i)) (hb : EvD G tb Γ (.int j)) (h : CDiv i j) : EvD G (tOp rDiv ta tb) Γ (.int (i / j)) := ev_op ha hb (od_I h fun _ => .int _)
theorem ev_mod (ha : EvD G ta Γ (.int i)) (hb : EvD G tb Γ (.int j)) (h : 0 < j) : EvD G (tOp rMod ta tb) Γ (.int (i % j)) := ev_op ha hb (od_I h fun _ => .int _)
/-- a power of two written numbers -/
theorem ev_pow {n : Int} (ha : EvD G ta Γ (.int i)) (hb : EvD G tb Γ (.int j)) (h : CPow i j) (e : i ^ j.toNat = n) : EvD G (tOp rPow ta tb) Γ (.int n) := e ▸ ev_op ha hb (od_I h fun _ => .int _)
theorem od_lt : OpD G rLt (.int i) (.int j) (.bool (decide (i < j))) := od_I0 fun _ => .bl _
theorem od_le : OpD G rLe (.int i) (.int j) (.bool (decide (i ≤ j))) := od_I0 fun _ => .bl _
theorem od_gt : OpD G rGt (.int i) (.int j) (.bool (decide (j < i))) := od_I0 fun _ => .bl _
theorem od_ge : OpD G rGe (.int i) (.int j) (.bool (decide (j ≤ i))) := od_I0 fun _ => .bl _
theorem ev_lt (ha : EvD G ta Γ (.int i)) (hb : EvD G tb Γ (.int j)) : EvD G (tOp rLt ta tb) Γ (.bool (decide (i < j))) := ev_op ha hb od_lt
theorem ev_le (ha : EvD G ta Γ (.int i)) (hb : EvD G tb Γ (.int j)) : EvD G (tOp rLe ta tb) Γ (.bool (decide (i ≤ j))) := ev_op ha hb od_le
theorem ev_gt (ha : EvD G ta Γ (.int i)) (hb : EvD G tb Γ (.int j)) : EvD G (tOp rGt ta tb) Γ (.bool (decide (j < i))) := ev_op ha hb od_gt
theorem ev_ge (ha : EvD G ta Γ (.int i)) (hb : EvD G tb Γ (.int j)) : EvD G (tOp rGe ta tb) Γ (.bool (decide (j ≤ i))) := ev_op ha hb od_ge
theorem dec_V_int : decide (V.int i = V.int j) = decide (i = j) := by rw [Bool.eq_iff_iff]; simp
theorem dec_V_str : decide (V.str p = V.str q) = decide (p = q) := by rw [Bool.eq_iff_iff]; simp
theorem dec_V_bl : decide (V.bl a = V.bl b) = decide (a = b) := by rw [Bool.eq_iff_iff]; simp
theorem od_eq_int : OpD G (rEqA G.K) (.int i) (.int j) (.bool (decide (i = j))) := fun B H v w e d1 d2 Q k => by
  cases d1; cases d2
  exact .inl ⟨rfl, by rw [dec_V_int]; exact k _ B H (Stp.refl e) (.bl _)⟩
theorem od_eq_str : OpD G (rEqA G.K) (.str p) (.str q) (.bool (decide (p = q))) := fun B H v w e d1 d2 Q k => by
  cases d1; cases d2
  exact .inl ⟨rfl, by rw [dec_V_str]; exact k _ B H (Stp.refl e) (.bl _)⟩
theorem od_eq_bl : OpD G (rEqA G.K) (.bool a) (.bool b) (.bool (decide (a = b))) := fun B H v w e d1 d2 Q k => by
  cases d1; cases d2
  exact .inl ⟨rfl, by rw [dec_V_bl]; exact k _ B H (Stp.refl e) (.bl _)⟩
theorem od_eq_any (hx : SeqAt.shaped x = true) (hy : SeqAt.shaped y = true) : OpD G (rEqA G.K) x y (.bool (PyData.eqv x y)) := fun B H v w e d1 d2 Q k =>
  .inr ⟨x, y, e.dp d1, e.dp d2, hx, hy, k _ B H (Stp.refl e) (.bl _)⟩
theorem od_ne_int : OpD G (rNeA G.K) (.int i) (.int j) (.bool (!decide (i = j))) := fun B H v w e d1 d2 Q k => by
  cases d1; cases d2
  exact .inl ⟨rfl, by rw [dec_V_int]; exact k _ B H (Stp.refl e) (.bl _)⟩
theorem od_ne_str : OpD G (rNeA G.K) (.str p) (.str q) (.bool (!decide (p = q))) := fun B H v w e d1 d2 Q k => by
  cases d1; cases d2
  exact .inl ⟨rfl, by rw [dec_V_str]; exact k _ B H (Stp.refl e) (.bl _)⟩
theorem od_ne_bl : OpD G (rNeA G.K) (.bool a) (.bool b) (.bool (!decide (a = b))) := fun B H v w e d1 d2 Q k => by
  cases d1; cases d2
  exact .inl ⟨rfl, by rw [dec_V_bl]; exact k _ B H (Stp.refl e) (.bl _)⟩
theorem od_ne_any (hx : SeqAt.shaped x = true) (hy : SeqAt.shaped y = true) : OpD G (rNeA G.K) x y (.bool (!PyData.eqv x y)) := fun B H v w e d1 d2 Q k =>
  .inr ⟨x, y, e.dp d1, e.dp d2, hx, hy, k _ B H (Stp.refl e) (.bl _)⟩
theorem ev_eq_int (ha : EvD G ta Γ (.int i)) (hb : EvD G tb Γ (.int j)) : EvD G (tOp (rEqA G.K) ta tb) Γ (.bool (decide (i = j))) := ev_op ha hb od_eq_int
theorem ev_eq_str (ha : EvD G ta Γ (.str p)) (hb : EvD G tb Γ (.str q)) : EvD G (tOp (rEqA G.K) ta tb) Γ (.bool (decide (p = q))) := ev_op ha hb od_eq_str
theorem ev_eq_bl (ha : EvD G ta Γ (.bool a)) (hb : EvD G tb Γ (.bool b)) : EvD G (tOp (rEqA G.K) ta tb) Γ (.bool (decide (a = b))) := ev_op ha hb od_eq_bl
theorem ev_eq_any (ha : EvD G ta Γ x) (hb : EvD G tb Γ y) (hx : SeqAt.shaped x = true) (hy : SeqAt.shaped y = true) : EvD G (tOp (rEqA G.K) ta tb) Γ (.bool (PyData.eqv x y)) := ev_op ha hb (od_eq_any hx hy)
theorem ev_ne_int (ha : EvD G ta Γ (.int i)) (hb : EvD G tb Γ (.int j)) : EvD G (tOp (rNeA G.K) ta tb) Γ (.bool (!decide (i = j))) := ev_op ha hb od_ne_int
theorem ev_ne_str (ha : EvD G ta Γ (.str p)) (hb : EvD G tb Γ (.str q)) : EvD G (tOp (rNeA G.K) ta tb) Γ (.bool (!decide (p = q))) := ev_op ha hb od_ne_str
theorem ev_ne_bl (ha : EvD G ta Γ (.bool a)) (hb : EvD G tb Γ (.bool b)) : EvD G (tOp (rNeA G.K) ta tb) Γ (.bool (!decide (a = b))) := ev_op ha hb od_ne_bl
theorem ev_ne_any (ha : EvD G ta Γ x) (hb : EvD G tb Γ y) (hx : SeqAt.shaped x = true) (hy : SeqAt.shaped y = true) : EvD G (tOp (rNeA G.K) ta tb) Γ (.bool (!PyData.eqv x y)) := ev_op ha hb (od_ne_any hx hy)
def isNoneD : PyData → Bool
  | .none => true
  | _ => false
theorem dp_isN {K : PySem.W.Frag} {B : Hp} {v : V} {d : PyData} (h : Dp K B v d) : decide (v = .non) = isNoneD d := by
  cases h with
  | non => rfl
  | bl b => rfl
  | int i => rfl
  | str x => rfl
  | lst _ _ => rfl
  | tup _ _ => rfl
theorem ev_isN (ha : EvD G ta Γ x) : EvD G (tOp rIsN ta (tC .non)) Γ (.bool (isNoneD x)) := ev_op ha ev_non fun B H v w e d1 d2 Q k => by
  cases d2
  exact ⟨rfl, by rw [dp_isN d1]; exact k _ B H (Stp.refl e) (.bl _)⟩
theorem ev_isNot (ha : EvD G ta Γ x) : EvD G (tOp rIsNot ta (tC .non)) Γ (.bool (!isNoneD x)) := ev_op ha ev_non fun B H v w e d1 d2 Q k => by
  cases d2
  exact ⟨rfl, by rw [dp_isN d1]; exact k _ B H (Stp.refl e) (.bl _)⟩
/-! in -/
def flatD : PyData → Bool
  | .none => true | .bool _ => true | .int _ => true | .str _ => true | _ => false
def inD (x : PyData) (ds : List PyData) : Bool := ds.any fun y => PyData.eqv y x
theorem dp_flat {K : PySem.W.Frag} {B : Hp} {v : V} {d : PyData} (h : Dp K B v d) (f : flatD d = true) : flatV v = true := by
  cases h with
  | non => rfl
  | bl b => rfl
  | int i => rfl
  | str x => rfl
  | lst _ _ => cases f
  | tup _ _ => cases f
theorem dp_eqV {K : PySem.W.Frag} {B : Hp} {v w : V} {d e : PyData} (h : Dp K B v d) (g : Dp K B w e) (f : flatD d = true) (f' : flatD e = true) : eqV v w = PyData.eqv d e := by
  cases h with
  | lst _ _ => cases f
  | tup _ _ => cases f
  | non => cases g <;> first | (simp [eqV, PyData.eqv]; done) | cases f'
  | bl b => cases g <;> first | (cases b <;> simp [eqV, PyData.eqv]; done) | (simp [eqV, PyData.eqv]; done) | cases f'
  | int i => cases g <;> first | (simp [eqV, PyData.eqv]; done) | (rename_i b; cases b <;> simp [eqV, PyData.eqv]; done) | cases f'
  | str x => cases g <;> first | (simp [eqV, PyData.eqv]; done) | cases f'
end
end Pd

namespace Pd
open PySem L2
section
variable {G : Gd} {Γ : List Ent} {ta tb tc te : TE} {x y z d : PyData} {i j : Int} {p q : Str} {a b : Bool} {ds es : List PyData}
theorem dpa_eqAll {K : PySem.W.Frag} {B : Hp} {v : V} {d : PyData} (g : Dp K B v d) (f : flatD d = true) : ∀ {es : List PyData} {ws : List V}, DpAll K B ws es → es.all flatD = true → inV v ws = inD d es ∧ ws.all flatV = true
  | [], _, h, _ => by cases h; exact ⟨rfl, rfl⟩
  | e :: es, _, h, fa => by
    cases h with
    | cons h1 h2 =>
      rw [List.all_cons, Bool.and_eq_true] at fa
      obtain ⟨e1, e2⟩ := dpa_eqAll g f h2 fa.2
      refine ⟨?_, ?_⟩
      · show (eqV _ v || inV v _) = (PyData.eqv e d || inD d es)
        rw [e1, dp_eqV h1 g fa.1 f]
      · rw [List.all_cons, dp_flat h1 fa.1, e2]; rfl
theorem od_in {ds : List PyData} (hx : flatD x = true) (hf : ds.all flatD = true) (hy : y = .list ds ∨ y = .tuple ds) : OpD G (rInA G.K) x y (.bool (inD x ds)) := fun B H v w e d1 d2 Q k => by
  rcases hy with rfl | rfl
  · cases d2 with
    | lst h1 a1 =>
      obtain ⟨e1, e2⟩ := dpa_eqAll d1 hx a1 hf
      exact .inl ⟨_, _, rfl, .inl (e.sl h1), dp_flat d1 hx, e2, k _ B H (Stp.refl e) (by show Dp _ _ (.bl (inV v _)) _; rw [e1]; exact .bl _)⟩
  · cases d2 with
    | tup h1 a1 =>
      obtain ⟨e1, e2⟩ := dpa_eqAll d1 hx a1 hf
      exact .inl ⟨_, _, rfl, .inr (e.st h1), dp_flat d1 hx, e2, k _ B H (Stp.refl e) (by show Dp _ _ (.bl (inV v _)) _; rw [e1]; exact .bl _)⟩
theorem od_notIn {ds : List PyData} (hx : flatD x = true) (hf : ds.all flatD = true) (hy : y = .list ds ∨ y = .tuple ds) : OpD G (rNotInA G.K) x y (.bool (!inD x ds)) := fun B H v w e d1 d2 Q k => by
  rcases hy with rfl | rfl
  · cases d2 with
    | lst h1 a1 =>
      obtain ⟨e1, e2⟩ := dpa_eqAll d1 hx a1 hf
      exact .inl ⟨_, _, rfl, .inl (e.sl h1), dp_flat d1 hx, e2, k _ B H (Stp.refl e) (by show Dp _ _ (.bl (!inV v _)) _; rw [e1]; exact .bl _)⟩
  · cases d2 with
    | tup h1 a1 =>
      obtain ⟨e1, e2⟩ := dpa_eqAll d1 hx a1 hf
      exact .inl ⟨_, _, rfl, .inr (e.st h1), dp_flat d1 hx, e2, k _ B H (Stp.refl e) (by show Dp _ _ (.bl (!inV v _)) _; rw [e1]; exact .bl _)⟩
theorem ev_in_list (ha : EvD G ta Γ x) (hb : EvD G tb Γ (.list ds)) (hx : flatD x = true) (hf : ds.all flatD = true) : EvD G (tOp (rInA G.K) ta tb) Γ (.bool (inD x ds)) := ev_op ha hb (od_in hx hf (.inl rfl))
theorem ev_in_tup (ha : EvD G ta Γ x) (hb : EvD G tb Γ (.tuple ds)) (hx : flatD x = true) (hf : ds.all flatD = true) : EvD G (tOp (rInA G.K) ta tb) Γ (.bool (inD x ds)) := ev_op ha hb (od_in hx hf (.inr rfl))
theorem ev_notIn_list (ha : EvD G ta Γ x) (hb : EvD G tb Γ (.list ds)) (hx : flatD x = true) (hf : ds.all flatD = true) : EvD G (tOp (rNotInA G.K) ta tb) Γ (.bool (!inD x ds)) := ev_op ha hb (od_notIn hx hf (.inl rfl))
theorem ev_notIn_tup (ha : EvD G ta Γ x) (hb : EvD G tb Γ (.tuple ds)) (hx : flatD x = true) (hf : ds.all flatD = true) : EvD G (tOp (rNotInA G.K) ta tb) Γ (.bool (!inD x ds)) := ev_op ha hb (od_notIn hx hf (.inr rfl))
theorem ev_in_sign {c : Nat} (ha : EvD G ta Γ (.str ⟨#[c]⟩)) (hb : EvD G tb Γ (.str q)) : EvD G (tOp (rInA G.K) ta tb) Γ (.bool (decide (c ∈ q.cps.toList))) := ev_op ha hb fun B H v w e d1 d2 Q k => by
  cases d1; cases d2
  exact .inr ⟨c, q, rfl, rfl, k _ B H (Stp.refl e) (.bl _)⟩
theorem ev_notIn_sign {c : Nat} (ha : EvD G ta Γ (.str ⟨#[c]⟩)) (hb : EvD G tb Γ (.str q)) : EvD G (tOp (rNotInA G.K) ta tb) Γ (.bool (!decide (c ∈ q.cps.toList))) := ev_op ha hb fun B H v w e d1 d2 Q k => by
  cases d1; cases d2
  exact .inr ⟨c, q, rfl, rfl, k _ B H (Stp.refl e) (.bl _)⟩
/-! subscripts, slices -/
theorem dpa_at {K : PySem.W.Frag} {B : Hp} {ds : List PyData} {vs : List V} (h : DpAll K B vs ds) {i : Int} {d : PyData} (e : atI ds i = some d) : ∃ v, atI vs i = some v ∧ Dp K B v d := by
  unfold atI at e ⊢
  rw [dpa_len h]
  cases hx : ixN ds.length i with
  | none => rw [hx] at e; cases e
  | some n =>
    rw [hx] at e
    exact dpa_get h e
theorem ev_ix_list (ha : EvD G ta Γ (.list ds)) (hb : EvD G tb Γ (.int i)) (h : atI ds i = some d) : EvD G (tOp (rIx G.K) ta tb) Γ d := ev_op ha hb fun B H v w e d1 d2 Q k => by
  cases d2
  cases d1 with
  | lst h1 a1 =>
    obtain ⟨v, e1, e2⟩ := dpa_at a1 h
    exact .inl ⟨_, _, i, v, rfl, rfl, e.sl h1, e1, k v B H (Stp.refl e) e2⟩
theorem ev_ix_tup (ha : EvD G ta Γ (.tuple ds)) (hb : EvD G tb Γ (.int i)) (h : atI ds i = some d) : EvD G (tOp (rIx G.K) ta tb) Γ d := ev_op ha hb fun B H v w e d1 d2 Q k => by
  cases d2
  cases d1 with
  | tup h1 a1 =>
    obtain ⟨v, e1, e2⟩ := dpa_at a1 h
    exact .inr (.inl ⟨_, _, i, v, rfl, rfl, e.st h1, e1, k v B H (Stp.refl e) e2⟩)
theorem ev_ix_str {c : Nat} (ha : EvD G ta Γ (.str p)) (hb : EvD G tb Γ (.int i)) (hl : p.length ≤ 100000) (h : atI p.cps.toList i = some c) : EvD G (tOp (rIx G.K) ta tb) Γ (.str ⟨#[c]⟩) := ev_op ha hb fun B H v w e d1 d2 Q k => by
  cases d1; cases d2
  exact .inr (.inr ⟨p, i, c, rfl, rfl, Evl.sz_of hl, h, k _ B H (Stp.refl e) (.str _)⟩)
def rSlA (K : PySem.W.Frag) : V → Option Int → Option Int → Hp → VK → Prop := fun x lo hi H Q => rSlL K x lo hi H Q ∨ rSlT K x lo hi H Q ∨ rSlS x lo hi H Q
theorem sl_any {X : Cx} : SlR X (rSlA X.K) := sl_list.or (sl_tup.or sl_str)
def cutD (xs : List PyData) (lo hi : Option Int) : List PyData := (xs.drop (HT.sIx xs.length 0 lo)).take (HT.sIx xs.length xs.length hi - HT.sIx xs.length 0 lo)
theorem dpa_cut {K : PySem.W.Frag} {B : Hp} {ds : List PyData} {vs : List V} (h : DpAll K B vs ds) (lo hi : Option Int) : DpAll K B (cutV vs lo hi) (cutD ds lo hi) := by
  unfold cutV cutD
  rw [dpa_len h]
  exact dpa_take _ (dpa_drop _ h)
theorem ef_sl_list {tl th : TO} {lo hi : Option Int} (ha : EvD G ta Γ (.list ds)) (h1 : EvO G tl Γ lo) (h2 : EvO G th Γ hi) : EvF G (tSl (rSlA G.K) ta tl th) Γ (cutD ds lo hi) := fun B0 H0 B H σ E Q k =>
  ha B0 H0 B H σ E _ fun v B1 H1 s1 d1 => h1 B0 H0 B1 H1 σ (E.step s1) _ fun B2 H2 s2 => h2 B0 H0 B2 H2 σ (E.step (s1.trans s2)) _ fun B3 H3 s3 => by
    have d3 := (s2.trans s3).bb.dp d1
    cases d3 with
    | lst g1 a1 => exact .inl ⟨_, _, rfl, s3.bh.sl g1, fun p hp => k p _ B3 H3 ((s1.trans s2).trans s3) hp (dpa_cut a1 lo hi)⟩
theorem ev_sl_str {tl th : TO} {lo hi : Option Int} (ha : EvD G ta Γ (.str p)) (h1 : EvO G tl Γ lo) (h2 : EvO G th Γ hi) (hl : p.length ≤ 100000) : EvD G (tSl (rSlA G.K) ta tl th) Γ (.str (cutS p lo hi)) := fun B0 H0 B H σ E Q k =>
  ha B0 H0 B H σ E _ fun v B1 H1 s1 d1 => h1 B0 H0 B1 H1 σ (E.step s1) _ fun B2 H2 s2 => h2 B0 H0 B2 H2 σ (E.step (s1.trans s2)) _ fun B3 H3 s3 => by
    cases d1
    exact .inr (.inr ⟨p, rfl, Evl.sz_of hl, k _ B3 H3 ((s1.trans s2).trans s3) (.str _)⟩)
/-! len, int, str, list, tuple, max, min -/
theorem ca_len_list : CaD G (rLen G.K) [.list ds] (.int (ds.length : Int)) := fun B H vs e dv Q k => by
  cases dv with
  | cons h1 h2 =>
    cases h2
    cases h1 with
    | lst g a => exact ⟨_, _, rfl, .inl ⟨_, e.sl g, rfl⟩, by rw [dpa_len a]; exact k _ B H (Stp.refl e) (.int _)⟩
theorem ca_len_tup : CaD G (rLen G.K) [.tuple ds] (.int (ds.length : Int)) := fun B H vs e dv Q k => by
  cases dv with
  | cons h1 h2 =>
    cases h2
    cases h1 with
    | tup g a => exact ⟨_, _, rfl, .inr ⟨_, e.st g, rfl⟩, by rw [dpa_len a]; exact k _ B H (Stp.refl e) (.int _)⟩
theorem ca_len_str (hl : p.length ≤ 100000) : CaD G (rLen G.K) [.str p] (.int (p.length : Int)) := fun B H vs e dv Q k => by
  cases dv with
  | cons h1 h2 =>
    cases h2; cases h1
    exact ⟨_, p.length, rfl, ⟨Evl.sz_of hl, rfl⟩, k _ B H (Stp.refl e) (.int _)⟩
theorem ca_int_int : CaD G rIntA [.int i] (.int i) := fun B H vs e dv Q k => by
  cases dv with
  | cons h1 h2 => cases h2; cases h1; exact .inl (.inl ⟨i, rfl, k _ B H (Stp.refl e) (.int _)⟩)
theorem ca_int_bl : CaD G rIntA [.bool a] (.int (if a then 1 else 0)) := fun B H vs e dv Q k => by
  cases dv with
  | cons h1 h2 => cases h2; cases h1; exact .inl (.inr ⟨a, rfl, k _ B H (Stp.refl e) (.int _)⟩)
theorem ca_int_str {n : Int} (h : PySem.intText? p = some n) (hl : p.length ≤ 640) : CaD G rIntA [.str p] (.int n) := fun B H vs e dv Q k => by
  cases dv with
  | cons h1 h2 => cases h2; cases h1; exact .inr ⟨p, n, rfl, h, hl, k _ B H (Stp.refl e) (.int _)⟩
theorem ca_str_int (hl : i.natAbs.log2 < 1920) : CaD G rStrI [.int i] (.str (toString i)) := fun B H vs e dv Q k => by
  cases dv with
  | cons h1 h2 => cases h2; cases h1; exact ⟨i, rfl, hl, k _ B H (Stp.refl e) (.str _)⟩
theorem cf_list (hz : z = .list ds ∨ z = .tuple ds) : CaF G (rListOf G.K) [z] ds := fun B H vs e dv Q k => by
  cases dv with
  | cons h1 h2 =>
    cases h2
    rcases hz with rfl | rfl
    · cases h1 with
      | lst g a => exact ⟨_, _, rfl, .inl (e.sl g), fun l hl => k l _ B H (Stp.refl e) hl a⟩
    · cases h1 with
      | tup g a => exact ⟨_, _, rfl, .inr (e.st g), fun l hl => k l _ B H (Stp.refl e) hl a⟩
theorem ca_tup_list : CaD G (rTupOf G.K) [.list ds] (.tuple ds) := fun B H vs e dv Q k => by
  cases dv with
  | cons h1 h2 =>
    cases h2
    cases h1 with
    | lst g a => exact ⟨_, _, rfl, .inl ⟨e.sl g, fun l hl => k _ _ _ ((Stp.refl e).new hl) (.tup (SqT.of upd_same) ((Ex.new (e.back hl)).dpa a))⟩⟩
theorem ca_tup_tup : CaD G (rTupOf G.K) [.tuple ds] (.tuple ds) := fun B H vs e dv Q k => by
  cases dv with
  | cons h1 h2 =>
    cases h2
    cases h1 with
    | tup g a => exact ⟨_, _, rfl, .inr ⟨e.st g, k _ B H (Stp.refl e) (.tup g a)⟩⟩
theorem ca_max : CaD G rMax2 [.int i, .int j] (.int (if j > i then j else i)) := fun B H vs e dv Q k => by
  cases dv with
  | cons h1 h2 =>
    cases h2 with
    | cons h2 h3 => cases h3; cases h1; cases h2; exact ⟨i, j, rfl, k _ B H (Stp.refl e) (.int _)⟩
theorem ca_min : CaD G rMin2 [.int i, .int j] (.int (if j < i then j else i)) := fun B H vs e dv Q k => by
  cases dv with
  | cons h1 h2 =>
    cases h2 with
    | cons h2 h3 => cases h3; cases h1; cases h2; exact ⟨i, j, rfl, k _ B H (Stp.refl e) (.int _)⟩
/-! all, any of a list of bools -/
def boD : PyData → Bool
  | .bool b => b
  | _ => false
theorem dpa_bos {K : PySem.W.Frag} {B : Hp} : ∀ {ds : List PyData} {vs : List V}, DpAll K B vs ds → (∀ d ∈ ds, ∃ b, d = .bool b) → ∃ bs : List Bool, vs = bs.map V.bl ∧ bs = ds.map boD
  | [], _, h, _ => by cases h; exact ⟨[], rfl, rfl⟩
  | d :: ds, _, h, f => by
    cases h with
    | cons h1 h2 =>
      obtain ⟨bs, e1, e2⟩ := dpa_bos h2 fun d' hd => f d' (List.mem_cons_of_mem _ hd)
      obtain ⟨b, rfl⟩ := f d List.mem_cons_self
      cases h1
      exact ⟨b :: bs, by rw [e1]; rfl, by rw [e2]; rfl⟩
theorem ca_all (f : ∀ d ∈ ds, ∃ b, d = .bool b) : CaD G (rAll G.K) [.list ds] (.bool (ds.all boD)) := fun B H vs e dv Q k => by
  cases dv with
  | cons h1 h2 =>
    cases h2
    cases h1 with
    | lst g a =>
      obtain ⟨bs, e1, e2⟩ := dpa_bos a f
      subst e1
      refine ⟨_, bs, rfl, e.sl g, k _ B H (Stp.refl e) ?_⟩
      rw [e2, List.all_map]
      exact .bl _
theorem ca_any (f : ∀ d ∈ ds, ∃ b, d = .bool b) : CaD G (rAny G.K) [.list ds] (.bool (ds.any boD)) := fun B H vs e dv Q k => by
  cases dv with
  | cons h1 h2 =>
    cases h2
    cases h1 with
    | lst g a =>
      obtain ⟨bs, e1, e2⟩ := dpa_bos a f
      subst e1
      refine ⟨_, bs, rfl, e.sl g, k _ B H (Stp.refl e) ?_⟩
      rw [e2, List.any_map]
      exact .bl _
/-! isinstance -/
def tyD : PyData → String
  | .none => "NoneType" | .bool _ => "bool" | .int _ => "int" | .str _ => "str" | .list _ => "list" | .tuple _ => "tuple" | .dict _ => "dict"
def isiD (T : String) (d : PyData) : Bool := (kitB (tyD d) T).getD false
theorem dp_ty {K : PySem.W.Frag} {B H : Hp} {v : V} {d : PyData} (e : Ex B H) (h : Dp K B v d) : TyX K H v (.type (tyD d)) := by
  cases h with
  | non => exact .base .non
  | bl b => exact .base (.bl b)
  | int i => exact .base (.int i)
  | str x => exact .base (.str x)
  | lst g _ =>
    rcases e.sl g with (h | ⟨o, h⟩) | ⟨o, its, n, h1, h2, _⟩
    · exact .base (.lst h)
    · exact .base (.frz h)
    · exact .kList h1 h2
  | tup g _ =>
    rcases e.st g with (h | ⟨o, h⟩) | ⟨o, its, n, h1, h2, _⟩
    · exact .base (.tup h)
    · exact .fTuple h
    · exact .kTuple h1 h2
theorem ev_isi {T : String} (h : EvD G te Γ x) (ht : (kitB (tyD x) T).isSome = true) : EvD G (tCB (rIsi G.K) (tCons te (tCons (tC (.ty T)) tNil))) Γ (.bool (isiD T x)) := fun B0 H0 B H σ E Q k =>
  h B0 H0 B H σ E _ fun v B1 H1 s1 d1 => by
    refine ⟨v, .ty T, .type (tyD x), .type T, isiD T x, rfl, .ty T, dp_ty s1.bh d1, kit_ty ?_, k _ B1 H1 s1 (.bl _)⟩
    unfold isiD
    cases hk : kitB (tyD x) T with
    | none => rw [hk] at ht; cases ht
    | some b => rfl
def tyNames : List String := ["NoneType", "bool", "int", "str", "list", "tuple", "dict"]
theorem tyD_in (x : PyData) : tyD x ∈ tyNames := by cases x <;> simp [tyD, tyNames]
theorem ks_int : ∀ a ∈ tyNames, (kitB a "int").isSome = true := by decide +kernel
theorem kb_int (x : PyData) : (kitB (tyD x) "int").isSome = true := ks_int _ (tyD_in x)
theorem kg_int : ∀ a ∈ tyNames, (kitB a "int").getD false = (a == "int" || a == "bool") := by decide +kernel
theorem ks_bool : ∀ a ∈ tyNames, (kitB a "bool").isSome = true := by decide +kernel
theorem kb_bool (x : PyData) : (kitB (tyD x) "bool").isSome = true := ks_bool _ (tyD_in x)
theorem kg_bool : ∀ a ∈ tyNames, (kitB a "bool").getD false = (a == "bool") := by decide +kernel
theorem ks_str : ∀ a ∈ tyNames, (kitB a "str").isSome = true := by decide +kernel
theorem kb_str (x : PyData) : (kitB (tyD x) "str").isSome = true := ks_str _ (tyD_in x)
theorem kg_str : ∀ a ∈ tyNames, (kitB a "str").getD false = (a == "str") := by decide +kernel
theorem ks_list : ∀ a ∈ tyNames, (kitB a "list").isSome = true := by decide +kernel
theorem kb_list (x : PyData) : (kitB (tyD x) "list").isSome = true := ks_list _ (tyD_in x)
theorem kg_list : ∀ a ∈ tyNames, (kitB a "list").getD false = (a == "list") := by decide +kernel
theorem ks_tuple : ∀ a ∈ tyNames, (kitB a "tuple").isSome = true := by decide +kernel
theorem kb_tuple (x : PyData) : (kitB (tyD x) "tuple").isSome = true := ks_tuple _ (tyD_in x)
theorem kg_tuple : ∀ a ∈ tyNames, (kitB a "tuple").getD false = (a == "tuple") := by decide +kernel
def isInt : PyData → Bool
  | .int _ => true | .bool _ => true | _ => false
def isBool : PyData → Bool
  | .bool _ => true | _ => false
def isStr : PyData → Bool
  | .str _ => true | _ => false
def isList : PyData → Bool
  | .list _ => true | _ => false
def isTup : PyData → Bool
  | .tuple _ => true | _ => false
theorem isi_int (x : PyData) : isiD "int" x = isInt x := by
  show (kitB (tyD x) "int").getD false = _
  rw [kg_int _ (tyD_in x)]
  cases x <;> rfl
theorem isi_bool (x : PyData) : isiD "bool" x = isBool x := by
  show (kitB (tyD x) "bool").getD false = _
  rw [kg_bool _ (tyD_in x)]
  cases x <;> rfl
theorem isi_str (x : PyData) : isiD "str" x = isStr x := by
  show (kitB (tyD x) "str").getD false = _
  rw [kg_str _ (tyD_in x)]
  cases x <;> rfl
theorem isi_list (x : PyData) : isiD "list" x = isList x := by
  show (kitB (tyD x) "list").getD false = _
  rw [kg_list _ (tyD_in x)]
  cases x <;> rfl
theorem isi_tuple (x : PyData) : isiD "tuple" x = isTup x := by
  show (kitB (tyD x) "tuple").getD false = _
  rw [kg_tuple _ (tyD_in x)]
  cases x <;> rfl
theorem ev_isInt (h : EvD G te Γ x) : EvD G (tCB (rIsi G.K) (tCons te (tCons (tC (.ty "int")) tNil))) Γ (.bool (isInt x)) := isi_int x ▸ ev_isi h (kb_int x)
theorem ev_isBool (h : EvD G te Γ x) : EvD G (tCB (rIsi G.K) (tCons te (tCons (tC (.ty "bool")) tNil))) Γ (.bool (isBool x)) := isi_bool x ▸ ev_isi h (kb_bool x)
theorem ev_isStr (h : EvD G te Γ x) : EvD G (tCB (rIsi G.K) (tCons te (tCons (tC (.ty "str")) tNil))) Γ (.bool (isStr x)) := isi_str x ▸ ev_isi h (kb_str x)
theorem ev_isList (h : EvD G te Γ x) : EvD G (tCB (rIsi G.K) (tCons te (tCons (tC (.ty "list")) tNil))) Γ (.bool (isList x)) := isi_list x ▸ ev_isi h (kb_list x)
theorem ev_isTup (h : EvD G te Γ x) : EvD G (tCB (rIsi G.K) (tCons te (tCons (tC (.ty "tuple")) tNil))) Γ (.bool (isTup x)) := isi_tuple x ▸ ev_isi h (kb_tuple x)
end
end Pd

namespace Pd
open PySem L2
/-! ### walks -/
def WalksD (K : PySem.W.Frag) (J : It) (B1 : Hp) (xs : List PyData) : Prop :=
  ∀ (i : Nat) (B' H' : Hp), Ex B1 B' → Ex B' H' →
    (i < xs.length → J.go i H' ∧ ∀ x H'', J.yld i H' x H'' → ∃ B'' d, Stp B' H' B'' H'' ∧ xs[i]? = some d ∧ Dp K B'' x d) ∧ (xs.length ≤ i → J.stop i H')
section
variable (G : Gd)
def ItD (wi : TI) (Γ : List Ent) (xs : List PyData) : Prop :=
  ∀ (B0 H0 B H : Hp) (σ : L2.St), EnvB G B0 H0 B H σ Γ → ∀ R : It → Hp → Prop, (∀ J B1 H1, Stp B H B1 H1 → WalksD G.K J B1 xs → R J H1) → wi σ H R
def TgD (g : TG) (idx : List Nat) (Γ : List Ent) (d : PyData) (Γ' : List Ent) : Prop :=
  ∀ (B0 H0 B H : Hp) (σ : L2.St), EnvB G B0 H0 B H σ Γ → ∀ v, Dp G.K B v d → ∀ Q : L2.St → Hp → Prop,
    (∀ σ', EnvB G B0 H0 B H σ' Γ' → (∀ vs : List Nat, (∀ i ∈ idx, i ∈ vs) → wipe σ' vs = wipe σ vs) → Q σ' H) → g v σ H Q
end
section
variable {G : Gd} {Γ : List Ent} {ta tb tc te tl : TE} {x y z d : PyData} {i j : Int} {p q : Str} {ds es xs ys : List PyData}
theorem it_list (h : EvD G tl Γ (.list xs)) : ItD G (iList G.K tl) Γ xs := fun B0 H0 B H σ E R k =>
  h B0 H0 B H σ E _ fun v B1 H1 s1 d1 => by
    cases d1 with
    | @lst a ws _ g hv =>
      refine ⟨a, rfl, ⟨ws, s1.bh.sl g⟩, k _ B1 H1 s1 fun i B' H' e1 e2 => ⟨fun hi => ?_, fun hi => ⟨ws, e2.sl (e1.sl g), by rw [dpa_len hv]; exact hi⟩⟩⟩
      have hx : xs[i]? = some xs[i] := List.getElem?_eq_getElem hi
      obtain ⟨v, f1, f2⟩ := dpa_get hv hx
      refine ⟨⟨ws, v, e2.sl (e1.sl g), f1⟩, fun x H'' hy => ?_⟩
      obtain ⟨rfl, hy⟩ := hy
      have := hy ws (e2.sl (e1.sl g))
      rw [f1] at this; cases this
      exact ⟨B', _, Stp.refl e2, hx, e1.dp f2⟩
theorem it_tup (h : EvD G tl Γ (.tuple xs)) : ItD G (iTup G.K tl) Γ xs := fun B0 H0 B H σ E R k =>
  h B0 H0 B H σ E _ fun v B1 H1 s1 d1 => by
    cases d1 with
    | @tup a ws _ g hv =>
      refine ⟨a, rfl, ⟨ws, s1.bh.st g⟩, k _ B1 H1 s1 fun i B' H' e1 e2 => ⟨fun hi => ?_, fun hi => ⟨ws, e2.st (e1.st g), by rw [dpa_len hv]; exact hi⟩⟩⟩
      have hx : xs[i]? = some xs[i] := List.getElem?_eq_getElem hi
      obtain ⟨v, f1, f2⟩ := dpa_get hv hx
      refine ⟨⟨ws, v, e2.st (e1.st g), f1⟩, fun x H'' hy => ?_⟩
      obtain ⟨rfl, hy⟩ := hy
      have := hy ws (e2.st (e1.st g))
      rw [f1] at this; cases this
      exact ⟨B', _, Stp.refl e2, hx, e1.dp f2⟩
def signsD (p : Str) : List PyData := p.cps.toList.map fun c => .str ⟨#[c]⟩
theorem it_str (h : EvD G tl Γ (.str p)) : ItD G (iStr tl) Γ (signsD p) := fun B0 H0 B H σ E R k =>
  h B0 H0 B H σ E _ fun v B1 H1 s1 d1 => by
    cases d1
    have hl : (signsD p).length = p.cps.size := by unfold signsD; rw [List.length_map, Array.length_toList]
    refine ⟨p, rfl, k _ B1 H1 s1 fun i B' H' e1 e2 => ⟨fun hi => ⟨by rw [hl] at hi; exact hi, fun x H'' hy => ?_⟩, fun hi => by rw [hl] at hi; exact hi⟩⟩
    obtain ⟨rfl, c, hc, rfl⟩ := hy
    refine ⟨B', .str ⟨#[c]⟩, Stp.refl e2, ?_, .str _⟩
    unfold signsD
    rw [List.getElem?_map, Array.getElem?_toList, hc]; rfl
theorem it_any_list (h : EvD G tl Γ (.list xs)) : ItD G (iAny G.K tl) Γ xs := fun B0 H0 B H σ E R k => .inl (it_list h B0 H0 B H σ E R k)
theorem it_any_tup (h : EvD G tl Γ (.tuple xs)) : ItD G (iAny G.K tl) Γ xs := fun B0 H0 B H σ E R k => .inr (.inl (it_tup h B0 H0 B H σ E R k))
theorem it_any_str (h : EvD G tl Γ (.str p)) : ItD G (iAny G.K tl) Γ (signsD p) := fun B0 H0 B H σ E R k => .inr (.inr (it_str h B0 H0 B H σ E R k))
/-- lo, lo + 1, .. (n of them) -/
def rngD (lo : Int) (n : Nat) : List PyData := (List.range n).map fun (k : Nat) => .int (lo + (k : Int))
theorem rngD_len (lo : Int) (n : Nat) : (rngD lo n).length = n := by unfold rngD; rw [List.length_map, List.length_range]
theorem rngD_get {lo : Int} {n k : Nat} (h : k < n) : (rngD lo n)[k]? = some (.int (lo + (k : Int))) := by
  unfold rngD; rw [List.getElem?_map, List.getElem?_range h]; rfl
theorem walks_rng {K : PySem.W.Frag} {lo : Int} {n : Nat} {B1 : Hp} : WalksD K (Itr lo n) B1 (rngD lo n) := fun i B' H' e1 e2 => by
  rw [rngD_len]
  refine ⟨fun hi => ⟨hi, fun x H'' hy => ?_⟩, fun hi => hi⟩
  obtain ⟨rfl, rfl⟩ := hy
  exact ⟨B', _, Stp.refl e2, rngD_get hi, .int _⟩
theorem it_rng1 {ta : TA} {n : Int} (h : EvA G ta Γ [.int n]) (h1 : -(2 ^ 62) ≤ n) (h2 : n < 2 ^ 62) : ItD G (iRng1 ta) Γ (rngD 0 n.toNat) := fun B0 H0 B H σ E R k =>
  h B0 H0 B H σ E _ fun vs B1 H1 s1 d1 => by
    cases d1 with
    | cons a b => cases b; cases a; exact ⟨n, rfl, h1, h2, k _ B1 H1 s1 walks_rng⟩
theorem it_rng2 {ta : TA} {lo n : Int} (h : EvA G ta Γ [.int lo, .int n]) (h1 : -(2 ^ 62) ≤ lo) (h2 : lo < 2 ^ 62) (h3 : -(2 ^ 62) ≤ n) (h4 : n < 2 ^ 62) : ItD G (iRng2 ta) Γ (rngD lo (n - lo).toNat) := fun B0 H0 B H σ E R k =>
  h B0 H0 B H σ E _ fun vs B1 H1 s1 d1 => by
    cases d1 with
    | cons a b =>
      cases b with
      | cons b c => cases c; cases a; cases b; exact ⟨lo, n, rfl, ⟨h1, h2, h3, h4⟩, k _ B1 H1 s1 walks_rng⟩
/-- reversed(a list or a tuple) -/
theorem rev_get {α : Type} {l : List α} {k : Nat} (h : k < l.length) : l.reverse[k]? = l[l.length - 1 - k]? := List.getElem?_reverse h
theorem it_rev_list (h : EvD G tl Γ (.list xs)) : ItD G (RT.iRevA G.K tl) Γ xs.reverse := fun B0 H0 B H σ E R k =>
  h B0 H0 B H σ E _ fun v B1 H1 s1 d1 => by
    cases d1 with
    | @lst a ws _ g hv =>
      have hl := dpa_len hv
      refine ⟨a, ws, rfl, .inl ⟨s1.bh.sl g, k _ B1 H1 s1 fun i B' H' e1 e2 => ⟨fun hi => ?_, fun hi => by rw [List.length_reverse, ← hl] at hi; exact hi⟩⟩⟩
      rw [List.length_reverse] at hi
      have hx : xs[xs.length - 1 - i]? = some xs[xs.length - 1 - i] := List.getElem?_eq_getElem (by omega)
      obtain ⟨v, f1, f2⟩ := dpa_get hv hx
      rw [← hl] at f1
      refine ⟨⟨by omega, ws, v, e2.sl (e1.sl g), f1⟩, fun x H'' hy => ?_⟩
      obtain ⟨rfl, hy⟩ := hy
      have := hy ws (e2.sl (e1.sl g))
      rw [f1] at this; cases this
      exact ⟨B', _, Stp.refl e2, by rw [rev_get hi]; exact hx, e1.dp f2⟩
/-- targets -/
theorem wipe_get (σ : L2.St) : ∀ (vs : List Nat) (k : Nat), (wipe σ vs)[k]? = if k ∈ vs then (if k < σ.length then some none else none) else σ[k]?
  | [], k => by simp [wipe]
  | v :: vs, k => by
    unfold wipe
    by_cases e : v = k
    · subst e
      by_cases hk : v < (wipe σ vs).length
      · rw [List.getElem?_set_self hk, wipe_length] at *; simp [hk]
      · rw [List.getElem?_eq_none (by rw [List.length_set]; omega)]; rw [wipe_length] at hk; simp [hk]
    · rw [List.getElem?_set_ne e, wipe_get σ vs k]
      have : (k ∈ v :: vs) ↔ k ∈ vs := by simp [Ne.symm e]
      simp only [this]
theorem wipe_set {σ : L2.St} {i : Nat} {x : Option V} {vs : List Nat} (h : i ∈ vs) : wipe (σ.set i x) vs = wipe σ vs := by
  apply List.ext_getElem?
  intro k
  rw [wipe_get, wipe_get, List.length_set]
  by_cases hk : k ∈ vs
  · simp [hk]
  · simp only [hk, if_false]
    exact List.getElem?_set_ne (fun e => hk (by rw [← e]; exact h))
theorem tg_name {i : Nat} : TgD G (gName i) [i] Γ d (Γ.set i (.dat d)) := fun B0 H0 B H σ E v hv Q k => k _ (E.set_dat i hv) fun vs h => wipe_set (h i (by simp))
theorem tg_tup2 {i j : Nat} {d1 d2 : PyData} : TgD G (gTup G.K 2 (gCons (gName i) (gCons (gName j) gNil))) [i, j] Γ (.tuple [d1, d2]) ((Γ.set i (.dat d1)).set j (.dat d2)) := fun B0 H0 B H σ E v hv Q k => by
  cases hv with
  | @tup a ws _ g hv =>
    cases hv with
    | cons h1 h2 =>
      cases h2 with
      | cons h2 h3 =>
        cases h3
        exact ⟨a, _, rfl, E.stp.bh.st g, rfl, _, _, rfl, _, _, rfl, rfl, k _ ((E.set_dat i h1).set_dat j h2) fun vs h => by rw [wipe_set (h j (by simp)), wipe_set (h i (by simp))]⟩

/-! ### comprehensions: one clause -/
theorem wipe_wipe {σ : L2.St} {vs : List Nat} : wipe (wipe σ vs) vs = wipe σ vs := by
  apply List.ext_getElem?
  intro k
  rw [wipe_get, wipe_get, wipe_length]
  by_cases hk : k ∈ vs <;> simp [hk]
theorem ef_lc {α : Type} {wi : TI} {g : TG} {tt : TT} {vs : List Nat} {c : α → PyData} {ys : List α} (idx : List Nat) (Γx : α → List Ent) (f : α → Bool) (h : α → PyData) (hi : ItD G wi Γ (ys.map c)) (hz : ys.length ≤ 50000) (hv : ∀ i ∈ idx, i ∈ vs)
    (hg : ∀ y ∈ ys, TgD G g idx (wipeE Γ vs) (c y) (Γx y)) (ht : ∀ y ∈ ys, EvT G tt (Γx y) (f y)) (he : ∀ y ∈ ys, f y = true → EvD G te (Γx y) (h y)) :
    EvF G (tLc wi g tt te vs) Γ ((ys.filter f).map h) := fun B0 H0 B H σ E Q k =>
  hi B0 H0 B H σ E _ fun J B1 H1 s1 w => fun Dl hD => by
    have E1 := E.step s1
    unfold WalksD at w
    rw [List.length_map] at w
    refine ⟨fun i m H' => m = ys.length - i ∧ i ≤ ys.length ∧ ∃ B' ws, Stp B1 H1 B' H' ∧ B' Dl = none ∧ H' Dl = some (.lst ws) ∧ DpAll G.K B' ws (((ys.take i).filter f).map h),
      ⟨ys.length, by simp, Nat.zero_le _, B1, [], (Stp.refl s1.bh).own hD, s1.bh.back hD, upd_same, by simp; exact .nil⟩, ?_⟩
    rintro i m H' ⟨rfl, hle, B', ws, s2, nB, hH, hd⟩
    obtain ⟨w1, w2⟩ := w i B' H' s2.bb s2.bh
    by_cases hlt : i < ys.length
    · obtain ⟨go, yl⟩ := w1 hlt
      refine .inr ⟨go, fun H3 => ∃ B3 ws3, Stp B1 H1 B3 H3 ∧ B3 Dl = none ∧ H3 Dl = some (.lst ws3) ∧ DpAll G.K B3 ws3 (((ys.take (i + 1)).filter f).map h), fun H3 ⟨B3, ws3, a1, a2, a3, a4⟩ => ⟨ys.length - (i + 1), by omega, rfl, hlt, B3, ws3, a1, a2, a3, a4⟩, fun x H'' hy => ?_⟩
      obtain ⟨B'', d, s3, hx, hdx⟩ := yl x H'' hy
      have hy' : ys[i]? = some ys[i] := List.getElem?_eq_getElem hlt
      generalize ys[i] = y at hy'
      have hdy : d = c y := by rw [List.getElem?_map, hy'] at hx; exact (Option.some.inj hx).symm
      subst hdy
      have hmem : y ∈ ys := List.mem_of_getElem? hy'
      have hD'' : H'' Dl = some (.lst ws) := s3.hh Dl _ hH
      have nB'' : B'' Dl = none := s3.hid Dl _ hH nB
      have s23 := s2.trans s3
      have E3 := (E1.step s23).wipe vs
      refine hg y hmem B0 H0 B'' H'' _ E3 x hdx _ fun σ2 E4 hw => ⟨by rw [hw vs hv, wipe_wipe], ?_⟩
      refine ht y hmem B0 H0 B'' H'' σ2 E4 _ fun B4 H4 s4 => ?_
      have htake : (ys.take (i + 1)) = ys.take i ++ [y] := by rw [List.take_add_one, hy']; rfl
      cases hf : f y with
      | false =>
        show ∃ B3 ws3, _
        refine ⟨B4, ws, s23.trans s4, s4.hid Dl _ hD'' nB'', s4.hh Dl _ hD'', ?_⟩
        rw [htake, List.filter_append, List.filter_cons, if_neg (by rw [hf]; decide), List.filter_nil, List.append_nil]
        exact (s3.trans s4).bb.dpa hd
      | true =>
        show te σ2 H4 _
        refine he y hmem hf B0 H0 B4 H4 σ2 (E4.step s4) _ fun z B5 H5 s5 d5 => ?_
        have s45 := s4.trans s5
        have hD5 : H5 Dl = some (.lst ws) := s45.hh Dl _ hD''
        have nB5 : B5 Dl = none := s45.hid Dl _ hD'' nB''
        have hl : ws.length ≤ i := by
          rw [dpa_len hd, List.length_map]
          refine Nat.le_trans (List.length_filter_le _ _) ?_
          rw [List.length_take]; omega
        refine ⟨ws, hD5, Evl.sz_lt (by omega), B5, ws ++ [z], ?_, nB5, upd_same, ?_⟩
        · have st := s23.trans s45
          refine ⟨st.bb, st.bh.mut nB5, fun a o ha => ?_, st.hid⟩
          rw [upd_ne (ne_of_none ha hD)]; exact st.hh a o ha
        · rw [htake, List.filter_append, List.filter_cons, if_pos hf, List.filter_nil, List.map_append]
          exact dpa_app ((s3.trans s45).bb.dpa hd) (.cons d5 .nil)
    · have e : i = ys.length := by omega
      subst e
      refine .inl ⟨w2 (Nat.le_refl _), ?_⟩
      rw [List.take_length] at hd
      have hb : Stp B H B' (fun a => if a = Dl then none else H' a) := by
        refine ⟨s1.bb.trans s2.bb, fun a o ha => ?_, fun a o ha => ?_, fun a o ha z => ?_⟩
        · rw [if_neg (ne_of_none ha nB)]; exact s2.bh a o ha
        · have h1 := s1.hh a o ha
          rw [if_neg (ne_of_none h1 hD)]; exact s2.hh a o h1
        · exact s2.hid a o (s1.hh a o ha) (s1.hid a o ha z)
      have := k Dl ws B' (fun a => if a = Dl then none else H' a) hb (if_pos rfl) hd
      have e : upd (fun a => if a = Dl then none else H' a) Dl (.lst ws) = H' := by
        funext a
        unfold upd
        by_cases ha : a = Dl
        · rw [if_pos ha, ha, hH]
        · rw [if_neg ha]
          show (if a = Dl then none else H' a) = H' a
          rw [if_neg ha]
      rw [e] at this
      exact this
theorem ef_lcn {α : Type} {wi : TI} {tt : TT} {vs : List Nat} {j : Nat} {c : α → PyData} {zs : List α} {f : α → Bool} {h : α → PyData} (hi : ItD G wi Γ (zs.map c)) (hz : zs.length ≤ 50000) (hv : j ∈ vs)
    (ht : ∀ y ∈ zs, EvT G tt ((wipeE Γ vs).set j (.dat (c y))) (f y)) (he : ∀ y ∈ zs, f y = true → EvD G te ((wipeE Γ vs).set j (.dat (c y))) (h y)) :
    EvF G (tLc wi (gName j) tt te vs) Γ ((zs.filter f).map h) := ef_lc [j] _ f h hi hz (by simpa using hv) (fun y _ => tg_name) ht he
/-- without a test -/
theorem ef_lcm {α : Type} {wi : TI} {vs : List Nat} {j : Nat} {c : α → PyData} {zs : List α} {h : α → PyData} (hi : ItD G wi Γ (zs.map c)) (hz : zs.length ≤ 50000) (hv : j ∈ vs)
    (he : ∀ y ∈ zs, EvD G te ((wipeE Γ vs).set j (.dat (c y))) (h y)) : EvF G (tLc wi (gName j) tYes te vs) Γ (zs.map h) := by
  have := ef_lcn (tt := tYes) (f := fun _ => true) hi hz hv (fun y _ => et_yes) (fun y hy _ => he y hy)
  rw [List.filter_eq_self.mpr (fun _ _ => rfl)] at this
  exact this
end

/-! ### statements -/
structure Post where
  nx : List Ent → Prop
  bk : List Ent → Prop := fun _ => False
  ct : List Ent → Prop := fun _ => False
  rt : PyData → Prop
  er : Addr → List Ent → Prop := fun _ _ => False
structure Mt (G : Gd) (W : WX) (B0 H0 B : Hp) (D : Ends) (P : Post) : Prop where
  nx : ∀ Γ2 B2 H2 σ2, P.nx Γ2 → Ex B B2 → EnvB G B0 H0 B2 H2 σ2 Γ2 → D.nx σ2 H2
  bk : ∀ Γ2 B2 H2 σ2, P.bk Γ2 → Ex B B2 → EnvB G B0 H0 B2 H2 σ2 Γ2 → D.bk σ2 H2
  ct : ∀ Γ2 B2 H2 σ2, P.ct Γ2 → Ex B B2 → EnvB G B0 H0 B2 H2 σ2 Γ2 → D.ct σ2 H2
  rt : ∀ d v B2 H2, P.rt d → Stp B0 H0 B2 H2 → Ex B B2 → Dp G.K B2 v d → D.rt v H2
  er : ∀ c Γ2 B2 H2 σ2, P.er c Γ2 → Ex B B2 → EnvB G B0 H0 B2 H2 σ2 Γ2 → W (.ref c) none σ2 H2
def WpD (G : Gd) (W : WX) (ts : TS) (Γ : List Ent) (P : Post) : Prop :=
  ∀ (B0 H0 B H : Hp) (σ : L2.St) (D : Ends), EnvB G B0 H0 B H σ Γ → Mt G W B0 H0 B D P → ts D σ H
section
variable {G : Gd} {W : WX} {B0 H0 B B1 : Hp} {D : Ends} {P P' : Post}
theorem Mt.up (M : Mt G W B0 H0 B D P) (e : Ex B B1) : Mt G W B0 H0 B1 D P :=
  ⟨fun _ _ _ _ a b => M.nx _ _ _ _ a (e.trans b), fun _ _ _ _ a b => M.bk _ _ _ _ a (e.trans b), fun _ _ _ _ a b => M.ct _ _ _ _ a (e.trans b), fun _ _ _ _ a s b => M.rt _ _ _ _ a s (e.trans b), fun _ _ _ _ _ a b => M.er _ _ _ _ _ a (e.trans b)⟩
end
section
variable {G : Gd} {W : WX} {Γ : List Ent} {ta tb tc te tl : TE} {tt : TT} {ts tu tw tz : TS} {d x y : PyData} {i j : Int} {ds es xs : List PyData} {P : Post} {a b : Bool}
theorem WpD.mono {P' : Post} (h : WpD G W ts Γ P) (h1 : ∀ Γ', P.nx Γ' → P'.nx Γ') (h2 : ∀ Γ', P.bk Γ' → P'.bk Γ') (h3 : ∀ Γ', P.ct Γ' → P'.ct Γ') (h4 : ∀ d, P.rt d → P'.rt d) (h5 : ∀ c Γ', P.er c Γ' → P'.er c Γ') : WpD G W ts Γ P' := fun B0 H0 B H σ D E M =>
  h B0 H0 B H σ D E ⟨fun _ _ _ _ a => M.nx _ _ _ _ (h1 _ a), fun _ _ _ _ a => M.bk _ _ _ _ (h2 _ a), fun _ _ _ _ a => M.ct _ _ _ _ (h3 _ a), fun _ _ _ _ a => M.rt _ _ _ _ (h4 _ a), fun _ _ _ _ _ a => M.er _ _ _ _ _ (h5 _ _ a)⟩
/-- a word between -/
theorem wp_cut (N : List Ent → Prop) (h : WpD G W ts Γ { P with nx := N }) (k : ∀ Γ', N Γ' → P.nx Γ') : WpD G W ts Γ P := h.mono k (fun _ z => z) (fun _ z => z) (fun _ z => z) fun _ _ z => z
theorem wp_seq (h : WpD G W ts Γ { P with nx := fun Γ' => WpD G W tu Γ' P }) : WpD G W (tSeq ts tu) Γ P := fun B0 H0 B H σ D E M =>
  h B0 H0 B H σ { D with nx := tu D } E ⟨fun Γ2 B2 H2 σ2 a b E2 => a B0 H0 B2 H2 σ2 D E2 (M.up b), M.bk, M.ct, M.rt, M.er⟩
theorem wp_next (h : P.nx Γ) : WpD G W tNext Γ P := fun B0 H0 B H σ D E M => M.nx Γ B H σ h Ex.rfl' E
theorem wp_break (h : P.bk Γ) : WpD G W tBreak Γ P := fun B0 H0 B H σ D E M => M.bk Γ B H σ h Ex.rfl' E
theorem wp_cont (h : P.ct Γ) : WpD G W tCont Γ P := fun B0 H0 B H σ D E M => M.ct Γ B H σ h Ex.rfl' E
theorem wp_never (h : False) : WpD G W ts Γ P := h.elim
theorem wp_asg {i : Nat} (h : EvD G te Γ d) (k : P.nx (Γ.set i (.dat d))) : WpD G W (tAsg te (gName i)) Γ P := fun B0 H0 B H σ D E M =>
  h B0 H0 B H σ E _ fun v B1 H1 s1 d1 => M.nx _ _ _ _ k s1.bb ((E.step s1).set_dat i d1)
theorem wp_asg_own {i : Nat} (h : EvF G te Γ ds) (k : P.nx (Γ.set i (.own ds))) : WpD G W (tAsg te (gName i)) Γ P := fun B0 H0 B H σ D E M =>
  h B0 H0 B H σ E _ fun p vs B1 H1 s1 hp d1 => M.nx _ _ _ _ k s1.bb ((E.step s1).set_own i hp d1)
theorem wp_ret (h : EvD G te Γ d) (k : P.rt d) : WpD G W (tRet te) Γ P := fun B0 H0 B H σ D E M =>
  h B0 H0 B H σ E _ fun v B1 H1 s1 d1 => M.rt d v B1 H1 k (E.stp.trans s1) s1.bb d1
theorem wp_retN (k : P.rt .none) : WpD G W tRetN Γ P := fun B0 H0 B H σ D E M => M.rt .none .non B H k E.stp Ex.rfl' .non
theorem wp_drop (h : EvD G te Γ d) (k : P.nx Γ) : WpD G W (tDrop te) Γ P := fun B0 H0 B H σ D E M =>
  h B0 H0 B H σ E _ fun v B1 H1 s1 d1 => M.nx _ _ _ _ k s1.bb (E.step s1)
theorem wp_if (h : EvT G tt Γ b) (h1 : b = true → WpD G W tu Γ P) (h2 : b = false → WpD G W tw Γ P) : WpD G W (tIfS tt tu tw) Γ P := fun B0 H0 B H σ D E M =>
  h B0 H0 B H σ E _ fun B1 H1 s1 => by
    cases b with
    | true => exact h1 rfl B0 H0 B1 H1 σ D (E.step s1) (M.up s1.bb)
    | false => exact h2 rfl B0 H0 B1 H1 σ D (E.step s1) (M.up s1.bb)
theorem wp_aug {i : Nat} {f : Int → Int → Int} {m n : Int} (hx : Γ[i]? = some (.dat (.int m))) (h : EvD G te Γ (.int n)) (k : P.nx (Γ.set i (.dat (.int (f m n))))) : WpD G W (tAug i te (ipI f)) Γ P := fun B0 H0 B H σ D E M => by
  obtain ⟨v, e1, e2⟩ := E.dat hx
  refine ⟨v, e1, h B0 H0 B H σ E _ fun w B1 H1 s1 d1 => ?_⟩
  cases e2; cases d1
  exact ⟨m, n, rfl, rfl, M.nx _ _ _ _ k s1.bb ((E.step s1).set_dat i (.int _))⟩
theorem wp_freeze {i : Nat} (hi : Γ[i]? = some (.own ds)) (k : WpD G W ts (Γ.set i (.dat (.list ds))) P) : WpD G W ts Γ P := fun B0 H0 B H σ D E M => by
  obtain ⟨B1, e, E1⟩ := E.freeze hi
  exact k B0 H0 B1 H σ D E1 (M.up e)
theorem nx_freeze {i : Nat} {N : List Ent → Prop} (h : N = fun Γ' => WpD G W ts Γ' P) (hi : Γ[i]? = some (.own ds)) (k : N (Γ.set i (.dat (.list ds)))) : N Γ := by
  subst h; exact wp_freeze hi k
/-- xs.append(e), the list of a slot -/
theorem wp_app {i : Nat} (hi : Γ[i]? = some (.own ds)) (h : EvD G te Γ d) (hz : ds.length < 100000) (k : P.nx (Γ.set i (.own (ds ++ [d])))) : WpD G W (tDrop (tBM G.K "list" rAppend (tVar i) (tCons te tNil))) Γ P := fun B0 H0 B H σ D E M => by
  obtain ⟨p, vs, e1, e2, e3, e4, e5⟩ := E.own hi
  refine ⟨.ref p, e1, .inl ⟨rfl, vs, SqL.of e4⟩, h B0 H0 B H σ E _ fun v B1 H1 s1 d1 => ?_⟩
  have E1 := E.step s1
  refine ⟨p, vs, v, rfl, rfl, s1.hh p _ e4, Evl.sz_lt (by rw [dpa_len e5]; exact hz), ?_⟩
  exact M.nx _ _ _ _ k s1.bb (E1.mut_own hi e1 (dpa_app (s1.bb.dpa e5) (.cons d1 .nil)))
/-- xs[n] = e, the list of a slot -/
theorem ixN_ok {n : Nat} {k : Int} {j : Nat} (h : ixN n k = some j) : j < n := by
  obtain ⟨_, h2, _⟩ := ixN_seq h; exact h2
theorem wp_setL {i : Nat} {k : Int} {j : Nat} (hi : Γ[i]? = some (.own ds)) (h : EvD G te Γ d) (hk : EvD G tb Γ (.int k)) (hj : ixN ds.length k = some j) (q : P.nx (Γ.set i (.own (ds.set j d)))) : WpD G W (tAsg te (gSub (tVar i) tb rSetL)) Γ P := fun B0 H0 B H σ D E M =>
  h B0 H0 B H σ E _ fun v B1 H1 s1 d1 => by
    have E1 := E.step s1
    obtain ⟨p, vs, e1, e2, e3, e4, e5⟩ := E1.own hi
    refine ⟨.ref p, e1, hk B0 H0 B1 H1 σ E1 _ fun w B2 H2 s2 d2 => ?_⟩
    cases d2
    refine ⟨p, vs, k, j, rfl, rfl, s2.hh p _ e4, by rw [dpa_len e5]; exact hj, ?_⟩
    exact M.nx _ _ _ _ q (s1.bb.trans s2.bb) ((E1.step s2).mut_own hi e1 (dpa_set j (s2.bb.dpa e5) (s2.bb.dp d1)))
theorem wp_raise {C : Addr} (k : P.er C Γ) : WpD G W (fun _ σ H => W (.ref C) none σ H) Γ P := fun B0 H0 B H σ D E M => M.er C Γ B H σ k Ex.rfl' E
/-- loops by a word of the turn -/
theorem wp_for {wi : TI} {g : TG} {tb : TS} {idx : List Nat} (I : Nat → List Ent → Prop) (hi : ItD G wi Γ xs) (h0 : I 0 Γ)
    (hs : ∀ i x Γ', xs[i]? = some x → I i Γ' → ∃ Γ'', TgD G g idx Γ' x Γ'' ∧ WpD G W tb Γ'' { P with nx := I (i + 1), ct := I (i + 1), bk := P.nx }) (hd : ∀ Γ', I xs.length Γ' → P.nx Γ') : WpD G W (tFor wi g tb) Γ P := fun B0 H0 B H σ D E M =>
  hi B0 H0 B H σ E _ fun J B1 H1 s1 w => by
    refine ⟨fun i m σ' H' => m = xs.length - i ∧ i ≤ xs.length ∧ ∃ Γ' B', I i Γ' ∧ Ex B1 B' ∧ EnvB G B0 H0 B' H' σ' Γ', ⟨xs.length, by simp, Nat.zero_le _, Γ, B1, h0, Ex.rfl', E.step s1⟩, ?_⟩
    rintro i m σ' H' ⟨rfl, hle, Γ', B', hI, e1, E'⟩
    obtain ⟨w1, w2⟩ := w i B' H' e1 E'.stp.bh
    by_cases hlt : i < xs.length
    · obtain ⟨go, yl⟩ := w1 hlt
      refine .inr ⟨go, fun σ3 H3 => ∃ Γ3 B3, I (i + 1) Γ3 ∧ Ex B1 B3 ∧ EnvB G B0 H0 B3 H3 σ3 Γ3, fun σ3 H3 ⟨Γ3, B3, a1, a2, a3⟩ => ⟨xs.length - (i + 1), by omega, rfl, hlt, Γ3, B3, a1, a2, a3⟩, fun x H'' hy => ?_⟩
      obtain ⟨B'', d, s3, hx, hdx⟩ := yl x H'' hy
      obtain ⟨Γ'', hT, hW⟩ := hs i d Γ' hx hI
      refine hT B0 H0 B'' H'' σ' (E'.step s3) x hdx _ fun σ2 E2 _ => ?_
      refine hW B0 H0 B'' H'' σ2 _ E2 ⟨fun Γ3 B3 H3 σ3 a1 a2 a3 => ⟨Γ3, B3, a1, (e1.trans s3.bb).trans a2, a3⟩, fun Γ3 B3 H3 σ3 a1 a2 a3 => M.nx _ _ _ _ a1 (((s1.bb.trans e1).trans s3.bb).trans a2) a3,
        fun Γ3 B3 H3 σ3 a1 a2 a3 => ⟨Γ3, B3, a1, (e1.trans s3.bb).trans a2, a3⟩, fun d v B3 H3 a1 a2 a3 => M.rt _ _ _ _ a1 a2 (((s1.bb.trans e1).trans s3.bb).trans a3), fun c Γ3 B3 H3 σ3 a1 a2 a3 => M.er _ _ _ _ _ a1 (((s1.bb.trans e1).trans s3.bb).trans a2) a3⟩
    · have e : i = xs.length := by omega
      subst e
      exact .inl ⟨w2 (Nat.le_refl _), M.nx _ _ _ _ (hd _ hI) (s1.bb.trans e1) E'⟩
/-- .. where the target is a name -/
theorem wp_forn {wi : TI} {j : Nat} {tb : TS} (I : Nat → List Ent → Prop) (hi : ItD G wi Γ xs) (h0 : I 0 Γ)
    (hs : ∀ i x Γ', xs[i]? = some x → I i Γ' → WpD G W tb (Γ'.set j (.dat x)) { P with nx := I (i + 1), ct := I (i + 1), bk := P.nx }) (hd : ∀ Γ', I xs.length Γ' → P.nx Γ') : WpD G W (tFor wi (gName j) tb) Γ P :=
  wp_for I hi h0 (fun i x Γ' hx hI => ⟨_, tg_name, hs i x Γ' hx hI⟩) hd
theorem wp_while {tb : TS} (I : Nat → List Ent → Prop) (m : Nat) (h0 : I m Γ)
    (hs : ∀ m Γ', I m Γ' → ∃ b, EvT G tt Γ' b ∧ (b = true → WpD G W tb Γ' { P with nx := fun Γ2 => ∃ m', m' < m ∧ I m' Γ2, ct := fun Γ2 => ∃ m', m' < m ∧ I m' Γ2, bk := P.nx }) ∧ (b = false → P.nx Γ')) : WpD G W (tWhile tt tb) Γ P := fun B0 H0 B H σ D E M => by
  refine ⟨fun m σ' H' => ∃ Γ' B', I m Γ' ∧ Ex B B' ∧ EnvB G B0 H0 B' H' σ' Γ', ⟨m, Γ, B, h0, Ex.rfl', E⟩, ?_⟩
  rintro m σ' H' ⟨Γ', B', hI, e1, E'⟩
  obtain ⟨b, hb, h1, h2⟩ := hs m Γ' hI
  refine hb B0 H0 B' H' σ' E' _ fun B2 H2 s2 => ?_
  have e2 := e1.trans s2.bb
  cases b with
  | true =>
    refine ⟨fun σ3 H3 => ∃ m', m' < m ∧ ∃ Γ3 B3, I m' Γ3 ∧ Ex B B3 ∧ EnvB G B0 H0 B3 H3 σ3 Γ3, fun σ3 H3 h => h, ?_⟩
    refine h1 rfl B0 H0 B2 H2 σ' _ (E'.step s2) ⟨fun Γ3 B3 H3 σ3 ⟨m', a0, a1⟩ a2 a3 => ⟨m', a0, Γ3, B3, a1, e2.trans a2, a3⟩, fun Γ3 B3 H3 σ3 a1 a2 a3 => M.nx _ _ _ _ a1 (e2.trans a2) a3, fun Γ3 B3 H3 σ3 ⟨m', a0, a1⟩ a2 a3 => ⟨m', a0, Γ3, B3, a1, e2.trans a2, a3⟩,
      fun d v B3 H3 a1 a2 a3 => M.rt _ _ _ _ a1 a2 (e2.trans a3), fun c Γ3 B3 H3 σ3 a1 a2 a3 => M.er _ _ _ _ _ a1 (e2.trans a2) a3⟩
  | false => exact M.nx _ _ _ _ (h2 rfl) e2 (E'.step s2)
end

/-! ### defs -/
inductive Res where
  | ok (d : PyData) | err (c : Addr)
/-- a def over data that raises nothing: R arguments result -/
def spV (K : PySem.W.Frag) (R : List PyData → PyData → Prop) : Sp := fun vs H Q _ => ∃ B ds d, Ex B H ∧ DpAll K B vs ds ∧ R ds d ∧ ∀ v B2 H2, Stp B H B2 H2 → Dp K B2 v d → Q v H2
/-- .. that may raise -/
def spR (K : PySem.W.Frag) (R : List PyData → Res → Prop) : Sp := fun vs H Q E => ∃ B ds r, Ex B H ∧ DpAll K B vs ds ∧ R ds r ∧ (∀ d v B2 H2, r = .ok d → Stp B H B2 H2 → Dp K B2 v d → Q v H2) ∧ ∀ c B2 H2, r = .err c → Stp B H B2 H2 → E (.ref c) none H2
/-- the slots at the entry -/
def entry (N : List Str) (ds : List PyData) : List Ent := ds.map .dat ++ List.replicate (N.length - ds.length) .no
theorem entry_env {K : PySem.W.Frag} {B H : Hp} {N : List Str} {vs : List V} {ds : List PyData} (e : Ex B H) (h : DpAll K B vs ds) : EnvB (.pure K) B H B H (L2.start N vs) (entry N ds) := by
  have hl := dpa_len h
  refine ⟨Stp.refl e, ⟨fun c hc => (nomatch hc), trivial⟩, by simp [L2.start, entry, hl], fun i x en h1 h2 => ?_, fun i j p ds' es hij h1 h2 => ?_, fun i p ds' h1 h2 z => (nomatch z)⟩
  · unfold L2.start at h1
    unfold entry at h2
    by_cases hi : i < ds.length
    · rw [List.getElem?_append_left (by simpa using hi), List.getElem?_map, List.getElem?_eq_getElem hi] at h2
      rw [List.getElem?_append_left (by simpa [hl] using hi), List.getElem?_map] at h1
      cases h2
      obtain ⟨v, e1, e2⟩ := dpa_get h (List.getElem?_eq_getElem hi)
      rw [e1] at h1; cases h1
      exact ⟨v, rfl, e2⟩
    · rw [List.getElem?_append_right (by simpa using hi), List.getElem?_replicate] at h2
      split at h2
      · cases h2; trivial
      · cases h2
  · exfalso
    unfold entry at h1
    by_cases hi : i < ds.length
    · rw [List.getElem?_append_left (by simpa using hi), List.getElem?_map, List.getElem?_eq_getElem hi] at h1
      cases h1
    · rw [List.getElem?_append_right (by simpa using hi), List.getElem?_replicate] at h1
      split at h1 <;> cases h1
abbrev WNo : WX := fun _ _ _ _ => False
abbrev WOf (E : XK) : WX := fun c d _ H => E c d H
section
variable {P : Program} {w : World} {K : PySem.W.Frag} {mg : Str → Option Value} {base : Heap}
theorem fn_ok {x qual : Str} {st : Stmt} {f : Addr} {fd : FuncData} {N ps : List Str} {k : Nat} {R : List PyData → PyData → Prop} (F : Fun K x qual st f fd) (S : FnScope N ps (defScope st)) (len : ∀ ds d, R ds d → ds.length = ps.length)
    (hb : ∀ (cdv : Value) (A : Around) (outer : List Env) (s : Shared) (H : Hp) (E : XK), Room k (A.deeper (PyProof.Rows.envOfC qual (defScope st) s.heap.objs.size f cdv)) →
      ∃ t, PSs (cxOf CX0 P w K mg base N qual (defScope st) f cdv A outer s H E).nox (defBody st) t ∧ ∀ ds d, R ds d → WpD (.pure K) WNo t (entry N ds) { nx := fun _ => d = .none, rt := fun d' => d' = d }) : FnOk P w K mg base CX0 (k + 1) f fd ps (spV K R) := by
  refine F.ok S (fun vs H Q E h => ?_) (fun cdv A outer s H vs Q E hr h => ?_)
  · obtain ⟨B, ds, d, e, hd, hR, _⟩ := h
    rw [dpa_len hd]; exact len ds d hR
  · obtain ⟨B, ds, d, e, hd, hR, q⟩ := h
    obtain ⟨t, ht, hw⟩ := hb cdv A outer s H E hr
    refine ⟨t, ht, hw ds d hR B H B H _ _ (entry_env e hd) ⟨fun Γ2 B2 H2 σ2 a b c => ?_, fun _ _ _ _ a => a.elim, fun _ _ _ _ a => a.elim, fun d' v B2 H2 a s2 _ d2 => ?_, fun _ _ _ _ _ a => a.elim⟩⟩
    · exact q .non B2 H2 c.stp (by rw [a]; exact .non)
    · exact q v B2 H2 s2 (by rw [← a]; exact d2)
theorem fn_okX {x qual : Str} {st : Stmt} {f : Addr} {fd : FuncData} {N ps : List Str} {k : Nat} {R : List PyData → Res → Prop} (F : Fun K x qual st f fd) (S : FnScope N ps (defScope st)) (len : ∀ ds r, R ds r → ds.length = ps.length)
    (hb : ∀ (cdv : Value) (A : Around) (outer : List Env) (s : Shared) (H : Hp) (E : XK), Room k (A.deeper (PyProof.Rows.envOfC qual (defScope st) s.heap.objs.size f cdv)) →
      ∃ t, PSs (cxOf (L2.CX P w) P w K mg base N qual (defScope st) f cdv A outer s H E) (defBody st) t ∧ ∀ ds r, R ds r → WpD (.pure K) (WOf E) t (entry N ds) { nx := fun _ => r = .ok .none, rt := fun d' => r = .ok d', er := fun c _ => r = .err c }) : FnOk P w K mg base (L2.CX P w) (k + 1) f fd ps (spR K R) := by
  refine F.okX S (fun vs H Q E h => ?_) (fun cdv A outer s H vs Q E hr h => ?_)
  · obtain ⟨B, ds, d, e, hd, hR, _⟩ := h
    rw [dpa_len hd]; exact len ds d hR
  · obtain ⟨B, ds, r, e, hd, hR, q1, q2⟩ := h
    obtain ⟨t, ht, hw⟩ := hb cdv A outer s H E hr
    refine ⟨t, ht, hw ds r hR B H B H _ _ (entry_env e hd) ⟨fun Γ2 B2 H2 σ2 a b c => ?_, fun _ _ _ _ a => a.elim, fun _ _ _ _ a => a.elim, fun d' v B2 H2 a s2 _ d2 => ?_, fun c Γ2 B2 H2 σ2 a b c' => ?_⟩⟩
    · exact q1 .none .non B2 H2 a c.stp .non
    · exact q1 d' v B2 H2 a s2 d2
    · exact q2 c B2 H2 a c'.stp
end
section
variable {G : Gd} {W : WX} {Γ : List Ent} {te : TE} {ta : TA} {d : PyData} {ds : List PyData} {P : Post} {E : XK}
/-- calls of such defs -/
theorem ev_call {R : List PyData → PyData → Prop} (h : EvA G ta Γ ds) (hR : R ds d) : EvD G (tCall (spV G.K R) [] E ta) Γ d := fun B0 H0 B H σ En Q k =>
  h B0 H0 B H σ En _ fun vs B1 H1 s1 d1 => ⟨B1, ds, d, s1.bh, by rw [List.append_nil]; exact d1, hR, fun v B2 H2 s2 d2 => k v B2 H2 (s1.trans s2) d2⟩
theorem ev_callOk {R : List PyData → Res → Prop} (h : EvA G ta Γ ds) (hR : R ds (.ok d)) : EvD G (tCall (spR G.K R) [] E ta) Γ d := fun B0 H0 B H σ En Q k =>
  h B0 H0 B H σ En _ fun vs B1 H1 s1 d1 => ⟨B1, ds, _, s1.bh, by rw [List.append_nil]; exact d1, hR, fun d' v B2 H2 e s2 d2 => by cases e; exact k v B2 H2 (s1.trans s2) d2, fun c B2 H2 e => by cases e⟩
/-- what may raise -/
def EvR (G : Gd) (W : WX) (te : TE) (Γ : List Ent) (r : Res) : Prop :=
  ∀ (B0 H0 B H : Hp) (σ : L2.St), EnvB G B0 H0 B H σ Γ → ∀ Q : VK, (∀ d v B2 H2, r = .ok d → Stp B H B2 H2 → Dp G.K B2 v d → Q v H2) → (∀ c B2 H2, r = .err c → Stp B H B2 H2 → W (.ref c) none σ H2) → te σ H Q
theorem er_call {R : List PyData → Res → Prop} {r : Res} (h : EvA G ta Γ ds) (hR : R ds r) : EvR G W (tCallS (spR G.K R) (WE W) ta) Γ r := fun B0 H0 B H σ En Q k1 k2 =>
  h B0 H0 B H σ En _ fun vs B1 H1 s1 d1 => ⟨B1, ds, r, s1.bh, d1, hR, fun d' v B2 H2 e s2 d2 => k1 d' v B2 H2 e (s1.trans s2) d2, fun c B2 H2 e s2 => k2 c B2 H2 e (s1.trans s2)⟩
theorem wp_asgR {i : Nat} {r : Res} (h : EvR G W te Γ r) (k1 : ∀ d, r = .ok d → P.nx (Γ.set i (.dat d))) (k2 : ∀ c, r = .err c → P.er c Γ) : WpD G W (tAsg te (gName i)) Γ P := fun B0 H0 B H σ D E M =>
  h B0 H0 B H σ E _ (fun d v B1 H1 e s1 d1 => M.nx _ _ _ _ (k1 d e) s1.bb ((E.step s1).set_dat i d1)) fun c B1 H1 e s1 => M.er _ _ _ _ _ (k2 c e) s1.bb (E.step s1)
theorem wp_dropR {r : Res} (h : EvR G W te Γ r) (k1 : ∀ d, r = .ok d → P.nx Γ) (k2 : ∀ c, r = .err c → P.er c Γ) : WpD G W (tDrop te) Γ P := fun B0 H0 B H σ D E M =>
  h B0 H0 B H σ E _ (fun d v B1 H1 e s1 d1 => M.nx _ _ _ _ (k1 d e) s1.bb (E.step s1)) fun c B1 H1 e s1 => M.er _ _ _ _ _ (k2 c e) s1.bb (E.step s1)
theorem wp_retR {r : Res} (h : EvR G W te Γ r) (k1 : ∀ d, r = .ok d → P.rt d) (k2 : ∀ c, r = .err c → P.er c Γ) : WpD G W (tRet te) Γ P := fun B0 H0 B H σ D E M =>
  h B0 H0 B H σ E _ (fun d v B1 H1 e s1 d1 => M.rt d v B1 H1 (k1 d e) (E.stp.trans s1) s1.bb d1) fun c B1 H1 e s1 => M.er _ _ _ _ _ (k2 c e) s1.bb (E.step s1)
/-- try: body, except C: suite (without a name) -/
theorem wp_try {K : PySem.W.Frag} {cv : Value} {tb : WX → TS} {tsu : Addr → Value → Option Addr → TS} (hb : ∀ W', WpD G W' (tb W') Γ { P with er := fun c Γ' => ∃ b, PySem.W.exmOne K (.ref c) cv = some b ∧ (b = true → ∀ a, WpD G W (tsu a (.ref c) none) Γ' P) ∧ (b = false → P.er c Γ') }) :
    WpD G W (fun D σ H => tb (wOnly K cv tsu W D) D σ H) Γ P := fun B0 H0 B H σ D E M =>
  hb _ B0 H0 B H σ D E ⟨M.nx, M.bk, M.ct, M.rt, fun c Γ2 B2 H2 σ2 ⟨b, e1, e2, e3⟩ x E2 => ⟨b, e1, fun hb a _ => e2 hb a B0 H0 B2 H2 σ2 D E2 (M.up x), fun hb => M.er _ _ _ _ _ (e3 hb) x E2⟩⟩
end
end Pd

namespace Pd
open PySem L2
/-! ### defs and constants of the text, bundled -/
/-- the def st stands at the name x -/
structure FnT (K : PySem.W.Frag) (mg : Str → Option Value) (x qual : Str) (st : Stmt) : Prop where
  ex : ∃ f fd, mg x = some (.ref f) ∧ Fun K x qual st f fd
/-- a def that keeps its promise -/
structure FnB (P : Program) (w : World) (K : PySem.W.Frag) (mg : Str → Option Value) (base : Heap) (CX : CXT) (k : Nat) (x : Str) (ps : List Str) (sp : Sp) : Prop where
  ex : ∃ f fd, mg x = some (.ref f) ∧ PySem.W.keepIn K (.ref f) = true ∧ Binds K fd ps [] ∧ FnOk P w K mg base CX k f fd ps sp
theorem FnT.ok {P : Program} {w : World} {K : PySem.W.Frag} {mg : Str → Option Value} {base : Heap} {CX : CXT} {k : Nat} {x qual : Str} {ps : List Str} {sp : Sp} {st : Stmt} (T : FnT K mg x qual st)
    (h : ∀ (kV doc pm : Value) (an : Option Addr) (cdv ct : Value) (us : List Value), us.length = ps.length → bindArgs (PySem.W.fnOf x qual (defArgs st) (defBody st) (defScope st) .none kV doc pm an cdv ct) ⟨us, []⟩ = pure (ps.zip us))
    (g : ∀ f fd, Fun K x qual st f fd → FnOk P w K mg base CX k f fd ps sp) : FnB P w K mg base CX k x ps sp := by
  obtain ⟨f, fd, e, F⟩ := T.ex
  exact ⟨f, fd, e, F.kp, F.binds h, g f fd F⟩
section
variable {X : Cx} {CX : CXT} {k j : Nat} {x : Str} {ps : List Str} {sp : Sp} {E : XK} {ES : L2.St → XK} {p pos : Pos} {e : Expr} {es : List Expr} {t : TA}
theorem pe_callF (B : FnB X.prog X.w X.K X.mg X.base CX k x ps sp) (hr : Room k X.A) (hg : Gl X x) (hx : Passes CX X E) (ha : PA X (e :: es) t) (hdb : (x == ("__debug__" : Str)) = false := by decide)
    (he : starEach (e :: es) X.env = (false, eval e X.env) :: starEach es X.env := by rfl) (hpl : (backTo pos (starEach es X.env)).any (·.1) = false := by rfl) :
    PE X (.Call (.Name x p) (e :: es) [] pos) (tCall sp [] E t) := by
  obtain ⟨f, fd, h1, h2, h3, h4⟩ := B.ex
  exact pe_call h4 hr hg h1 h2 h3 .nil hx ha hdb he hpl
theorem pe_callF0 (B : FnB X.prog X.w X.K X.mg X.base CX k x ps sp) (hr : Room k X.A) (hg : Gl X x) (hx : Passes CX X E) (hdb : (x == ("__debug__" : Str)) = false := by decide) :
    PE X (.Call (.Name x p) [] [] pos) (tCall sp [] E tNil) := by
  obtain ⟨f, fd, h1, h2, h3, h4⟩ := B.ex
  exact pe_call0 h4 hr hg h1 h2 h3 .nil hx hdb
theorem pe_callFS (B : FnB X.prog X.w X.K X.mg X.base CX k x ps sp) (hr : Room k X.A) (hg : Gl X x) (hx : ∀ σ, PassesAt CX X σ (ES σ)) (ha : PA X (e :: es) t) (hdb : (x == ("__debug__" : Str)) = false := by decide)
    (he : starEach (e :: es) X.env = (false, eval e X.env) :: starEach es X.env := by rfl) (hpl : (backTo pos (starEach es X.env)).any (·.1) = false := by rfl) :
    PE X (.Call (.Name x p) (e :: es) [] pos) (tCallS sp ES t) := by
  obtain ⟨f, fd, h1, h2, h3, h4⟩ := B.ex
  exact pe_callS h4 hr hg h1 h2 h3 hx ha hdb he hpl
end
/-- a whole number, a text of the module -/
structure GInt (mg : Str → Option Value) (x : Str) (n : Int) : Prop where
  ex : ∃ t, mg x = some (.int n t)
structure GStr (mg : Str → Option Value) (x : Str) (z : Str) : Prop where
  ex : ∃ t, mg x = some (.str z t)
/-- a list of the module -/
structure GDat (K : PySem.W.Frag) (mg : Str → Option Value) (x : Str) (a : Addr) (d : PyData) : Prop where
  g : mg x = some (.ref a)
  d : ∀ B, Dp K B (.ref a) d
section
variable {X : Cx} {K : PySem.W.Frag} {x : Str} {n : Int} {z : Str} {a : Addr} {d : PyData} {pos : Pos}
theorem pe_gint (h : GInt X.mg x n) (hg : Gl X x) (hd : (x == ("__debug__" : Str)) = false := by decide) : PE X (.Name x pos) (tC (.int n)) := by
  obtain ⟨t, e⟩ := h.ex
  exact pe_glob hg e ⟨t, rfl⟩ hd
theorem pe_gstr (h : GStr X.mg x z) (hg : Gl X x) (hd : (x == ("__debug__" : Str)) = false := by decide) : PE X (.Name x pos) (tC (.str z)) := by
  obtain ⟨t, e⟩ := h.ex
  exact pe_glob hg e ⟨t, rfl⟩ hd
theorem pe_gdat (h : GDat K X.mg x a d) (hg : Gl X x) (hd : (x == ("__debug__" : Str)) = false := by decide) : PE X (.Name x pos) (tC (.ref a)) := pe_glob hg h.g rfl hd
theorem pe_cls (h : X.mg x = some (.ref a)) (hg : Gl X x) (hd : (x == ("__debug__" : Str)) = false := by decide) : PE X (.Name x pos) (tC (.ref a)) := pe_glob hg h rfl hd
/-- a built-in class as a value -/
theorem pe_ty {T : String} (hm : X.mg x = none) (hv : bootBuiltins x = some (.type T)) (hg : Gl X x) (hn : x ≠ "__name__" := by decide) (hd : (x == ("__debug__" : Str)) = false := by decide) : PE X (.Name x pos) (tC (.ty T)) := pe_bltn hg hm hv rfl hn hd
end
theorem bb_len : bootBuiltins "len" = some (.builtin "len") := by decide +kernel
theorem bb_isinstance : bootBuiltins "isinstance" = some (.builtin "isinstance") := by decide +kernel
theorem bb_all : bootBuiltins "all" = some (.builtin "all") := by decide +kernel
theorem bb_any : bootBuiltins "any" = some (.builtin "any") := by decide +kernel
theorem bb_max : bootBuiltins "max" = some (.builtin "max") := by decide +kernel
theorem bb_min : bootBuiltins "min" = some (.builtin "min") := by decide +kernel
theorem bb_int : bootBuiltins "int" = some (.type "int") := by decide +kernel
theorem bb_bool : bootBuiltins "bool" = some (.type "bool") := by decide +kernel
theorem bb_str : bootBuiltins "str" = some (.type "str") := by decide +kernel
theorem bb_list : bootBuiltins "list" = some (.type "list") := by decide +kernel
theorem bb_tuple : bootBuiltins "tuple" = some (.type "tuple") := by decide +kernel
theorem bb_ValueError : bootBuiltins "ValueError" = some (.type "ValueError") := by decide +kernel
/-- a side condition -/
structure Side (p : Prop) : Prop where
  out : p
section
variable {G : Gd} {Γ : List Ent}
theorem ev_p4 : EvD G (tOp rPow (tC (.int 10)) (tC (.int 4))) Γ (.int 10000) := ev_pow ev_int ev_int ⟨by decide, by decide, by decide⟩ (by decide)
theorem ev_p6 : EvD G (tOp rPow (tC (.int 10)) (tC (.int 6))) Γ (.int 1000000) := ev_pow ev_int ev_int ⟨by decide, by decide, by decide⟩ (by decide)
theorem ev_p9 : EvD G (tOp rPow (tC (.int 10)) (tC (.int 9))) Γ (.int 1000000000) := ev_pow ev_int ev_int ⟨by decide, by decide, by decide⟩ (by decide)
theorem ev_p11 : EvD G (tOp rPow (tC (.int 10)) (tC (.int 11))) Γ (.int 100000000000) := ev_pow ev_int ev_int ⟨by decide, by decide, by decide⟩ (by decide)
theorem ev_p12 : EvD G (tOp rPow (tC (.int 10)) (tC (.int 12))) Γ (.int 1000000000000) := ev_pow ev_int ev_int ⟨by decide, by decide, by decide⟩ (by decide)
theorem ev_p20 : EvD G (tOp rPow (tC (.int 10)) (tC (.int 20))) Γ (.int 100000000000000000000) := ev_pow ev_int ev_int ⟨by decide, by decide, by decide⟩ (by decide)
theorem ev_p30 : EvD G (tOp rPow (tC (.int 10)) (tC (.int 30))) Γ (.int 1000000000000000000000000000000) := ev_pow ev_int ev_int ⟨by decide, by decide, by decide⟩ (by decide)
end

/-! ### the same, their side conditions marked -/
section
variable {G : Gd} {Γ : List Ent} {ta tb tc te : TE} {x y z d : PyData} {i j k : Int} {p q : Str} {ds es : List PyData} {t : TA}
theorem w_add_str (ha : EvD G ta Γ (.str p)) (hb : EvD G tb Γ (.str q)) (h : Side (p.length + q.length ≤ 100000)) : EvD G (tOp (rAddA G.K) ta tb) Γ (.str (p ++ q)) := ev_add_str ha hb h.out
theorem w_add_tup (ha : EvD G ta Γ (.tuple ds)) (hb : EvD G tb Γ (.tuple es)) (hx : Side (ds ≠ [])) (h : Side (ds.length + es.length ≤ 100000)) : EvD G (tOp (rAddA G.K) ta tb) Γ (.tuple (ds ++ es)) := ev_add_tup ha hb hx.out h.out
theorem w_add_list (ha : EvD G ta Γ (.list ds)) (hb : EvD G tb Γ (.list es)) (h : Side (ds.length + es.length ≤ 100000)) : EvF G (tOp (rAddA G.K) ta tb) Γ (ds ++ es) := of_add_list h.out ha hb
theorem w_mul (ha : EvD G ta Γ (.int i)) (hb : EvD G tb Γ (.int j)) (h : Side (CMul i j)) : EvD G (tOp rMul ta tb) Γ (.int (i * j)) := ev_mul ha hb h.out
theorem w_div (ha : EvD G ta Γ (.int i)) (hb : EvD G tb Γ (.int j)) (h : Side (CDiv i j)) : EvD G (tOp rDiv ta tb) Γ (.int (i / j)) := ev_div ha hb h.out
theorem w_mod (ha : EvD G ta Γ (.int i)) (hb : EvD G tb Γ (.int j)) (h : Side (0 < j)) : EvD G (tOp rMod ta tb) Γ (.int (i % j)) := ev_mod ha hb h.out
theorem w_eq_any (ha : EvD G ta Γ x) (hb : EvD G tb Γ y) (hx : Side (SeqAt.shaped x = true)) (hy : Side (SeqAt.shaped y = true)) : EvD G (tOp (rEqA G.K) ta tb) Γ (.bool (PyData.eqv x y)) := ev_eq_any ha hb hx.out hy.out
theorem w_ne_any (ha : EvD G ta Γ x) (hb : EvD G tb Γ y) (hx : Side (SeqAt.shaped x = true)) (hy : Side (SeqAt.shaped y = true)) : EvD G (tOp (rNeA G.K) ta tb) Γ (.bool (!PyData.eqv x y)) := ev_ne_any ha hb hx.out hy.out
theorem w_in_list (ha : EvD G ta Γ x) (hb : EvD G tb Γ (.list ds)) (hx : Side (flatD x = true)) (hf : Side (ds.all flatD = true)) : EvD G (tOp (rInA G.K) ta tb) Γ (.bool (inD x ds)) := ev_in_list ha hb hx.out hf.out
theorem w_in_tup (ha : EvD G ta Γ x) (hb : EvD G tb Γ (.tuple ds)) (hx : Side (flatD x = true)) (hf : Side (ds.all flatD = true)) : EvD G (tOp (rInA G.K) ta tb) Γ (.bool (inD x ds)) := ev_in_tup ha hb hx.out hf.out
theorem w_notIn_list (ha : EvD G ta Γ x) (hb : EvD G tb Γ (.list ds)) (hx : Side (flatD x = true)) (hf : Side (ds.all flatD = true)) : EvD G (tOp (rNotInA G.K) ta tb) Γ (.bool (!inD x ds)) := ev_notIn_list ha hb hx.out hf.out
theorem w_notIn_tup (ha : EvD G ta Γ x) (hb : EvD G tb Γ (.tuple ds)) (hx : Side (flatD x = true)) (hf : Side (ds.all flatD = true)) : EvD G (tOp (rNotInA G.K) ta tb) Γ (.bool (!inD x ds)) := ev_notIn_tup ha hb hx.out hf.out
theorem w_ix_tup (ha : EvD G ta Γ (.tuple ds)) (hb : EvD G tb Γ (.int i)) (h : Side (atI ds i = some d)) : EvD G (tOp (rIx G.K) ta tb) Γ d := ev_ix_tup ha hb h.out
theorem w_ix_list (ha : EvD G ta Γ (.list ds)) (hb : EvD G tb Γ (.int i)) (h : Side (atI ds i = some d)) : EvD G (tOp (rIx G.K) ta tb) Γ d := ev_ix_list ha hb h.out
theorem w_ix_str {c : Nat} (ha : EvD G ta Γ (.str p)) (hb : EvD G tb Γ (.int i)) (hl : Side (p.length ≤ 100000)) (h : Side (atI p.cps.toList i = some c)) : EvD G (tOp (rIx G.K) ta tb) Γ (.str ⟨#[c]⟩) := ev_ix_str ha hb hl.out h.out
theorem atI_ints {ns : List Int} {i : Int} (h0 : 0 ≤ i) (h1 : i < ns.length) : atI (ns.map PyData.int) i = some (.int (ns.getD i.toNat 0)) := by
  have e : i = ((i.toNat : Nat) : Int) := by omega
  have hl : i.toNat < ns.length := by omega
  rw [e]
  refine atI_nat ?_
  rw [List.getElem?_map, List.getElem?_eq_getElem hl, Int.toNat_natCast, List.getD_eq_getElem?_getD, List.getElem?_eq_getElem hl]
  rfl
theorem w_ix_ints {ns : List Int} (ha : EvD G ta Γ (.list (ns.map .int))) (hb : EvD G tb Γ (.int i)) (h : Side (0 ≤ i ∧ i < ns.length)) : EvD G (tOp (rIx G.K) ta tb) Γ (.int (ns.getD i.toNat 0)) := ev_ix_list ha hb (atI_ints h.out.1 h.out.2)
theorem w_ix_lit2 {x0 x1 : Int} (ha : EvD G ta Γ (.list [.int x0, .int x1])) (hb : EvD G tb Γ (.int i)) (h : Side (0 ≤ i ∧ i < 2)) : EvD G (tOp (rIx G.K) ta tb) Γ (.int ([x0, x1].getD i.toNat 0)) := ev_ix_list ha hb (atI_ints (ns := [x0, x1]) h.out.1 h.out.2)
theorem w_ix_lit3 {x0 x1 x2 : Int} (ha : EvD G ta Γ (.list [.int x0, .int x1, .int x2])) (hb : EvD G tb Γ (.int i)) (h : Side (0 ≤ i ∧ i < 3)) : EvD G (tOp (rIx G.K) ta tb) Γ (.int ([x0, x1, x2].getD i.toNat 0)) := ev_ix_list ha hb (atI_ints (ns := [x0, x1, x2]) h.out.1 h.out.2)
theorem w_ix_lit4 {x0 x1 x2 x3 : Int} (ha : EvD G ta Γ (.list [.int x0, .int x1, .int x2, .int x3])) (hb : EvD G tb Γ (.int i)) (h : Side (0 ≤ i ∧ i < 4)) : EvD G (tOp (rIx G.K) ta tb) Γ (.int ([x0, x1, x2, x3].getD i.toNat 0)) := ev_ix_list ha hb (atI_ints (ns := [x0, x1, x2, x3]) h.out.1 h.out.2)
theorem w_ix_lit6 {x0 x1 x2 x3 x4 x5 : Int} (ha : EvD G ta Γ (.list [.int x0, .int x1, .int x2, .int x3, .int x4, .int x5])) (hb : EvD G tb Γ (.int i)) (h : Side (0 ≤ i ∧ i < 6)) : EvD G (tOp (rIx G.K) ta tb) Γ (.int ([x0, x1, x2, x3, x4, x5].getD i.toNat 0)) := ev_ix_list ha hb (atI_ints (ns := [x0, x1, x2, x3, x4, x5]) h.out.1 h.out.2)
theorem w_ix_lit10 {x0 x1 x2 x3 x4 x5 x6 x7 x8 x9 : Int} (ha : EvD G ta Γ (.list [.int x0, .int x1, .int x2, .int x3, .int x4, .int x5, .int x6, .int x7, .int x8, .int x9])) (hb : EvD G tb Γ (.int i)) (h : Side (0 ≤ i ∧ i < 10)) : EvD G (tOp (rIx G.K) ta tb) Γ (.int ([x0, x1, x2, x3, x4, x5, x6, x7, x8, x9].getD i.toNat 0)) := ev_ix_list ha hb (atI_ints (ns := [x0, x1, x2, x3, x4, x5, x6, x7, x8, x9]) h.out.1 h.out.2)
theorem w_ix_lit12 {x0 x1 x2 x3 x4 x5 x6 x7 x8 x9 x10 x11 : Int} (ha : EvD G ta Γ (.list [.int x0, .int x1, .int x2, .int x3, .int x4, .int x5, .int x6, .int x7, .int x8, .int x9, .int x10, .int x11])) (hb : EvD G tb Γ (.int i)) (h : Side (0 ≤ i ∧ i < 12)) : EvD G (tOp (rIx G.K) ta tb) Γ (.int ([x0, x1, x2, x3, x4, x5, x6, x7, x8, x9, x10, x11].getD i.toNat 0)) := ev_ix_list ha hb (atI_ints (ns := [x0, x1, x2, x3, x4, x5, x6, x7, x8, x9, x10, x11]) h.out.1 h.out.2)
/-- at a written place -/
theorem w_ix_tupN {n : Nat} (ha : EvD G ta Γ (.tuple ds)) (h : Side (ds[n]? = some d)) : EvD G (tOp (rIx G.K) ta (tC (.int (n : Int)))) Γ d := ev_ix_tup ha ev_int (atI_nat h.out)
theorem w_chain_ll (ha : EvD G ta Γ (.int i)) (hb : EvD G tb Γ (.int j)) (hc : decide (i ≤ j) = true → EvD G tc Γ (.int k)) : EvD G (tChain rLe rLe ta tb tc) Γ (.bool (decide (i ≤ j) && decide (j ≤ k))) := ev_chain ha hb od_le hc fun _ => od_le
theorem w_chain_lt (ha : EvD G ta Γ (.int i)) (hb : EvD G tb Γ (.int j)) (hc : decide (i ≤ j) = true → EvD G tc Γ (.int k)) : EvD G (tChain rLe rLt ta tb tc) Γ (.bool (decide (i ≤ j) && decide (j < k))) := ev_chain ha hb od_le hc fun _ => od_lt
theorem w_tup (h : EvA G t Γ ds) (hl : Side (ds.length ≤ 100000)) : EvD G (tTup t) Γ (.tuple ds) := ev_tup h hl.out
theorem w_lst (h : EvA G t Γ ds) (hl : Side (ds.length ≤ 100000)) : EvF G (tLst t) Γ ds := ef_lst h hl.out
theorem w_len_list (h : EvA G t Γ [.list ds]) : EvD G (tCB (rLen G.K) t) Γ (.int (ds.length : Int)) := ev_cb h ca_len_list
theorem w_len_tup (h : EvA G t Γ [.tuple ds]) : EvD G (tCB (rLen G.K) t) Γ (.int (ds.length : Int)) := ev_cb h ca_len_tup
theorem w_len_str (h : EvA G t Γ [.str p]) (hl : Side (p.length ≤ 100000)) : EvD G (tCB (rLen G.K) t) Γ (.int (p.length : Int)) := ev_cb h (ca_len_str hl.out)
theorem w_int_int (h : EvA G t Γ [.int i]) : EvD G (tCB rIntA t) Γ (.int i) := ev_cb h ca_int_int
theorem w_int_bl {a : Bool} (h : EvA G t Γ [.bool a]) : EvD G (tCB rIntA t) Γ (.int (if a then 1 else 0)) := ev_cb h ca_int_bl
theorem w_int_str {n : Int} (h : EvA G t Γ [.str p]) (h1 : Side (PySem.intText? p = some n)) (hl : Side (p.length ≤ 640)) : EvD G (tCB rIntA t) Γ (.int n) := ev_cb h (ca_int_str h1.out hl.out)
theorem w_str_int (h : EvA G t Γ [.int i]) (hl : Side (i.natAbs.log2 < 1920)) : EvD G (tCB rStrI t) Γ (.str (toString i)) := ev_cb h (ca_str_int hl.out)
theorem w_max (h : EvA G t Γ [.int i, .int j]) : EvD G (tCB rMax2 t) Γ (.int (if j > i then j else i)) := ev_cb h ca_max
theorem w_min (h : EvA G t Γ [.int i, .int j]) : EvD G (tCB rMin2 t) Γ (.int (if j < i then j else i)) := ev_cb h ca_min
theorem w_tup_list (h : EvA G t Γ [.list ds]) : EvD G (tCB (rTupOf G.K) t) Γ (.tuple ds) := ev_cb h ca_tup_list
theorem w_tup_tup (h : EvA G t Γ [.tuple ds]) : EvD G (tCB (rTupOf G.K) t) Γ (.tuple ds) := ev_cb h ca_tup_tup
theorem w_all (h : EvA G t Γ [.list ds]) (f : Side (∀ d ∈ ds, ∃ b, d = .bool b)) : EvD G (tCB (rAll G.K) t) Γ (.bool (ds.all boD)) := ev_cb h (ca_all f.out)
theorem w_any (h : EvA G t Γ [.list ds]) (f : Side (∀ d ∈ ds, ∃ b, d = .bool b)) : EvD G (tCB (rAny G.K) t) Γ (.bool (ds.any boD)) := ev_cb h (ca_any f.out)
theorem w_list_list (h : EvA G t Γ [.list ds]) : EvF G (tCB (rListOf G.K) t) Γ ds := ef_cb h (cf_list (.inl rfl))
theorem w_lcm {α : Type} {wi : TI} {vs : List Nat} {j : Nat} {c : α → PyData} {zs : List α} {h : α → PyData} (hi : ItD G wi Γ (zs.map c)) (hz : Side (zs.length ≤ 50000)) (hv : Side (j ∈ vs))
    (he : ∀ y ∈ zs, EvD G te ((wipeE Γ vs).set j (.dat (c y))) (h y)) : EvF G (tLc wi (gName j) tYes te vs) Γ (zs.map h) := ef_lcm hi hz.out hv.out he
theorem w_lci {wi : TI} {vs : List Nat} {j : Nat} {zs : List PyData} {h : PyData → PyData} (hi : ItD G wi Γ zs) (hz : Side (zs.length ≤ 50000)) (hv : Side (j ∈ vs))
    (he : ∀ y ∈ zs, EvD G te ((wipeE Γ vs).set j (.dat y)) (h y)) : EvF G (tLc wi (gName j) tYes te vs) Γ (zs.map h) := ef_lcm (c := id) (by rw [List.map_id]; exact hi) hz.out hv.out he
theorem w_lcn {α : Type} {wi : TI} {tt : TT} {vs : List Nat} {j : Nat} {c : α → PyData} {zs : List α} {f : α → Bool} {h : α → PyData} (hi : ItD G wi Γ (zs.map c)) (hz : Side (zs.length ≤ 50000)) (hv : Side (j ∈ vs))
    (ht : ∀ y ∈ zs, EvT G tt ((wipeE Γ vs).set j (.dat (c y))) (f y)) (he : ∀ y ∈ zs, f y = true → EvD G te ((wipeE Γ vs).set j (.dat (c y))) (h y)) : EvF G (tLc wi (gName j) tt te vs) Γ ((zs.filter f).map h) := ef_lcn hi hz.out hv.out ht he
theorem w_rng1 {n : Int} (h : EvA G t Γ [.int n]) (h1 : Side (-(2 ^ 62) ≤ n)) (h2 : Side (n < 2 ^ 62)) : ItD G (iRng1 t) Γ ((List.range n.toNat).map fun (k : Nat) => .int (0 + (k : Int))) := it_rng1 h h1.out h2.out
theorem w_rng2 {lo n : Int} (h : EvA G t Γ [.int lo, .int n]) (h1 : Side (-(2 ^ 62) ≤ lo)) (h2 : Side (lo < 2 ^ 62)) (h3 : Side (-(2 ^ 62) ≤ n)) (h4 : Side (n < 2 ^ 62)) : ItD G (iRng2 t) Γ ((List.range (n - lo).toNat).map fun (k : Nat) => .int (lo + (k : Int))) := it_rng2 h h1.out h2.out h3.out h4.out
theorem w_list_tup (h : EvA G t Γ [.tuple ds]) : EvF G (tCB (rListOf G.K) t) Γ ds := ef_cb h (cf_list (.inr rfl))
end
/-! ### rules with the written part told -/
section
variable {X : Cx} {K : PySem.W.Frag}
theorem ok_addA (h : X.K = K) : OpR X (binaryOp .Add) (rAddA K) := h ▸ op_addA
theorem ok_eqA (h : X.K = K) (hu : X.A.units + 64 < cLine) : OpR X (compareOp .Eq) (rEqA K) := h ▸ op_eqA hu
theorem ok_neA (h : X.K = K) (hu : X.A.units + 64 < cLine) : OpR X (compareOp .NotEq) (rNeA K) := h ▸ op_neA hu
theorem ok_inA (h : X.K = K) : OpR X (compareOp .In) (rInA K) := h ▸ op_inA
theorem ok_notInA (h : X.K = K) : OpR X (compareOp .NotIn) (rNotInA K) := h ▸ op_notInA
theorem kx_seq (h : X.K = K) : IxR X (rIx K) := h ▸ ix_seq
theorem kl_any (h : X.K = K) : SlR X (rSlA K) := h ▸ sl_any
theorem kc_len (h : X.K = K) : CallR X (.builtin "len") (rLen K) := h ▸ call_lenA
theorem kc_list (h : X.K = K) : CallR X (.type "list") (rListOf K) := h ▸ call_listA
theorem kc_tup (h : X.K = K) : CallR X (.type "tuple") (rTupOf K) := h ▸ call_tupA
theorem kc_all (h : X.K = K) (hc : X.calm = true) : CallR X (.builtin "all") (rAll K) := h ▸ cr_all hc
theorem kc_any (h : X.K = K) (hc : X.calm = true) : CallR X (.builtin "any") (rAny K) := h ▸ cr_any hc
theorem kc_isi (h : X.K = K) : CallR X (.builtin "isinstance") (rIsi K) := h ▸ call_isi
theorem ki_any {tg e : Expr} {te : TE} (h : X.K = K) (he : PE X e te) : PI X tg e (iAny K te) := h ▸ pi_any he
theorem ki_rev {tg e : Expr} {te : TE} {p pos : Pos} (h : X.K = K) (hg : Gl X "reversed") (hm : X.mg "reversed" = none) (he : PE X e te) (hs : starEach [e] X.env = (false, eval e X.env) :: starEach [] X.env := by rfl) : PI X tg (.Call (.Name "reversed" p) [e] [] pos) (RT.iRevA K te) := h ▸ RT.pi_revA hg hm he hs
theorem kg_tup {es : List Expr} {k : Nat} {t : TGs} {n : Nat} {pos : Pos} (hK : X.K = K) (hc : X.calm = true) (h : PGs X es t)
    (hn : (assignEach es X.env).length = n := by rfl) (hst : (assignEach es X.env).findIdx? (·.1) = none := by rfl) : PG X (.Tuple es k pos) (gTup K n t) := hK ▸ pg_tup hc h hn hst
variable {o e : Expr} {to te : TE} {apos cpos : Pos}
theorem kpe_app (hK : X.K = K) (ho : PE X o to) (he : PE X e te) (hbase : attributeBase o "append" X.env (eval o X.env) = eval o X.env := by rfl)
    (hfew : ((backTo cpos (starEach [e] X.env)).all (fun x => !x.1) && (backToKw cpos (keywordEach [] X.env)).all (fun x => x.1.isSome)
      && decide ([e].length + ([] : List Keyword).length + (if ([] : List Keyword).isEmpty then 0 else 1) < 30)) = true := by rfl)
    (hline : (apos.endLine == cpos.line) = true := by rfl) (hs : starEach [e] X.env = (false, eval e X.env) :: starEach [] X.env := by rfl) (hplain : (backTo cpos (starEach [] X.env)).any (·.1) = false := by rfl) :
    PE X (.Call (.Attribute o "append" apos) [e] [] cpos) (tBM K "list" rAppend to (tCons te tNil)) := hK ▸ pe_bm PySem.F.plainAttrs_list PySem.F.slot_list_append PySem.F.type_list_append mt_append ho (pa_cons he pa_nil hs) hbase hfew hline hs hplain
theorem kpe_clear (hK : X.K = K) (ho : PE X o to) (hbase : attributeBase o "clear" X.env (eval o X.env) = eval o X.env := by rfl) (hline : (apos.endLine == cpos.line) = true := by rfl) :
    PE X (.Call (.Attribute o "clear" apos) [] [] cpos) (tBM0 K "list" rClear to) := hK ▸ pe_bm0 PySem.F.plainAttrs_list PySem.F.slot_list_clear PySem.F.type_list_clear mt_clear ho hbase hline
theorem kpe_pop (hK : X.K = K) (ho : PE X o to) (hbase : attributeBase o "pop" X.env (eval o X.env) = eval o X.env := by rfl) (hline : (apos.endLine == cpos.line) = true := by rfl) :
    PE X (.Call (.Attribute o "pop" apos) [] [] cpos) (tBM0 K "list" rPop to) := hK ▸ pe_bm0 PySem.F.plainAttrs_list PySem.F.slot_list_pop PySem.F.type_list_pop mt_pop ho hbase hline
/-- raise X('..') -/
structure XcT (K : PySem.W.Frag) (mg : Str → Option Value) (x : Str) (C : Addr) : Prop where
  g : mg x = some (.ref C)
  xc : PySem.W.excIn K C [.type "ValueError", .type "Exception", .type "BaseException", .type "object"] "ValueError.__new__" = true
  kp : PySem.W.keepIn K (.ref C) = true
  sb : PySem.W.subIn K (.ref C) (.type "BaseException") = some true
  ty : PySem.W.typeIn K (.ref C) = some (.type "type")
  ic : PySem.W.isClsIn K C = true
  hd : PySem.W.hasDictIn K C = true
  sv : PySem.W.subIn K (.ref C) (.type "ValueError") = some true
  ss : PySem.W.subIn K (.ref C) (.ref C) = some true
  e1 : PySem.W.findIn K (.ref C) "__getattribute__" = some (some (.builtin "BaseException.__getattribute__"))
  e2 : PySem.W.findIn K (.ref C) "__getattr__" = some none
  e3 : PySem.W.findIn K (.ref C) "__class__" = some (some (.builtin "object.__class__"))
  e4 : PySem.W.specialIn K (.builtin "object.__class__") "__get__" = some (some (.builtin "getset_descriptor.__get__"))
  e5 : PySem.W.takesIn K (.builtin "object.__class__") = some true
  e6 : PySem.W.mroIn K C (.type "object") = some true
theorem XcT.excC {mg : Str → Option Value} {x : Str} {C : Addr} (T : XcT K mg x C) : ExcC K C := ⟨T.e1, T.e2, T.sb, T.hd, T.e3, T.e4, T.e5, T.e6⟩
theorem XcT.exm {mg : Str → Option Value} {x : Str} {C : Addr} {cls : Value} {b : Bool} (T : XcT K mg x C) (h : PySem.W.subIn K cls (.ref C) = some b) : PySem.W.exmOne K cls (.ref C) = some b := PySem.W.exm_ref T.sb T.hd T.ty h
theorem XcT.kitCls {mg : Str → Option Value} {x : Str} {C : Addr} {cls : Value} {b : Bool} (T : XcT K mg x C) (h : PySem.W.subIn K cls (.ref C) = some b) : PySem.W.kitCls K cls (.ref C) = some b := by
  have := T.exm h
  unfold PySem.W.exmOne at this
  rw [T.sb] at this
  simpa using this
theorem XcT.kitT {mg : Str → Option Value} {x : Str} {C D : Addr} (T : XcT K mg x C) (h : PySem.W.subIn K (.ref D) (.ref C) = some true) : PySem.W.kitOne K (.ref D) (.ref C) = some true := by
  unfold PySem.W.kitOne
  split
  · rfl
  · exact T.kitCls h
theorem XcT.kitF {mg mg' : Str → Option Value} {x y : Str} {C D : Addr} (T : XcT K mg x C) (S : XcT K mg' y D) (h : PySem.W.subIn K (.ref D) (.ref C) = some false) : PySem.W.kitOne K (.ref D) (.ref C) = some false := by
  unfold PySem.W.kitOne
  split
  · rename_i e
    have e : D = C := Value.ref.inj (beq_iff_eq.mp e)
    subst e
    rw [S.ss] at h; cases h
  · exact T.kitCls h
theorem XcT.kitV {mg : Str → Option Value} {x : Str} {C : Addr} (T : XcT K mg x C) : PySem.W.kitOne K (.ref C) (.type "ValueError") = some true := by
  unfold PySem.W.kitOne PySem.W.kitCls
  split
  · rfl
  · show (if PySem.W.kitMeta "ValueError" = true then _ else _) = _
    rw [if_pos (by decide +kernel)]; exact T.sv
theorem kps_raise {C : Addr} {x m : Str} {j : Nat} {p p2 pos2 pos : Pos} {W : WX} (T : XcT X.K X.mg x C) (hc : X.calm = true) (tk : Takes X W) (hg : Gl X x) (hdb : (x == ("__debug__" : Str)) = false := by decide) :
    PS X (.Raise (some (.Call (.Name x p) [.Constant (.str m) j p2] [] pos2)) none pos) (fun _ σ H => W (.ref C) none σ H) :=
  ps_raise hc tk (pmk_own PySem.F.excBase_ValueError T.xc T.g T.kp (raises_own T.sb T.ty) hg hdb)
/-- isinstance(e, C), e the error that the suite holds -/
def rIsEG (K : PySem.W.Frag) (cls : Value) (d : Option Addr) (a : Addr) : List V → Hp → VK → Prop := fun xs H Q => ∃ D, cls = .ref D ∧ d = none ∧ ExcC K D ∧ rIsE K D a xs H Q
theorem kc_isE {a : Addr} {oe : Obj} {pn : List (Addr × Obj)} {cls : Value} {d : Option Addr} (hK : X.K = K) (hz : Zc cls d oe) (hf : ∃ vs, oe.data = .fields vs) : CallR (X.suite a ((a, oe) :: pn)) (.builtin "isinstance") (rIsEG K cls d a) := by
  intro pins s σ H xs us Q I r h
  obtain ⟨D, rfl, rfl, hC, h⟩ := h
  subst hK
  exact call_isE hC hz hf pins s σ H xs us Q I r h
def tTryAs (K : PySem.W.Frag) (c : Value) (i : Nat) (tb : WX → TS) (ts : Addr → Value → Option Addr → TS) (Wout : WX) : TS := fun D σ H => tb (wAs K c i ts Wout D) D σ H
def tTry (K : PySem.W.Frag) (c : Value) (tb : WX → TS) (ts : Addr → Value → Option Addr → TS) (Wout : WX) : TS := fun D σ H => tb (wOnly K c ts Wout D) D σ H
theorem kps_try_as {x n : Str} {c : Value} {i : Nat} {body suite : List Stmt} {b₀ : Stmt} {np pos pos' : Pos} {tb : WX → TS} {ts : Addr → Value → Option Addr → TS} {Wout : WX} (hK : X.K = K) (hs : X.stack = X.env :: X.outer) (hf : X.env.frame = some X.env.locals) (hN : X.N.Nodup) (hi : X.N[i]? = some n) (hln : X.env.kindOf n = some .local) (hc : Names X x c) (tk : Takes X Wout)
    (hb : ∀ (W : WX) (pn : List (Addr × Obj)) (xe : Value → Shared → Prop), Takes (X.tr pn xe) W → PassesOwn (model X.prog X.w) X.A X.env xe → PSs (X.tr pn xe) body (tb W))
    (hsu : ∀ (a : Addr) (oe : Obj) (cls : Value) (d : Option Addr) (pn : List (Addr × Obj)), Zc cls d oe → (∃ vs, oe.data = .fields vs) → PSs (X.suite a ((a, oe) :: pn)) (b₀ :: suite) (ts a cls d)) :
    PS X (.Try body [.ExceptHandler (some (.Name x np)) (some n) (b₀ :: suite) pos'] [] [] pos) (tTryAs K c i tb ts Wout) := hK ▸ ps_try_as hs hf hN hi hln hc tk hb hsu
theorem kps_try_only {x : Str} {c : Value} {body suite : List Stmt} {b₀ : Stmt} {np pos pos' : Pos} {tb : WX → TS} {ts : Addr → Value → Option Addr → TS} {Wout : WX} (hK : X.K = K) (hs : X.stack = X.env :: X.outer) (hf : X.env.frame = some X.env.locals) (hc : Names X x c) (tk : Takes X Wout)
    (hb : ∀ (W : WX) (pn : List (Addr × Obj)) (xe : Value → Shared → Prop), Takes (X.tr pn xe) W → PassesOwn (model X.prog X.w) X.A X.env xe → PSs (X.tr pn xe) body (tb W))
    (hsu : ∀ (a : Addr) (oe : Obj) (cls : Value) (d : Option Addr) (pn : List (Addr × Obj)), Zc cls d oe → (∃ vs, oe.data = .fields vs) → PSs (X.suite a ((a, oe) :: pn)) (b₀ :: suite) (ts a cls d)) :
    PS X (.Try body [.ExceptHandler (some (.Name x np)) none (b₀ :: suite) pos'] [] [] pos) (tTry K c tb ts Wout) := hK ▸ ps_try_only hs hf hc tk hb hsu
end
section
variable {G : Gd} {W : WX} {Γ : List Ent} {P : Post}
theorem ev_isE {i : Nat} {cls : Value} {d : Option Addr} {a D : Addr} {c : V} {cv : Value} {b : Bool} (hi : Γ[i]? = some (.val (.ref a))) (h1 : cls = .ref D) (h2 : d = none) (hC : ExcC G.K D) (hc : ∀ u, RelV c u → u = cv) (hk : PySem.W.kitOne G.K (.ref D) cv = some b) :
    EvD G (tCB (rIsEG G.K cls d a) (tCons (tVar i) (tCons (tC c) tNil))) Γ (.bool b) := fun B0 H0 B H σ E Q k =>
  ⟨.ref a, E.val hi, D, h1, h2, hC, c, cv, b, rfl, hc, hk, k _ B H (Stp.refl E.stp.bh) (.bl _)⟩
theorem wp_try_as {K : PySem.W.Frag} {cv : Value} {i : Nat} {tb : WX → TS} {tsu : Addr → Value → Option Addr → TS} (hb : ∀ W', WpD G W' (tb W') Γ { P with er := fun c Γ' => ∃ b, PySem.W.exmOne K (.ref c) cv = some b ∧
      (b = true → ∀ a, WpD G W (tsu a (.ref c) none) (Γ'.set i (.val (.ref a))) { P with nx := fun Γ2 => P.nx (Γ2.set i .no), bk := fun Γ2 => P.bk (Γ2.set i .no), ct := fun Γ2 => P.ct (Γ2.set i .no) }) ∧ (b = false → P.er c Γ') }) :
    WpD G W (tTryAs K cv i tb tsu W) Γ P := fun B0 H0 B H σ D E M =>
  hb _ B0 H0 B H σ D E ⟨M.nx, M.bk, M.ct, M.rt, fun c Γ2 B2 H2 σ2 ⟨b, e1, e2, e3⟩ x E2 => ⟨b, e1, fun hb a _ => e2 hb a B0 H0 B2 H2 _ _ (E2.set_val i (.ref a))
    ⟨fun Γ3 B3 H3 σ3 a1 a2 a3 => M.nx _ _ _ _ a1 (x.trans a2) (a3.set_no i none), fun Γ3 B3 H3 σ3 a1 a2 a3 => M.bk _ _ _ _ a1 (x.trans a2) (a3.set_no i none), fun Γ3 B3 H3 σ3 a1 a2 a3 => M.ct _ _ _ _ a1 (x.trans a2) (a3.set_no i none),
      fun d v B3 H3 a1 a2 a3 => M.rt _ _ _ _ a1 a2 (x.trans a3), fun c Γ3 B3 H3 σ3 a1 a2 a3 => M.er _ _ _ _ _ a1 (x.trans a2) a3⟩, fun hb => M.er _ _ _ _ _ (e3 hb) x E2⟩⟩
end
section
variable {G : Gd} {W : WX} {Γ : List Ent} {P : Post}
theorem wp_tryO {K : PySem.W.Frag} {cv : Value} {tb : WX → TS} {tsu : Addr → Value → Option Addr → TS} (hb : ∀ W', WpD G W' (tb W') Γ { P with er := fun c Γ' => ∃ b, PySem.W.exmOne K (.ref c) cv = some b ∧ (b = true → ∀ a, WpD G W (tsu a (.ref c) none) Γ' P) ∧ (b = false → P.er c Γ') }) :
    WpD G W (tTry K cv tb tsu W) Γ P := wp_try hb
/-- a test whose answer is known -/
theorem wp_ifT {tt : TT} {b : Bool} {tu tw : TS} (h : EvT G tt Γ b) (e : b = true) (h1 : WpD G W tu Γ P) : WpD G W (tIfS tt tu tw) Γ P := wp_if h (fun _ => h1) fun z => by rw [e] at z; cases z
theorem wp_ifF {tt : TT} {b : Bool} {tu tw : TS} (h : EvT G tt Γ b) (e : b = false) (h1 : WpD G W tw Γ P) : WpD G W (tIfS tt tu tw) Γ P := wp_if h (fun z => by rw [e] at z; cases z) fun _ => h1
end
/-- parts that are never asked -/
theorem et_dead {G : Gd} {Γ : List Ent} {t : TT} (h : false = true) : EvT G t Γ false := (Bool.false_ne_true h).elim
theorem ev_dead {G : Gd} {Γ : List Ent} {t : TE} (h : false = true) : EvD G t Γ (.bool false) := (Bool.false_ne_true h).elim
/-! ### what the top has written -/
section
variable {K : PySem.W.Frag} {h : Heap} {mg : Str → Option Value} {x : Str} {f a : Addr}
theorem fnT_mk (X : K.In h) (G : h.Ns mainGlobals mg) {st : Stmt} {oc : Value} {od an : Option Addr} {osl : Array (Option Value)} {kV doc pm cdv ct : Value} (e : PySem.W.nsIn K mainGlobals x = some (some (.ref f))) (l : K.lookup f = some ⟨oc, od, .func (PySem.W.fnOf x x (defArgs st) (defBody st) (defScope st) .none kV doc pm an cdv ct), osl⟩)
    (c : PySem.W.codeIn K cdv x = true) (k : PySem.W.keepIn K (.ref f) = true) : FnT K mg x x st := ⟨f, _, PySem.W.mg_of X G e, fun_mk l c k⟩
theorem xcT_mk (X : K.In h) (G : h.Ns mainGlobals mg) (e : PySem.W.nsIn K mainGlobals x = some (some (.ref f)))
    (xc : PySem.W.excIn K f [.type "ValueError", .type "Exception", .type "BaseException", .type "object"] "ValueError.__new__" = true) (kp : PySem.W.keepIn K (.ref f) = true) (sb : PySem.W.subIn K (.ref f) (.type "BaseException") = some true) (ty : PySem.W.typeIn K (.ref f) = some (.type "type")) (ic : PySem.W.isClsIn K f = true) (hd : PySem.W.hasDictIn K f = true) (sv : PySem.W.subIn K (.ref f) (.type "ValueError") = some true) (ss : PySem.W.subIn K (.ref f) (.ref f) = some true)
    (e1 : PySem.W.findIn K (.ref f) "__getattribute__" = some (some (.builtin "BaseException.__getattribute__"))) (e2 : PySem.W.findIn K (.ref f) "__getattr__" = some none) (e3 : PySem.W.findIn K (.ref f) "__class__" = some (some (.builtin "object.__class__"))) (e4 : PySem.W.specialIn K (.builtin "object.__class__") "__get__" = some (some (.builtin "getset_descriptor.__get__"))) (e5 : PySem.W.takesIn K (.builtin "object.__class__") = some true) (e6 : PySem.W.mroIn K f (.type "object") = some true) : XcT K mg x f :=
  ⟨PySem.W.mg_of X G e, xc, kp, sb, ty, ic, hd, sv, ss, e1, e2, e3, e4, e5, e6⟩
theorem gint_mk (X : K.In h) (G : h.Ns mainGlobals mg) {n : Int} {t : Tok} (e : PySem.W.nsIn K mainGlobals x = some (some (.int n t))) : GInt mg x n := ⟨t, PySem.W.mg_of X G e⟩
theorem gstr_mk (X : K.In h) (G : h.Ns mainGlobals mg) {z : Str} {t : Tok} (e : PySem.W.nsIn K mainGlobals x = some (some (.str z t))) : GStr mg x z := ⟨t, PySem.W.mg_of X G e⟩
theorem relV_of_abs {u : Value} {v : V} (e : absV u = some v) : RelV v u := by
  cases u <;> first
    | (cases e; first | rfl | exact ⟨_, rfl⟩)
    | (exact absurd e (by intro z; cases z))
theorem vals_of_abs : ∀ {us : List Value} {vs : List V}, us.map absV = vs.map some → Vals vs us
  | [], [], _ => .nil
  | [], _ :: _, e => by cases e
  | _ :: _, [], e => by cases e
  | _ :: us, _ :: vs, e => .cons (relV_of_abs (List.cons.inj e).1) (vals_of_abs (List.cons.inj e).2)
/-- a list of plain whole numbers, texts that the top has written -/
theorem gdat_mk (X : K.In h) (G : h.Ns mainGlobals mg) {its : Array Value} {n : Nat} {sl : Array (Option Value)} (vs : List V) {ds : List PyData} (e : PySem.W.nsIn K mainGlobals x = some (some (.ref a))) (l : K.lookup a = some ⟨.type "list", none, .seq its n, sl⟩) (hv : its.toList.map absV = vs.map some) (hl : vs.length ≤ 1000) (hd : ∀ B, DpAll K B vs ds) : GDat K mg x a (.list ds) := by
  refine ⟨PySem.W.mg_of X G e, fun B => .lst (.inr ⟨_, its, n, l, rfl, rfl, rfl, ?_, vals_of_abs hv⟩) (hd B)⟩
  have h1 : its.size = vs.length := by
    have := congrArg List.length hv
    rw [List.length_map, List.length_map, Array.length_toList] at this; exact this
  rw [h1]; exact Nat.le_trans hl (by decide)
end
/-! ### the law's end -/
def rLaw : List PyData → PyData → Prop := fun ds d => ∃ ns : List Int, ns.length ≤ 63 ∧ ds = [.list (ns.map .int)] ∧ d = .bool true
theorem law_walk {k : Nat} (hk : k ≤ 40) {l : PySem.W.OpenLaw} {q : Program} {loose : List Str} {XP : (Str → Option Value) → Heap → Prop} {YP : World → Heap → Prop} {d : DefRec} {K : Params → PySem.W.Frag} {x : Str} (hn : l.most = some 63) (hdf : d.params.defaults = [])
    (hY : ∀ (w : World) (h : Heap), YP w h → (K w.params).In h)
    (F : ∀ (w : World) (mg : Str → Option Value) (fa : Addr) (h : Heap), (K w.params).In h → h.Ns mainGlobals mg → mg d.name = some (.ref fa) →
      ∃ fd : FuncData, (∀ (s : Shared) (u : Value), BindsTo s fd ⟨[u], []⟩ [(x, u)]) ∧ ∀ base : Heap, (K w.params).In base → base.Ns mainGlobals mg → FnOk l.prog w (K w.params) mg base CX0 k fa fd [x] (spV (K w.params) rLaw)) :
    PySem.W.WalkO q loose XP YP l.row.toRowW d [] (fun f vs => PySem.call f vs) :=
  L2.walk_of (n := 63) (k := k) (x := x) (CX := fun _ => CX0) (sp := fun w => spV (K w.params) rLaw) hn (by decide) hdf (Room.mono (k := 40) ⟨rfl, by decide, by decide⟩ hk) hY F
    (fun w H a ns hl _ hS => ⟨H, [.list (ns.map .int)], .bool true, Ex.rfl', .cons (.lst hS (dpa_ints ns)) .nil, ⟨ns, hl, rfl, rfl⟩, fun v B2 H2 _ h => by cases h; rfl⟩) fun _ _ _ _ _ z => z
end Pd

namespace Pd
open PySem L2
/-! ### side conditions that are closed by one sure way, else the rule does not count -/
structure SideD (p : Prop) : Prop where
  out : p
structure SideA (p : Prop) : Prop where
  out : p
structure SideR (p : Prop) : Prop where
  out : p
section
variable {G : Gd} {W : WX} {Γ : List Ent} {P : Post} {ta tb tc te : TE} {x y z d : PyData} {i j k : Int} {p q : Str} {ds es : List PyData} {t : TA}
theorem c_eq_strT (ha : EvD G ta Γ (.str p)) (hb : EvD G tb Γ (.str q)) (h : SideD (p = q)) : EvD G (tOp (rEqA G.K) ta tb) Γ (.bool true) := ev_to (ev_eq_str ha hb) (by rw [decide_eq_true h.out])
theorem c_eq_strF (ha : EvD G ta Γ (.str p)) (hb : EvD G tb Γ (.str q)) (h : SideD (¬ p = q)) : EvD G (tOp (rEqA G.K) ta tb) Γ (.bool false) := ev_to (ev_eq_str ha hb) (by rw [decide_eq_false h.out])
theorem c_ne_strT (ha : EvD G ta Γ (.str p)) (hb : EvD G tb Γ (.str q)) (h : SideD (¬ p = q)) : EvD G (tOp (rNeA G.K) ta tb) Γ (.bool true) := ev_to (ev_ne_str ha hb) (by rw [decide_eq_false h.out]; rfl)
theorem c_ne_strF (ha : EvD G ta Γ (.str p)) (hb : EvD G tb Γ (.str q)) (h : SideD (p = q)) : EvD G (tOp (rNeA G.K) ta tb) Γ (.bool false) := ev_to (ev_ne_str ha hb) (by rw [decide_eq_true h.out]; rfl)
theorem c_in_listT (ha : EvD G ta Γ (.str p)) (hb : EvD G tb Γ (.list ds)) (hf : SideD (ds.all flatD = true)) (h : SideD (inD (.str p) ds = true)) : EvD G (tOp (rInA G.K) ta tb) Γ (.bool true) := ev_to (ev_in_list ha hb rfl hf.out) (by rw [h.out])
theorem c_in_listF (ha : EvD G ta Γ (.str p)) (hb : EvD G tb Γ (.list ds)) (hf : SideD (ds.all flatD = true)) (h : SideD (inD (.str p) ds = false)) : EvD G (tOp (rInA G.K) ta tb) Γ (.bool false) := ev_to (ev_in_list ha hb rfl hf.out) (by rw [h.out])
theorem c_notIn_listT (ha : EvD G ta Γ (.str p)) (hb : EvD G tb Γ (.list ds)) (hf : SideD (ds.all flatD = true)) (h : SideD (inD (.str p) ds = false)) : EvD G (tOp (rNotInA G.K) ta tb) Γ (.bool true) := ev_to (ev_notIn_list ha hb rfl hf.out) (by rw [h.out]; rfl)
theorem c_notIn_listF (ha : EvD G ta Γ (.str p)) (hb : EvD G tb Γ (.list ds)) (hf : SideD (ds.all flatD = true)) (h : SideD (inD (.str p) ds = true)) : EvD G (tOp (rNotInA G.K) ta tb) Γ (.bool false) := ev_to (ev_notIn_list ha hb rfl hf.out) (by rw [h.out]; rfl)
theorem c_ixL (ha : EvD G ta Γ (.list ds)) (h : SideR (atI ds i = some d)) : EvD G (tOp (rIx G.K) ta (tC (.int i))) Γ d := ev_ix_list ha ev_int h.out
theorem c_ixT (ha : EvD G ta Γ (.tuple ds)) (hb : EvD G tb Γ (.int i)) (h : SideR (atI ds i = some d)) : EvD G (tOp (rIx G.K) ta tb) Γ d := ev_ix_tup ha hb h.out
theorem c_ixLs (ha : EvD G ta Γ (.list ds)) (hb : EvD G tb Γ (.int i)) (h : SideR (atI ds i = some d)) : EvD G (tOp (rIx G.K) ta tb) Γ d := ev_ix_list ha hb h.out
theorem in_ints {i : Int} : ∀ ns : List Int, inD (.int i) (ns.map .int) = decide (i ∈ ns)
  | [] => rfl
  | n :: ns => by
    have ih := in_ints (i := i) ns
    unfold inD at ih ⊢
    rw [List.map_cons, List.any_cons, ih]
    show (decide (n = i) || decide (i ∈ ns)) = _
    rw [← Bool.decide_or]
    exact decide_eq_decide.mpr ⟨fun h => h.elim (fun e => e ▸ List.mem_cons_self) fun e => List.mem_cons_of_mem _ e, fun h => (List.mem_cons.mp h).imp (fun e => e.symm) id⟩
theorem flat_ints (ns : List Int) : (ns.map PyData.int).all flatD = true := List.all_eq_true.mpr fun d hd => (List.mem_map.mp hd).elim fun _ h => h.2 ▸ rfl
theorem c_in_intsT {ns : List Int} (ha : EvD G ta Γ (.int i)) (hb : EvD G tb Γ (.tuple (ns.map .int))) : EvD G (tOp (rInA G.K) ta tb) Γ (.bool (decide (i ∈ ns))) := ev_to (ev_in_tup ha hb rfl (flat_ints ns)) (by rw [in_ints])
theorem c_in_intsL {ns : List Int} (ha : EvD G ta Γ (.int i)) (hb : EvD G tb Γ (.list (ns.map .int))) : EvD G (tOp (rInA G.K) ta tb) Γ (.bool (decide (i ∈ ns))) := ev_to (ev_in_list ha hb rfl (flat_ints ns)) (by rw [in_ints])
theorem c_notIn_intsT {ns : List Int} (ha : EvD G ta Γ (.int i)) (hb : EvD G tb Γ (.tuple (ns.map .int))) : EvD G (tOp (rNotInA G.K) ta tb) Γ (.bool (!decide (i ∈ ns))) := ev_to (ev_notIn_tup ha hb rfl (flat_ints ns)) (by rw [in_ints])
theorem c_in_int2 {a b : Int} (ha : EvD G ta Γ (.int i)) (hb : EvD G tb Γ (.list [.int a, .int b])) : EvD G (tOp (rInA G.K) ta tb) Γ (.bool (decide (i = a) || decide (i = b))) := ev_to (c_in_intsL (ns := [a, b]) ha hb) (by rw [← Bool.decide_or]; congr 1; exact decide_eq_decide.mpr (by simp))
theorem it_to {wi : TI} {xs ys : List PyData} (h : ItD G wi Γ xs) (e : xs = ys) : ItD G wi Γ ys := e ▸ h
theorem cut_last {α : Type} (f : α → PyData) (xs : List α) : cutD (xs.map f) none (some (-1)) = xs.dropLast.map f := by
  unfold cutD
  rw [HT.sIx_none, List.drop_zero, Nat.sub_zero, List.length_map]
  have e : HT.sIx xs.length xs.length (some (-1)) = xs.length - 1 := by
    simp only [HT.sIx]
    rw [if_pos (by decide)]; omega
  rw [e, ← List.map_take, List.dropLast_eq_take]
theorem ev_cut_last {α : Type} {f : α → PyData} {xs : List α} (ha : EvD G ta Γ (.list (xs.map f))) : EvD G (tSl (rSlA G.K) ta tNoPart (tPart (tUn (rU fun i => V.int (-i)) (tC (V.int 1))))) Γ (.list (xs.dropLast.map f)) :=
  ev_to (ef_sl_list ha eo_none (eo_some (ev_neg ev_int))).ev (by rw [← cut_last])
theorem lay_ints : ∀ ns : List Int, PyData.canLayAll0 (ns.map .int) = true
  | [] => by simp [PyData.canLayAll0]
  | n :: ns => by simp [PyData.canLayAll0, PyData.canLay0, lay_ints ns]
theorem depth_ints : ∀ ns : List Int, PyData.depthAll (ns.map .int) ≤ 1
  | [] => by simp [PyData.depthAll]
  | n :: ns => by have := depth_ints ns; simp [PyData.depthAll, PyData.depth]; omega
theorem shaped_ints (ns : List Int) : SeqAt.shaped (.list (ns.map .int)) = true := by
  have := depth_ints ns
  simp [SeqAt.shaped, PyData.canLay0, PyData.depth, lay_ints]; omega
theorem eqv_nil (ns : List Int) : PyData.eqv (.list (ns.map .int)) (.list []) = decide (ns = []) := by cases ns <;> simp [PyData.eqv, PyData.eqvAll]
theorem eqv_ints : ∀ ns ms : List Int, PyData.eqvAll (ns.map .int) (ms.map .int) = decide (ns = ms)
  | [], [] => by simp [PyData.eqvAll]
  | [], m :: ms => by simp [PyData.eqvAll]
  | n :: ns, [] => by simp [PyData.eqvAll]
  | n :: ns, m :: ms => by rw [Bool.eq_iff_iff]; simp [PyData.eqvAll, PyData.eqv, eqv_ints ns ms]
theorem c_eq_ints {ns ms : List Int} (ha : EvD G ta Γ (.list (ns.map .int))) (hb : EvD G tb Γ (.list (ms.map .int))) : EvD G (tOp (rEqA G.K) ta tb) Γ (.bool (decide (ns = ms))) := ev_to (ev_eq_any ha hb (shaped_ints ns) (shaped_ints ms)) (by rw [← eqv_ints]; rfl)
theorem c_ne_ints {ns ms : List Int} (ha : EvD G ta Γ (.list (ns.map .int))) (hb : EvD G tb Γ (.list (ms.map .int))) : EvD G (tOp (rNeA G.K) ta tb) Γ (.bool (!decide (ns = ms))) := ev_to (ev_ne_any ha hb (shaped_ints ns) (shaped_ints ms)) (by rw [← eqv_ints]; rfl)
theorem atI_lastI {ns : List Int} (h : ns ≠ []) : atI (ns.map PyData.int) (-1) = some (.int (ns.getLastD 0)) := by
  obtain ⟨ys, y, rfl⟩ : ∃ ys y, ns = ys ++ [y] := ⟨_, _, (List.dropLast_concat_getLast h).symm⟩
  unfold atI
  rw [List.length_map, List.length_append, List.length_singleton]
  have e : ixN (ys.length + 1) (-1) = some ys.length := by unfold ixN; simp; omega
  rw [e]; simp
theorem c_ix_last {ns : List Int} (ha : EvD G ta Γ (.list (ns.map .int))) (h : Side (ns ≠ [])) : EvD G (tOp (rIx G.K) ta (tUn (rU fun i => V.int (-i)) (tC (V.int 1)))) Γ (.int (ns.getLastD 0)) := ev_ix_list ha (ev_neg ev_int) (atI_lastI h.out)
theorem c_ix_lastT {ns : List Int} (ha : EvD G ta Γ (.tuple (ns.map .int))) (h : Side (ns ≠ [])) : EvD G (tOp (rIx G.K) ta (tUn (rU fun i => V.int (-i)) (tC (V.int 1)))) Γ (.int (ns.getLastD 0)) := ev_ix_tup ha (ev_neg ev_int) (atI_lastI h.out)
theorem c_ne_nil {ns : List Int} (ha : EvD G ta Γ (.list (ns.map .int))) : EvD G (tOp (rNeA G.K) ta (tLst tNil)) Γ (.bool (!decide (ns = []))) := ev_to (ev_ne_any ha (ef_lst ea_nil (by decide)).ev (shaped_ints ns) rfl) (by rw [eqv_nil])
theorem et_no {tt : TT} (h : False) : EvT G tt Γ false := h.elim
theorem ev_no (h : False) : EvD G te Γ (.bool false) := h.elim
/-- one turn of a while -/
def WhS (G : Gd) (W : WX) (P : Post) (tt : TT) (tb : TS) (I : Nat → List Ent → Prop) (m : Nat) (Γ : List Ent) : Prop :=
  ∃ b, EvT G tt Γ b ∧ (b = true → WpD G W tb Γ { P with nx := fun Γ2 => ∃ m', m' < m ∧ I m' Γ2, ct := fun Γ2 => ∃ m', m' < m ∧ I m' Γ2, bk := P.nx }) ∧ (b = false → P.nx Γ)
theorem wh_mk {tt : TT} {tb : TS} {I : Nat → List Ent → Prop} {m : Nat} {b : Bool} (h : EvT G tt Γ b) (h1 : b = true → WpD G W tb Γ { P with nx := fun Γ2 => ∃ m', m' < m ∧ I m' Γ2, ct := fun Γ2 => ∃ m', m' < m ∧ I m' Γ2, bk := P.nx }) (h2 : b = false → P.nx Γ) : WhS G W P tt tb I m Γ := ⟨b, h, h1, h2⟩
theorem wp_wh {tt : TT} {tb : TS} (I : Nat → List Ent → Prop) (m : Nat) (h0 : I m Γ) (hs : ∀ m Γ', I m Γ' → WhS G W P tt tb I m Γ') : WpD G W (tWhile tt tb) Γ P := wp_while I m h0 hs
/-- a for as a fold: the context C of a state and of the target's slot; J: what is kept, by count -/
theorem wp_fold {α σ : Type} {wi : TI} {j : Nat} {tb : TS} {c : α → PyData} {zs : List α} (step : σ → α → σ) (s0 : σ) (e0 : Ent) (C : σ → Ent → List Ent) (J : Nat → σ → Prop) (hi : ItD G wi Γ (zs.map c)) (h0 : Γ = C s0 e0) (hJ : J 0 s0)
    (hs : ∀ i s x e, x ∈ zs → J i s → i < zs.length → WpD G W tb ((C s e).set j (.dat (c x))) { P with nx := fun Γ' => J (i + 1) (step s x) ∧ ∃ e, Γ' = C (step s x) e, ct := fun Γ' => J (i + 1) (step s x) ∧ ∃ e, Γ' = C (step s x) e, bk := P.nx })
    (hd : ∀ e, J zs.length (zs.foldl step s0) → P.nx (C (zs.foldl step s0) e)) : WpD G W (tFor wi (gName j) tb) Γ P := by
  refine wp_forn (xs := zs.map c) (fun i Γ' => J i ((zs.take i).foldl step s0) ∧ ∃ e, Γ' = C ((zs.take i).foldl step s0) e) hi ⟨hJ, e0, h0⟩ ?_ ?_
  · rintro i x Γ' hx ⟨hj, e, rfl⟩
    rw [List.getElem?_map] at hx
    obtain ⟨z, hz, rfl⟩ := Option.map_eq_some_iff.mp hx
    have hm : z ∈ zs := List.mem_of_getElem? hz
    have hl : i < zs.length := (List.getElem?_eq_some_iff.mp hz).1
    have e1 : (zs.take (i + 1)).foldl step s0 = step ((zs.take i).foldl step s0) z := by
      rw [List.take_add_one, hz, List.foldl_append]; rfl
    rw [e1]
    exact hs i _ z e hm hj hl
  · rintro Γ' ⟨hj, e, rfl⟩
    rw [List.length_map, List.take_length] at *
    exact hd e hj
theorem w_app {i : Nat} (hi : SideR (Γ[i]? = some (.own ds))) (h : EvD G te Γ d) (hz : Side (ds.length < 100000)) (k : P.nx (Γ.set i (.own (ds ++ [d])))) : WpD G W (tDrop (tBM G.K "list" rAppend (tVar i) (tCons te tNil))) Γ P := wp_app hi.out h hz.out k
theorem c_ixTints {ns : List Int} (ha : EvD G ta Γ (.tuple (ns.map .int))) (hb : EvD G tb Γ (.int i)) (h : Side (0 ≤ i ∧ i < ns.length)) : EvD G (tOp (rIx G.K) ta tb) Γ (.int (ns.getD i.toNat 0)) := ev_ix_tup ha hb (atI_ints h.out.1 h.out.2)
end
/-! ### the place of a text in a list of texts -/
theorem kpe_index {X : Cx} {K : PySem.W.Frag} {o e : Expr} {to te : TE} {apos cpos : Pos} (hK : X.K = K) (ho : PE X o to) (he : PE X e te) (hbase : attributeBase o "index" X.env (eval o X.env) = eval o X.env := by rfl)
    (hfew : ((backTo cpos (starEach [e] X.env)).all (fun x => !x.1) && (backToKw cpos (keywordEach [] X.env)).all (fun x => x.1.isSome)
      && decide ([e].length + ([] : List Keyword).length + (if ([] : List Keyword).isEmpty then 0 else 1) < 30)) = true := by rfl)
    (hline : (apos.endLine == cpos.line) = true := by rfl) (hs : starEach [e] X.env = (false, eval e X.env) :: starEach [] X.env := by rfl) (hplain : (backTo cpos (starEach [] X.env)).any (·.1) = false := by rfl) :
    PE X (.Call (.Attribute o "index" apos) [e] [] cpos) (tBM K "list" (rIndex K) to (tCons te tNil)) := hK ▸ pe_bm PySem.F.plainAttrs_list PySem.F.slot_list_index PySem.F.type_list_index mt_index ho (pa_cons he pa_nil hs) hbase hfew hline hs hplain
section
variable {G : Gd} {Γ : List Ent} {to te : TE}
theorem ev_index {ws : List Str} {z : Str} {j : Nat} (ha : EvD G to Γ (.list (ws.map .str))) (hb : EvD G te Γ (.str z)) (hj : ws[j]? = some z) (hn : ∀ i, i < j → ws[i]? ≠ some z) : EvD G (tBM G.K "list" (rIndex G.K) to (tCons te tNil)) Γ (.int (j : Int)) := fun B0 H0 B H σ E Q k =>
  ha B0 H0 B H σ E _ fun v B1 H1 s1 d1 => by
    cases d1 with
    | lst g1 a1 =>
      refine ⟨.inl ⟨rfl, _, s1.bh.sl g1⟩, hb B0 H0 B1 H1 σ (E.step s1) _ fun w B2 H2 s2 d2 => ?_⟩
      cases d2
      have e := dpa_strs_inv a1
      subst e
      refine ⟨_, _, _, j, .str z, rfl, rfl, (s2.hh.sl (s1.bh.sl g1)), rfl, ?_, ?_, ?_, ?_, k _ B2 H2 (s1.trans s2) (.int _)⟩
      · exact List.all_eq_true.mpr fun x hx => (List.mem_map.mp hx).elim fun _ h => h.2 ▸ rfl
      · rw [List.getElem?_map, hj]; rfl
      · exact beq_self_eq_true z
      · intro m z' hm hz
        rw [List.getElem?_map] at hz
        obtain ⟨y, hy, rfl⟩ := Option.map_eq_some_iff.mp hz
        exact beq_eq_false_iff_ne.mpr fun e => hn m hm (by rw [hy, e])
end
/-! ### a dict that the top has written: texts to whole numbers -/
structure GDic (K : PySem.W.Frag) (w : World) (mg : Str → Option Value) (x : Str) (a : Addr) (kvs : List (Str × Int)) : Prop where
  g : mg x = some (.ref a)
  d : ∀ z n, kvs.lookup z = some n → KDct K w a z (.int n)
section
variable {G : Gd} {w : World} {Γ : List Ent} {tb : TE} {X : Cx} {K : PySem.W.Frag}
theorem kx_dict (hK : X.K = K) (hw : X.w = w) : IxR X (rIxD K w) := by subst hK hw; exact ix_kdict
theorem ev_ixD {a : Addr} {z : Str} {n : Int} {kvs : List (Str × Int)} {mg : Str → Option Value} {x : Str} (D : GDic G.K w mg x a kvs) (hb : EvD G tb Γ (.str z)) (h : kvs.lookup z = some n) : EvD G (tOp (rIxD G.K w) (tC (.ref a)) tb) Γ (.int n) := fun B0 H0 B H σ E Q k =>
  hb B0 H0 B H σ E _ fun v B1 H1 s1 d1 => by cases d1; exact ⟨a, z, _, rfl, rfl, D.d z n h, k _ B1 H1 s1 (.int n)⟩
theorem c_ixD {a : Addr} {z : Str} {n : Int} {kvs : List (Str × Int)} {mg : Str → Option Value} {x : Str} (D : SideA (GDic G.K w mg x a kvs)) (hb : EvD G tb Γ (.str z)) (h : SideR (kvs.lookup z = some n)) : EvD G (tOp (rIxD G.K w) (tC (.ref a)) tb) Γ (.int n) := ev_ixD D.out hb h.out
theorem lookup_mem' {z : Str} {n : Int} : ∀ {kvs : List (Str × Int)}, kvs.lookup z = some n → (z, n) ∈ kvs
  | [], h => by cases h
  | (k, v) :: r, h => by
    rw [List.lookup_cons] at h
    split at h
    · rename_i e
      have e : z = k := beq_iff_eq.mp e
      subst e; cases h; exact List.mem_cons_self
    · exact List.mem_cons_of_mem _ (lookup_mem' h)
theorem gdic_mk {h : Heap} {mg : Str → Option Value} {x : Str} {a : Addr} (X : K.In h) (G : h.Ns mainGlobals mg) {es : Array DictEntry} {n : Nat} {kvs : List (Str × Int)} (e : PySem.W.nsIn K mainGlobals x = some (some (.ref a))) (l : K.lookup a = some ⟨.type "dict", none, .dict es n, #[]⟩) (hk : PySem.W.KeysLit w.params es.toList)
    (hv : ∀ p ∈ kvs, ∃ t, PySem.W.nsIn K a p.1 = some (some (.int p.2 t))) : GDic K w mg x a kvs :=
  ⟨PySem.W.mg_of X G e, fun z n h => (hv _ (lookup_mem' h)).elim fun t q => ⟨es, _, _, l, hk, q, ⟨t, rfl⟩⟩⟩
end
/-! ### a list of a slot's own, read -/
section
variable {G : Gd} {W : WX} {Γ : List Ent} {P : Post} {te : TE} {d : PyData} {ds es : List PyData}
theorem et_borrow {i : Nat} {tt : TT} {b : Bool} (hi : Γ[i]? = some (.own ds)) (h : EvT G tt (Γ.set i (.dat (.list ds))) b) : EvT G tt Γ b := fun B0 H0 B H σ E Q k => by
  obtain ⟨B1, E1, st⟩ := E.borrow hi
  exact h B0 H0 B1 H σ E1 Q fun B2 H2 s => (st B2 H2 s).elim fun B3 s3 => k B3 H2 s3
theorem dp_flat_any {K : PySem.W.Frag} {B B' : Hp} {v : V} {d : PyData} (f : flatD d = true) (h : Dp K B v d) : Dp K B' v d := by
  cases h with
  | non => exact .non
  | bl b => exact .bl b
  | int i => exact .int i
  | str x => exact .str x
  | lst _ _ => cases f
  | tup _ _ => cases f
theorem ev_borrow {i : Nat} (hi : Γ[i]? = some (.own ds)) (f : flatD d = true) (h : EvD G te (Γ.set i (.dat (.list ds))) d) : EvD G te Γ d := fun B0 H0 B H σ E Q k => by
  obtain ⟨B1, E1, st⟩ := E.borrow hi
  exact h B0 H0 B1 H σ E1 Q fun v B2 H2 s d2 => (st B2 H2 s).elim fun B3 s3 => k v B3 H2 s3 (dp_flat_any f d2)
theorem wp_clear {i : Nat} (hi : SideR (Γ[i]? = some (.own ds))) (k : P.nx (Γ.set i (.own []))) : WpD G W (tDrop (tBM0 G.K "list" rClear (tVar i))) Γ P := fun B0 H0 B H σ D E M => by
  obtain ⟨p, vs, e1, e2, e3, e4, e5⟩ := E.own hi.out
  exact ⟨.ref p, e1, .inl ⟨rfl, vs, SqL.of e4⟩, p, vs, rfl, rfl, e4, M.nx _ _ _ _ k Ex.rfl' (E.mut_own hi.out e1 .nil)⟩
end
/-! ### promises of a new list -/
def spF (K : PySem.W.Frag) (R : List PyData → List PyData → Prop) : Sp := fun vs H Q _ => ∃ B ds es, Ex B H ∧ DpAll K B vs ds ∧ R ds es ∧ ∀ p us B2 H2, Stp B H B2 H2 → H2 p = none → DpAll K B2 us es → Q (.ref p) (upd H2 p (.lst us))
section
variable {P : Program} {w : World} {K : PySem.W.Frag} {mg : Str → Option Value} {base : Heap}
theorem fn_okF {x qual : Str} {st : Stmt} {f : Addr} {fd : FuncData} {N ps : List Str} {k : Nat} {R : List PyData → List PyData → Prop} (F : Fun K x qual st f fd) (S : FnScope N ps (defScope st)) (len : ∀ ds d, R ds d → ds.length = ps.length)
    (hb : ∀ (cdv : Value) (A : Around) (outer : List Env) (s : Shared) (H : Hp) (E : XK), Room k (A.deeper (PyProof.Rows.envOfC qual (defScope st) s.heap.objs.size f cdv)) →
      ∃ te, PSs (cxOf CX0 P w K mg base N qual (defScope st) f cdv A outer s H E).nox (defBody st) (tRet te) ∧ ∀ ds es, R ds es → EvF (.pure K) te (entry N ds) es) : FnOk P w K mg base CX0 (k + 1) f fd ps (spF K R) := by
  refine F.ok S (fun vs H Q E h => ?_) (fun cdv A outer s H vs Q E hr h => ?_)
  · obtain ⟨B, ds, d, e, hd, hR, _⟩ := h
    rw [dpa_len hd]; exact len ds d hR
  · obtain ⟨B, ds, es, e, hd, hR, q⟩ := h
    obtain ⟨te, ht, hw⟩ := hb cdv A outer s H E hr
    exact ⟨_, ht, hw ds es hR B H B H _ (entry_env e hd) _ fun p us B2 H2 s2 h0 d2 => q p us B2 H2 s2 h0 d2⟩
end
section
variable {G : Gd} {Γ : List Ent} {ta : TA} {ds es : List PyData} {E : XK}
theorem ef_call {R : List PyData → List PyData → Prop} (h : EvA G ta Γ ds) (hR : R ds es) : EvF G (tCall (spF G.K R) [] E ta) Γ es := fun B0 H0 B H σ En Q k =>
  h B0 H0 B H σ En _ fun vs B1 H1 s1 d1 => ⟨B1, ds, es, s1.bh, by rw [List.append_nil]; exact d1, hR, fun p us B2 H2 s2 h0 d2 => k p us B2 H2 (s1.trans s2) h0 d2⟩
end
/-! ### promises of which only a property of the answer is told -/
def spE (K : PySem.W.Frag) (R : List PyData → (PyData → Prop) → Prop) : Sp := fun vs H Q _ => ∃ B ds N, Ex B H ∧ DpAll K B vs ds ∧ R ds N ∧ ∀ d v B2 H2, N d → Stp B H B2 H2 → Dp K B2 v d → Q v H2
section
variable {P : Program} {w : World} {K : PySem.W.Frag} {mg : Str → Option Value} {base : Heap}
theorem fn_okE {x qual : Str} {st : Stmt} {f : Addr} {fd : FuncData} {N ps : List Str} {k : Nat} {R : List PyData → (PyData → Prop) → Prop} (F : Fun K x qual st f fd) (S : FnScope N ps (defScope st)) (len : ∀ ds d, R ds d → ds.length = ps.length)
    (hb : ∀ (cdv : Value) (A : Around) (outer : List Env) (s : Shared) (H : Hp) (E : XK), Room k (A.deeper (PyProof.Rows.envOfC qual (defScope st) s.heap.objs.size f cdv)) →
      ∃ t, PSs (cxOf CX0 P w K mg base N qual (defScope st) f cdv A outer s H E).nox (defBody st) t ∧ ∀ ds d, R ds d → WpD (.pure K) WNo t (entry N ds) { nx := fun _ => d .none, rt := d }) : FnOk P w K mg base CX0 (k + 1) f fd ps (spE K R) := by
  refine F.ok S (fun vs H Q E h => ?_) (fun cdv A outer s H vs Q E hr h => ?_)
  · obtain ⟨B, ds, d, e, hd, hR, _⟩ := h
    rw [dpa_len hd]; exact len ds d hR
  · obtain ⟨B, ds, N', e, hd, hR, q⟩ := h
    obtain ⟨t, ht, hw⟩ := hb cdv A outer s H E hr
    refine ⟨t, ht, hw ds N' hR B H B H _ _ (entry_env e hd) ⟨fun Γ2 B2 H2 σ2 a b c => ?_, fun _ _ _ _ a => a.elim, fun _ _ _ _ a => a.elim, fun d' v B2 H2 a s2 _ d2 => ?_, fun _ _ _ _ _ a => a.elim⟩⟩
    · exact q .none .non B2 H2 a c.stp .non
    · exact q d' v B2 H2 a s2 d2
end
section
variable {G : Gd} {W : WX} {Γ : List Ent} {P : Post} {ta : TA} {ds : List PyData} {E : XK}
theorem wp_asgE {i : Nat} {R : List PyData → (PyData → Prop) → Prop} {N : PyData → Prop} (h : EvA G ta Γ ds) (hR : R ds N) (k : ∀ d, N d → P.nx (Γ.set i (.dat d))) : WpD G W (tAsg (tCall (spE G.K R) [] E ta) (gName i)) Γ P := fun B0 H0 B H σ D En M =>
  h B0 H0 B H σ En _ fun vs B1 H1 s1 d1 => ⟨B1, ds, N, s1.bh, by rw [List.append_nil]; exact d1, hR, fun d v B2 H2 hd s2 d2 => M.nx _ _ _ _ (k d hd) (s1.trans s2).bb ((En.step (s1.trans s2)).set_dat i d2)⟩
theorem wp_retE {R : List PyData → (PyData → Prop) → Prop} {N : PyData → Prop} (h : EvA G ta Γ ds) (hR : R ds N) (k : ∀ d, N d → P.rt d) : WpD G W (tRet (tCall (spE G.K R) [] E ta)) Γ P := fun B0 H0 B H σ D En M =>
  h B0 H0 B H σ En _ fun vs B1 H1 s1 d1 => ⟨B1, ds, N, s1.bh, by rw [List.append_nil]; exact d1, hR, fun d v B2 H2 hd s2 d2 => M.rt d v B2 H2 (k d hd) (En.stp.trans (s1.trans s2)) (s1.trans s2).bb d2⟩
end
end Pd

namespace Pd
open PySem L2
/-! ### from the leaves up: what an operator makes of two known values -/
section
variable {G : Gd} {Γ : List Ent} {ta tb te : TE} {tt : TT} {tA : TA} {x y z d : PyData} {i j k : Int} {p q : Str} {ds es : List PyData} {a b : Bool} {ns ms : List Int} {r r2 : R2}
theorem id_c {v : V} (h : EvD G (tC v) Γ d) : EvD G (tC v) Γ d := h
theorem id_var {i : Nat} (h : EvD G (tVar i) Γ d) : EvD G (tVar i) Γ d := h
theorem id_op (h : EvD G (tOp r ta tb) Γ d) : EvD G (tOp r ta tb) Γ d := h
theorem id_cb {rr : List V → Hp → VK → Prop} (h : EvD G (tCB rr tA) Γ d) : EvD G (tCB rr tA) Γ d := h
theorem id_call {sp : Sp} {l : List V} {E : XK} (h : EvD G (tCall sp l E tA) Γ d) : EvD G (tCall sp l E tA) Γ d := h
theorem id_D (h : EvD G te Γ d) : EvD G te Γ d := h
theorem id_F (h : EvF G te Γ ds) : EvF G te Γ ds := h
theorem id_T (h : EvT G tt Γ a) : EvT G tt Γ a := h
theorem id_A (h : EvA G tA Γ ds) : EvA G tA Γ ds := h
theorem id_O {to : TO} {o : Option Int} (h : EvO G to Γ o) : EvO G to Γ o := h
theorem id_I {wi : TI} (h : ItD G wi Γ ds) : ItD G wi Γ ds := h
theorem id_od (h : OpD G r x y z) : OpD G r x y z := h
theorem id_ca {rr : List V → Hp → VK → Prop} (h : CaD G rr ds z) : CaD G rr ds z := h
theorem id_wp {W : WX} {t : TS} {P : Post} (h : WpD G W t Γ P) : WpD G W t Γ P := h
theorem id_R {W : WX} {rs : Res} (h : EvR G W te Γ rs) : EvR G W te Γ rs := h
theorem od_to (h : OpD G r x y z) (e : z = d) : OpD G r x y d := e ▸ h
theorem oq_add_str (h : Side (p.length + q.length ≤ 100000)) : OpD G (rAddA G.K) (.str p) (.str q) (.str (p ++ q)) := od_add_str h.out
theorem oq_add_tup (hx : Side (ds ≠ [])) (h : Side (ds.length + es.length ≤ 100000)) : OpD G (rAddA G.K) (.tuple ds) (.tuple es) (.tuple (ds ++ es)) := od_add_tup hx.out h.out
theorem oq_add_list (h : Side (ds.length + es.length ≤ 100000)) : OpD G (rAddA G.K) (.list ds) (.list es) (.list (ds ++ es)) := fun B H v w e d1 d2 Q k => by
  cases d1 with
  | lst h1 a1 =>
    cases d2 with
    | lst h2 a2 =>
      refine .inr (.inr (.inl ⟨_, _, _, _, rfl, rfl, e.sl h1, e.sl h2, Evl.sz_of (by rw [dpa_len a1, dpa_len a2]; exact h.out), fun p hp => ?_⟩))
      exact k (.ref p) _ _ ((Stp.refl e).new hp) (.lst (SqL.of upd_same) ((Ex.new (e.back hp)).dpa (dpa_app a1 a2)))
theorem oq_sub : OpD G Pd.rSub (.int i) (.int j) (.int (i - j)) := od_I0 fun _ => .int _
theorem oq_mul (h : Side (CMul i j)) : OpD G rMul (.int i) (.int j) (.int (i * j)) := od_I h.out fun _ => .int _
theorem oq_div (h : Side (CDiv i j)) : OpD G rDiv (.int i) (.int j) (.int (i / j)) := od_I h.out fun _ => .int _
theorem oq_mod (h : Side (0 < j)) : OpD G rMod (.int i) (.int j) (.int (i % j)) := od_I h.out fun _ => .int _
theorem oq_eq_strT (h : SideD (p = q)) : OpD G (rEqA G.K) (.str p) (.str q) (.bool true) := od_to od_eq_str (by rw [decide_eq_true h.out])
theorem oq_eq_strF (h : SideD (¬ p = q)) : OpD G (rEqA G.K) (.str p) (.str q) (.bool false) := od_to od_eq_str (by rw [decide_eq_false h.out])
theorem oq_ne_strT (h : SideD (¬ p = q)) : OpD G (rNeA G.K) (.str p) (.str q) (.bool true) := od_to od_ne_str (by rw [decide_eq_false h.out]; rfl)
theorem oq_ne_strF (h : SideD (p = q)) : OpD G (rNeA G.K) (.str p) (.str q) (.bool false) := od_to od_ne_str (by rw [decide_eq_true h.out]; rfl)
theorem oq_eq_ints : OpD G (rEqA G.K) (.list (ns.map .int)) (.list (ms.map .int)) (.bool (decide (ns = ms))) := od_to (od_eq_any (shaped_ints ns) (shaped_ints ms)) (by rw [← eqv_ints]; rfl)
theorem oq_ne_ints : OpD G (rNeA G.K) (.list (ns.map .int)) (.list (ms.map .int)) (.bool (!decide (ns = ms))) := od_to (od_ne_any (shaped_ints ns) (shaped_ints ms)) (by rw [← eqv_ints]; rfl)
theorem oq_ne_nil : OpD G (rNeA G.K) (.list (ns.map .int)) (.list []) (.bool (!decide (ns = []))) := od_to (od_ne_any (shaped_ints ns) rfl) (by rw [eqv_nil])
theorem oq_eq_nil : OpD G (rEqA G.K) (.list (ns.map .int)) (.list []) (.bool (decide (ns = []))) := od_to (od_eq_any (shaped_ints ns) rfl) (by rw [eqv_nil])
theorem oq_eq_any (hx : Side (SeqAt.shaped x = true)) (hy : Side (SeqAt.shaped y = true)) : OpD G (rEqA G.K) x y (.bool (PyData.eqv x y)) := od_eq_any hx.out hy.out
theorem oq_ne_any (hx : Side (SeqAt.shaped x = true)) (hy : Side (SeqAt.shaped y = true)) : OpD G (rNeA G.K) x y (.bool (!PyData.eqv x y)) := od_ne_any hx.out hy.out
theorem oq_in_intsT : OpD G (rInA G.K) (.int i) (.tuple (ns.map .int)) (.bool (decide (i ∈ ns))) := od_to (od_in rfl (flat_ints ns) (.inr rfl)) (by rw [in_ints])
theorem oq_in_intsL : OpD G (rInA G.K) (.int i) (.list (ns.map .int)) (.bool (decide (i ∈ ns))) := od_to (od_in rfl (flat_ints ns) (.inl rfl)) (by rw [in_ints])
theorem oq_notIn_intsT : OpD G (rNotInA G.K) (.int i) (.tuple (ns.map .int)) (.bool (!decide (i ∈ ns))) := od_to (od_notIn rfl (flat_ints ns) (.inr rfl)) (by rw [in_ints])
theorem oq_in_int2 {a b : Int} : OpD G (rInA G.K) (.int i) (.list [.int a, .int b]) (.bool (decide (i = a) || decide (i = b))) := od_to (oq_in_intsL (ns := [a, b])) (by rw [← Bool.decide_or]; congr 1; exact decide_eq_decide.mpr (by simp))
theorem oq_in_listT (hf : SideD (ds.all flatD = true)) (h : SideD (inD (.str p) ds = true)) : OpD G (rInA G.K) (.str p) (.list ds) (.bool true) := od_to (od_in rfl hf.out (.inl rfl)) (by rw [h.out])
theorem oq_in_listF (hf : SideD (ds.all flatD = true)) (h : SideD (inD (.str p) ds = false)) : OpD G (rInA G.K) (.str p) (.list ds) (.bool false) := od_to (od_in rfl hf.out (.inl rfl)) (by rw [h.out])
theorem oq_notIn_listT (hf : SideD (ds.all flatD = true)) (h : SideD (inD (.str p) ds = false)) : OpD G (rNotInA G.K) (.str p) (.list ds) (.bool true) := od_to (od_notIn rfl hf.out (.inl rfl)) (by rw [h.out]; rfl)
theorem oq_notIn_listF (hf : SideD (ds.all flatD = true)) (h : SideD (inD (.str p) ds = true)) : OpD G (rNotInA G.K) (.str p) (.list ds) (.bool false) := od_to (od_notIn rfl hf.out (.inl rfl)) (by rw [h.out]; rfl)
theorem oq_in_list (hx : Side (flatD x = true)) (hf : Side (ds.all flatD = true)) : OpD G (rInA G.K) x (.list ds) (.bool (inD x ds)) := od_in hx.out hf.out (.inl rfl)
theorem oq_in_tup (hx : Side (flatD x = true)) (hf : Side (ds.all flatD = true)) : OpD G (rInA G.K) x (.tuple ds) (.bool (inD x ds)) := od_in hx.out hf.out (.inr rfl)
theorem oq_notIn_list (hx : Side (flatD x = true)) (hf : Side (ds.all flatD = true)) : OpD G (rNotInA G.K) x (.list ds) (.bool (!inD x ds)) := od_notIn hx.out hf.out (.inl rfl)
theorem oq_notIn_tup (hx : Side (flatD x = true)) (hf : Side (ds.all flatD = true)) : OpD G (rNotInA G.K) x (.tuple ds) (.bool (!inD x ds)) := od_notIn hx.out hf.out (.inr rfl)
theorem oq_in_sign {c : Nat} : OpD G (rInA G.K) (.str ⟨#[c]⟩) (.str q) (.bool (decide (c ∈ q.cps.toList))) := fun B H v w e d1 d2 Q k => by
  cases d1; cases d2
  exact .inr ⟨c, q, rfl, rfl, k _ B H (Stp.refl e) (.bl _)⟩
theorem oq_notIn_sign {c : Nat} : OpD G (rNotInA G.K) (.str ⟨#[c]⟩) (.str q) (.bool (!decide (c ∈ q.cps.toList))) := fun B H v w e d1 d2 Q k => by
  cases d1; cases d2
  exact .inr ⟨c, q, rfl, rfl, k _ B H (Stp.refl e) (.bl _)⟩
theorem oq_ix_list0 (h : atI ds i = some d) : OpD G (rIx G.K) (.list ds) (.int i) d := fun B H v w e d1 d2 Q k => by
  cases d2
  cases d1 with
  | lst h1 a1 =>
    obtain ⟨u, hu, hd⟩ := dpa_at a1 h
    exact .inl ⟨_, _, i, u, rfl, rfl, e.sl h1, hu, k u B H (Stp.refl e) hd⟩
theorem oq_ix_tup0 (h : atI ds i = some d) : OpD G (rIx G.K) (.tuple ds) (.int i) d := fun B H v w e d1 d2 Q k => by
  cases d2
  cases d1 with
  | tup h1 a1 =>
    obtain ⟨u, hu, hd⟩ := dpa_at a1 h
    exact .inr (.inl ⟨_, _, i, u, rfl, rfl, e.st h1, hu, k u B H (Stp.refl e) hd⟩)
theorem oq_ix_tup (h : SideR (atI ds i = some d)) : OpD G (rIx G.K) (.tuple ds) (.int i) d := oq_ix_tup0 h.out
theorem oq_ix_list (h : SideR (atI ds i = some d)) : OpD G (rIx G.K) (.list ds) (.int i) d := oq_ix_list0 h.out
theorem oq_ix0 {x0 : PyData} : OpD G (rIx G.K) (.tuple (x0 :: ds)) (.int 0) x0 := oq_ix_tup0 (show atI _ ((0 : Nat) : Int) = _ from atI_nat rfl)
theorem oq_ix1 {x0 x1 : PyData} : OpD G (rIx G.K) (.tuple (x0 :: x1 :: ds)) (.int 1) x1 := oq_ix_tup0 (show atI _ ((1 : Nat) : Int) = _ from atI_nat rfl)
theorem oq_ix2 {x0 x1 x2 : PyData} : OpD G (rIx G.K) (.tuple (x0 :: x1 :: x2 :: ds)) (.int 2) x2 := oq_ix_tup0 (show atI _ ((2 : Nat) : Int) = _ from atI_nat rfl)
theorem oq_ix3 {x0 x1 x2 x3 : PyData} : OpD G (rIx G.K) (.tuple (x0 :: x1 :: x2 :: x3 :: ds)) (.int 3) x3 := oq_ix_tup0 (show atI _ ((3 : Nat) : Int) = _ from atI_nat rfl)
theorem oq_ix_lastL (h : Side (ns ≠ [])) : OpD G (rIx G.K) (.list (ns.map .int)) (.int (-1)) (.int (ns.getLastD 0)) := oq_ix_list0 (atI_lastI h.out)
theorem oq_ix_lastT (h : Side (ns ≠ [])) : OpD G (rIx G.K) (.tuple (ns.map .int)) (.int (-1)) (.int (ns.getLastD 0)) := oq_ix_tup0 (atI_lastI h.out)
theorem oq_ix_intsT (h : Side (0 ≤ i ∧ i < ns.length)) : OpD G (rIx G.K) (.tuple (ns.map .int)) (.int i) (.int (ns.getD i.toNat 0)) := oq_ix_tup0 (atI_ints h.out.1 h.out.2)
theorem oq_ix_ints (h : Side (0 ≤ i ∧ i < ns.length)) : OpD G (rIx G.K) (.list (ns.map .int)) (.int i) (.int (ns.getD i.toNat 0)) := oq_ix_list0 (atI_ints h.out.1 h.out.2)
theorem oq_ix_str {c : Nat} (hl : Side (p.length ≤ 100000)) (h : SideR (atI p.cps.toList i = some c)) : OpD G (rIx G.K) (.str p) (.int i) (.str ⟨#[c]⟩) := fun B H v w e d1 d2 Q k => by
  cases d1; cases d2
  exact .inr (.inr ⟨p, i, c, rfl, rfl, Evl.sz_of hl.out, h.out, k _ B H (Stp.refl e) (.str _)⟩)
/-- a written list of whole numbers at a place -/
def intsOf : List PyData → Option (List Int)
  | [] => some []
  | .int n :: r => (intsOf r).map (n :: ·)
  | _ :: _ => none
theorem intsOf_ok : ∀ {ds : List PyData} {ns : List Int}, intsOf ds = some ns → ds = ns.map .int
  | [], _, h => by cases h; rfl
  | .int n :: r, _, h => by
    unfold intsOf at h
    obtain ⟨ms, h1, rfl⟩ := Option.map_eq_some_iff.mp h
    rw [intsOf_ok h1]; rfl
  | .none :: _, _, h | .bool _ :: _, _, h | .str _ :: _, _, h | .list _ :: _, _, h | .tuple _ :: _, _, h => by cases h
theorem oq_ix_lit (hs : SideR (intsOf ds = some ns)) (h : Side (0 ≤ i ∧ i < ns.length)) : OpD G (rIx G.K) (.list ds) (.int i) (.int (ns.getD i.toNat 0)) := by
  rw [intsOf_ok hs.out]; exact oq_ix_ints h
theorem cq_len_str (hl : Side (p.length ≤ 100000)) : CaD G (rLen G.K) [.str p] (.int (p.length : Int)) := ca_len_str hl.out
theorem cq_int_str {n : Int} (h1 : Side (PySem.intText? p = some n)) (hl : Side (p.length ≤ 640)) : CaD G rIntA [.str p] (.int n) := ca_int_str h1.out hl.out
theorem cq_str_int (hl : Side (i.natAbs.log2 < 1920)) : CaD G rStrI [.int i] (.str (toString i)) := ca_str_int hl.out
theorem cq_all (f : Side (∀ d ∈ ds, ∃ b, d = .bool b)) : CaD G (rAll G.K) [.list ds] (.bool (ds.all boD)) := ca_all f.out
theorem cq_any (f : Side (∀ d ∈ ds, ∃ b, d = .bool b)) : CaD G (rAny G.K) [.list ds] (.bool (ds.any boD)) := ca_any f.out
end
end Pd

namespace Pd
open PySem L2
/-! ### repr of data, where no repr is under way -/
def rReprD (K : PySem.W.Frag) : List V → Hp → VK → Prop := fun xs H Q => ∃ v d, xs = [v] ∧ Dp K H v d ∧ PyData.showable d = true ∧ PyData.hasDict d = false ∧ PyData.depth d ≤ 64 ∧ (PyData.shown d).length ≤ sizeLine ∧ Q (.str (PyData.shown d)) H
theorem call_reprD {X : Cx} (hg : X.A.guards = some []) (hu : X.A.units + 66 < cLine) : CallR X (.builtin "repr") (rReprD X.K) := by
  intro pins s σ H xs us Q I r h
  obtain ⟨v, d, rfl, hd, hs, hn, hdep, hsz, q⟩ := h
  obtain ⟨u, rfl, ru⟩ := vals1 r
  have fin : ∀ (h' : Heap) (t : Tok) (tk : Nat), (∀ b o, s.heap.get? b = some o → h'.get? b = some o) → EP X pins σ Q (.str (PyData.shown d) t) { s with heap := h', toks := tk } :=
    fun h' t tk k => ⟨.str (PyData.shown d), H, I.kept k, ⟨t, rfl⟩, q⟩
  cases hd with
  | non => cases ru; exact PySem.P.repr_of_none (fin s.heap _ _ fun b o e => e)
  | bl b => cases ru; exact PySem.P.repr_of_bool (fin s.heap _ _ fun b o e => e)
  | int i =>
    obtain ⟨t, rfl⟩ := ru
    exact PySem.P.repr_of_int (of_decide_eq_true hs) (fin s.heap _ _ fun b o e => e)
  | str x =>
    obtain ⟨t, rfl⟩ := ru
    exact PySem.P.repr_of_str (fin s.heap _ _ fun b o e => e) hsz
  | lst a b =>
    cases ru
    obtain ⟨as, R⟩ := Dp.reads I _ _ _ (.lst a b) rfl
    exact PySem.repr_of_reads' R hs (fun z => by rw [hn] at z; cases z) hg (by omega) (fun b o e => e) (fun h' u tk k => fin h' u tk k) hsz
  | tup a b =>
    cases ru
    obtain ⟨as, R⟩ := Dp.reads I _ _ _ (.tup a b) rfl
    exact PySem.repr_of_reads' R hs (fun z => by rw [hn] at z; cases z) hg (by omega) (fun b o e => e) (fun h' u tk k => fin h' u tk k) hsz
end Pd

namespace Pd
open PySem PySem.Spec PyProof.Rows L2
/-! ### the law's own body, run once, where the guards are known (no repr is under way) -/
section
variable {P : Program} {w : World} {K : PySem.W.Frag} {mg : Str → Option Value} {base : Heap} {CX : CXT}
/-- one call of a def of the text, at one place -/
theorem run_at {x qual : Str} {st : Stmt} {f : Addr} {fd : FuncData} {N ps : List Str} {k : Nat} {A : Around} {outer : List Env} {s : Shared} {H : Hp} {args : Args} {us : List Value} {vs : List V} {Q : VK} {E : XK}
    (F : Fun K x qual st f fd) (S : FnScope N ps (defScope st)) (room : Room (k + 1) A) (en : Env0 P w K mg base A outer s H) (bind : BindsTo s fd args (ps.zip us)) (rv : Vals vs us) (same : vs.length = ps.length)
    (walk : ∀ cdv : Value, Room k (A.deeper (envOfC qual (defScope st) s.heap.objs.size f cdv)) → ∃ t, PSs (cxOf CX P w K mg base N qual (defScope st) f cdv A outer s H E) (defBody st) t ∧ t { nx := fun _ H2 => Q .non H2, rt := Q } (L2.start N vs) H) :
    codeAny (model P w) A (.call (.ref f) args) (CR CX outer P w H s Q E) s := by
  obtain ⟨oc, od, kV, doc, pm, an, cdv, ct, osl, rfl, found, code⟩ := F.ex
  have keepAll : ∀ {b : Addr} {o : Obj}, base.get? b = some o → s.heap.get? b = some o := fun h => (en.bs _ _ h).1
  have inNow : K.In s.heap := en.mod.kin.keeps fun _ _ h => keepAll h
  have noLim : s.heap.NoLimit := en.mod.nolimit.keeps fun _ _ h => keepAll h
  have kinds : ∀ z ∈ ps.zip us, (defScope st).names.lookup z.1 = some .local ∨
      ((defScope st).names.lookup z.1 = some .cell ∧ ((cellsFrom (s.heap.objs.size + 1) (defScope st).names []).lookup z.1).isSome = true) := by
    rintro ⟨n, v⟩ hz
    refine (S.par n (List.of_mem_zip hz).1).imp id fun c => ⟨c, ?_⟩
    exact PySem.W.cellsFrom_some _ _ _ (.inl c)
  refine codeAny_call_function room.depth (inNow _ _ found) rfl S.co S.gen rfl (PySem.W.codeRec_of inNow code) ?_
  refine bind _ _ _ _ ?_
  refine wpAny_newFunctionEnv_cells S.kind kinds ?_
  intro env eq s2 made
  subst eq
  refine ⟨noLim.keeps made.toInCall.keep, codeAny_func ?_⟩
  obtain ⟨t, ht, hq⟩ := walk cdv (room.deeper _)
  have begun := inv_start (CX := CX) (qual := qual) (cd := cdv) (f := f) (E := E) S room.hd en same rv made
  refine wpAny_mono (ht.run [] s2 _ H _ begun hq) ?_ (fun _ _ h => h)
  intro fl s3 h
  have out : ∀ {σ : L2.St} {H2 : Hp} {v : V} {u : Value}, Inv (cxOf CX P w K mg base N qual (defScope st) f cdv A outer s H E) [] σ H2 s3 → RelV v u → Q v H2 → CE outer P w H s Q u s3 := by
    intro σ H2 v u J r q
    exact ⟨v, H2, J.os, J.bare, J.base, J.hok, r, q⟩
  cases fl with
  | ret u => obtain ⟨v, _, H2, J, r, q⟩ := h; exact out J r q
  | next => obtain ⟨_, H2, J, q⟩ := h; exact out (v := .non) (u := .none) J rfl q
  | brk => obtain ⟨_, _, _, q⟩ := h; exact q.elim
  | cont => obtain ⟨_, _, _, q⟩ := h; exact q.elim
end
/-- the law's def, run by the caller of all -/
def LawRun (P : Program) (w : World) (K : PySem.W.Frag) (mg : Str → Option Value) (base : Heap) (fa : Addr) (fd : FuncData) (x : Str) (sp : Sp) : Prop :=
  ∀ (s : Shared) (H : Hp) (us : List Value) (vs : List V) (Q : VK) (E : XK), Env0 P w K mg base callerA [] s H → BindsTo s fd ⟨us, []⟩ ([x].zip us) → Vals vs us → sp vs H Q E →
    codeAny (model P w) callerA (.call (.ref fa) ⟨us, []⟩) (CR CX0 [] P w H s Q E) s
section
variable {P : Program} {w : World} {K : PySem.W.Frag} {mg mb : Str → Option Value} {fa a : Addr} {fd : FuncData} {x : Str} {sp : Sp} {s : Shared} {vs : List Value} {ns : List Int}
/-- the heap of which the law knows: the script, if the top has not written it -/
def scriptH (K : PySem.W.Frag) (a : Addr) (vs : List Value) (ns : List Int) : Hp := fun b =>
  match K.lookup a with
  | some _ => none
  | none => if b = a then some (.frz { cls := .type "list", data := .seq vs.toArray } (.lst (ns.map V.int))) else none
theorem scriptH_at {b : Addr} (h : scriptH K a vs ns b ≠ none) : b = a ∧ K.lookup a = none := by
  unfold scriptH at h
  split at h
  · exact absurd rfl h
  · rename_i e
    split at h
    · rename_i e2; exact ⟨e2, e⟩
    · exact absurd rfl h
theorem scriptH_is {b : Addr} {o : HO} (h : scriptH K a vs ns b = some o) : b = a ∧ o = .frz { cls := .type "list", data := .seq vs.toArray } (.lst (ns.map V.int)) := by
  have h1 := scriptH_at (K := K) (a := a) (vs := vs) (ns := ns) (b := b) (by rw [h]; exact fun z => by cases z)
  unfold scriptH at h
  rw [h1.2] at h
  simp only [h1.1, if_pos] at h
  exact ⟨h1.1, (Option.some.inj h).symm⟩
theorem law_once (inK : K.In s.heap) (gl : s.heap.Ns mainGlobals mg) (bu : s.heap.Ns builtinsNs mb) (bb : ∀ y : Str, y ≠ "__name__" → mb y = bootBuiltins y) (noLim : s.heap.NoLimit) (gens : s.gens = #[])
    (at_a : s.heap.get? a = some { cls := .type "list", data := .seq vs.toArray }) (whole1 : IntsAre vs ns) (few : ns.length ≤ sizeLine)
    (run : ∀ base : Heap, K.In base → base.Ns mainGlobals mg → LawRun P w K mg base fa fd x sp) (bind : ∀ (s' : Shared) (u : Value), BindsTo s' fd ⟨[u], []⟩ [(x, u)])
    (told : ∀ H : Hp, Only H → SqL K H a (ns.map V.int) → sp [.ref a] H (fun v _ => v = .bl true) fun _ _ _ => False) :
    codeAny (model P w) callerA (.call (.ref fa) ⟨[.ref a], []⟩) (fun r s' => r = .ok (.ret (.bool true)) ∧ OldK s.heap s'.heap ∧ s'.os = s.os ∧ AllBare s'.gens) s := by
  have rv := vals_ints whole1
  let H : Hp := scriptH K a vs ns
  have only : Only H := by
    intro b
    cases h : H b with
    | none => exact Or.inl rfl
    | some o => exact Or.inr ⟨_, _, congrArg some (scriptH_is h).2⟩
  have list : SqL K H a (ns.map V.int) := by
    cases hk : K.lookup a with
    | some o =>
      have := inK a o hk
      rw [at_a] at this
      cases this
      refine Or.inr ⟨_, vs.toArray, _, hk, rfl, rfl, rfl, ?_, ?_⟩
      · rw [List.size_toArray, whole1.length]; exact few
      · simpa using rv
    | none =>
      refine Or.inl (Or.inr ⟨{ cls := .type "list", data := .seq vs.toArray }, ?_⟩)
      show scriptH K a vs ns a = _
      unfold scriptH
      rw [hk]
      exact if_pos rfl
  have heapOk : HOk P w H s.heap := by
    intro b o h
    obtain ⟨rfl, rfl⟩ := scriptH_is h
    exact ⟨at_a, by rw [List.length_map]; exact few, vs, _, rv, at_a⟩
  have shown : ∀ {b : Addr} {o : Obj}, s.heap.get? b = some o → H b = none → (hidT s.heap H).get? b = some o := hidT_get
  have dictFree : ∀ {b : Addr} {o : Obj} {es : Array DictEntry} {ep : Nat}, s.heap.get? b = some o → o.data = .dict es ep → H b = none := by
    intro b o es ep h d
    cases q : H b with
    | none => rfl
    | some u =>
      obtain ⟨rfl, -⟩ := scriptH_is q
      rw [at_a] at h
      cases h
      have d2 : Data.seq vs.toArray _ = Data.dict es ep := d
      cases d2
  have nsH : ∀ {b : Addr} {m : Str → Option Value}, s.heap.Ns b m → (hidT s.heap H).Ns b m := by
    rintro b m ⟨o, es, ep, h, d, r⟩
    exact ⟨o, es, ep, shown h (dictFree h d), d, r⟩
  have inH : K.In (hidT s.heap H) := by
    intro b o h
    refine shown (inK b o h) ?_
    cases q : H b with
    | none => rfl
    | some u =>
      obtain ⟨rfl, n⟩ := scriptH_at (K := K) (a := a) (vs := vs) (ns := ns) (b := b) (by show H b ≠ none; rw [q]; exact fun z => by cases z)
      rw [n] at h; cases h
  obtain ⟨mc, c1, c2⟩ := noLim
  have md : Mod K mg (hidT s.heap H) := ⟨inH, nsH gl, ⟨mb, nsH bu, bb⟩, ⟨mc, nsH c1, c2⟩⟩
  have start : Env0 P w K mg (hidT s.heap H) callerA [] s H :=
    { frames := rfl, mod := md, bs := fun _ _ h => of_hidT h, bsz := Nat.le_of_eq (hidT_size _ _), funs := trivial, frf := fun b hb => absurd (show b ∈ ([] : List Addr) from hb) List.not_mem_nil, hok := heapOk, bare := .of_eq gens }
  refine codeAny_mono (run _ inH (nsH gl) s H [.ref a] [.ref a] _ _ start (bind s (.ref a)) (.cons rfl .nil) (told H only list)) ?_
  intro r s' h
  match r, h with
  | .error e, h => exact h.elim
  | .ok .next, h => exact h.elim
  | .ok .brk, h => exact h.elim
  | .ok .cont, h => exact h.elim
  | .ok (.ret u), ⟨v, H', os, bare, un, ok', ru, q⟩ =>
    have q : v = .bl true := q
    subst q
    have ru : u = Value.bool true := ru
    subst ru
    refine ⟨rfl, ?_, os, bare⟩
    refine OldK.of_keep fun b o hbo => ?_
    cases z : H b with
    | none => exact un.keep b o hbo z (fun m => absurd (show b ∈ ([] : List Addr) from m) List.not_mem_nil) (by simp)
    | some u =>
      obtain ⟨rfl, rfl⟩ := scriptH_is z
      have z2 := un.frzs _ _ _ z
      have e2 := (ok' _ _ z2).1
      rw [at_a] at hbo
      cases hbo
      exact e2
end
/-- the row's end, from the law's own body -/
theorem law_walkG {l : PySem.W.OpenLaw} {q : Program} {loose : List Str} {XP : (Str → Option Value) → Heap → Prop} {YP : World → Heap → Prop} {d : DefRec} {K : Params → PySem.W.Frag} {x : Str} (most : l.most = some 63) (noDef : d.params.defaults = [])
    (hY : ∀ (w : World) (h : Heap), YP w h → (K w.params).In h)
    (F : ∀ (w : World) (mg : Str → Option Value) (fa : Addr) (h : Heap), (K w.params).In h → h.Ns mainGlobals mg → mg d.name = some (.ref fa) →
      ∃ fd : FuncData, (∀ (s : Shared) (u : Value), BindsTo s fd ⟨[u], []⟩ [(x, u)]) ∧ ∀ base : Heap, (K w.params).In base → base.Ns mainGlobals mg → LawRun l.prog w (K w.params) mg base fa fd x (spV (K w.params) rLaw)) :
    PySem.W.WalkO q loose XP YP l.row.toRowW d [] (fun f vs => PySem.call f vs) := by
  refine Att.attach_call most noDef ?_
  intro w s0 s1 mg mb fa o pm cd doc a vs ns G Y ho hd hcd hmg hobj hints hlen hg
  obtain ⟨fd, bind, run⟩ := F w mg fa _ (hY w _ Y) G.T.g hmg
  refine law_once (hY w _ Y) G.T.g G.T.b G.T.builtins G.T.nolimit hg hobj hints (Nat.le_trans hlen (by decide)) run bind ?_
  intro H only seq
  exact ⟨H, [.list (ns.map .int)], .bool true, Ex.rfl', .cons (.lst seq (dpa_ints ns)) .nil, ⟨ns, hlen, rfl, rfl⟩, fun v B2 H2 _ h => by cases h; rfl⟩
theorem room66 {k : Nat} {A : Around} (r : Room k A) : A.units + 66 < cLine := by have := r.un; omega
theorem law_ok {P : Program} {w : World} {K : PySem.W.Frag} {mg : Str → Option Value} {base : Heap} {x qual p : Str} {st : Stmt} {f : Addr} {fd : FuncData} {N : List Str} {k : Nat} {R : List PyData → PyData → Prop} (F : Fun K x qual st f fd) (S : FnScope N [p] (defScope st)) (room : Room (k + 1) callerA)
    (len : ∀ ds d, R ds d → ds.length = 1)
    (hb : ∀ (cdv : Value) (s : Shared) (H : Hp) (E : XK), Room k (callerA.deeper (envOfC qual (defScope st) s.heap.objs.size f cdv)) →
      ∃ t, PSs (cxOf CX0 P w K mg base N qual (defScope st) f cdv callerA [] s H E).nox (defBody st) t ∧ ∀ ds d, R ds d → WpD (.pure K) WNo t (entry N ds) { nx := fun _ => d = .none, rt := fun d' => d' = d }) : LawRun P w K mg base f fd p (spV K R) := by
  intro s H us vs Q E en bind rv told
  obtain ⟨B, ds, d, e, hd, hR, q⟩ := told
  refine run_at F S room en bind rv (by rw [dpa_len hd]; exact len ds d hR) fun cdv hr => ?_
  obtain ⟨t, ht, hw⟩ := hb cdv s H E hr
  refine ⟨t, ht.nox, hw ds d hR B H B H _ _ (entry_env e hd) ⟨fun Γ2 B2 H2 σ2 a b c => ?_, fun _ _ _ _ a => a.elim, fun _ _ _ _ a => a.elim, fun d' v B2 H2 a s2 _ d2 => ?_, fun _ _ _ _ _ a => a.elim⟩⟩
  · exact q .non B2 H2 c.stp (by rw [a]; exact .non)
  · exact q v B2 H2 s2 (by rw [← a]; exact d2)
theorem kc_repr {X : Cx} {K : PySem.W.Frag} (hK : X.K = K) (hg : X.A.guards = some []) (hu : X.A.units + 66 < cLine) : CallR X (.builtin "repr") (rReprD K) := hK ▸ call_reprD hg hu
theorem bb_repr : bootBuiltins "repr" = some (.builtin "repr") := by decide +kernel
theorem cq_repr {G : Gd} {d : PyData} (h1 : Side (PyData.showable d = true)) (h2 : Side (PyData.hasDict d = false)) (h3 : Side (PyData.depth d ≤ 64)) (h4 : Side ((PyData.shown d).length ≤ sizeLine)) : CaD G (rReprD G.K) [d] (.str (PyData.shown d)) := fun B H vs e dv Q k => by
  cases dv with
  | cons a b =>
    cases b
    exact ⟨_, d, rfl, e.dp a, h1.out, h2.out, h3.out, h4.out, k _ B H (Stp.refl e) (.str _)⟩
end Pd

namespace Pd
open PySem L2
/-! ### texts: split, join, parts -/
def rSplitG : V → List V → Hp → VK → Prop := fun x xs H Q => ∃ a b, x = .str a ∧ xs = [.str b] ∧ (b.length == 0) = false ∧ a.length + 2 ≤ sizeLine ∧ rNewStrs (Txt.split a b) H Q
def rJoinG (K : PySem.W.Frag) : V → List V → Hp → VK → Prop := fun x xs H Q => ∃ a p, ∃ ys : List Str, x = .str a ∧ xs = [.ref p] ∧ (SqL K H p (ys.map V.str) ∨ SqT K H p (ys.map V.str)) ∧
      (ys.map (·.length)).sum + ys.length * a.length ≤ 16777216 ∧ Q (.str (Txt.join a ys)) H
section
variable {X : Cx} {K : PySem.W.Frag} {o e : Expr} {to te : TE} {apos pos : Pos}
theorem kpe_split (ho : PE X o to) (he : PE X e te) (hs : starEach [e] X.env = [(false, eval e X.env)] := by rfl) (hbase : attributeBase o "split" X.env (eval o X.env) = eval o X.env := by rfl) (hline : (apos.endLine == pos.line) = true := by rfl) :
    PE X (.Call (.Attribute o "split" apos) [e] [] pos) (tM1 rSplitG to te) := pe_split ho he hs hbase hline
theorem kpe_join (hK : X.K = K) (ho : PE X o to) (he : PE X e te) (hs : starEach [e] X.env = [(false, eval e X.env)] := by rfl) (hbase : attributeBase o "join" X.env (eval o X.env) = eval o X.env := by rfl) (hline : (apos.endLine == pos.line) = true := by rfl) :
    PE X (.Call (.Attribute o "join" apos) [e] [] pos) (tM1 (rJoinG K) to te) := hK ▸ pe_join ho he hs hbase hline
end
section
variable {G : Gd} {Γ : List Ent} {to te : TE} {a b : Str} {ys : List Str}
theorem ef_split (ha : EvD G to Γ (.str a)) (hb : EvD G te Γ (.str b)) (h1 : Side ((b.length == 0) = false)) (h2 : Side (a.length ≤ 100000)) : EvF G (tM1 rSplitG to te) Γ ((Txt.split a b).map .str) := fun B0 H0 B H σ E Q k =>
  ha B0 H0 B H σ E _ fun v B1 H1 s1 d1 => by
    cases d1
    refine ⟨⟨a, rfl⟩, hb B0 H0 B1 H1 σ (E.step s1) _ fun w B2 H2 s2 d2 => ?_⟩
    cases d2
    exact ⟨a, b, rfl, rfl, h1.out, Nat.le_trans (Nat.add_le_add_right h2.out 2) (by decide), fun p hp => k p _ B2 H2 (s1.trans s2) hp (dpa_strs _)⟩
theorem ev_join (ha : EvD G to Γ (.str a)) (hb : EvD G te Γ (.list (ys.map .str))) (h : Side ((ys.map (·.length)).sum + ys.length * a.length ≤ 16777216)) : EvD G (tM1 (rJoinG G.K) to te) Γ (.str (Txt.join a ys)) := fun B0 H0 B H σ E Q k =>
  ha B0 H0 B H σ E _ fun v B1 H1 s1 d1 => by
    cases d1
    refine ⟨⟨a, rfl⟩, hb B0 H0 B1 H1 σ (E.step s1) _ fun w B2 H2 s2 d2 => ?_⟩
    cases d2 with
    | lst g1 a1 =>
      have e := dpa_strs_inv a1
      subst e
      exact ⟨a, _, ys, rfl, rfl, .inl (s2.bh.sl g1), h.out, k _ B2 H2 (s1.trans s2) (.str _)⟩
theorem w_sl_str {tl th : TO} {lo hi : Option Int} {ta : TE} (ha : EvD G ta Γ (.str a)) (h1 : EvO G tl Γ lo) (h2 : EvO G th Γ hi) (hl : Side (a.length ≤ 100000)) : EvD G (tSl (rSlA G.K) ta tl th) Γ (.str (cutS a lo hi)) := ev_sl_str ha h1 h2 hl.out
theorem cut_head (c : Nat) (r : List Nat) : cutS ⟨(c :: r).toArray⟩ none (some 1) = ⟨#[c]⟩ := by
  have e : HT.sIx (r.length + 1) (r.length + 1) (some 1) = 1 := by
    have := HT.sIx_nat (r.length + 1) (r.length + 1) 1
    rw [show ((1 : Nat) : Int) = 1 from rfl] at this
    rw [this]; omega
  simp [cutS, Str.length, HT.sIx_none, e]
theorem cut_tail (c : Nat) (r : List Nat) : cutS ⟨(c :: r).toArray⟩ (some 1) none = ⟨r.toArray⟩ := by
  have e : HT.sIx (r.length + 1) 0 (some 1) = 1 := by
    have := HT.sIx_nat (r.length + 1) 0 1
    rw [show ((1 : Nat) : Int) = 1 from rfl] at this
    rw [this]; omega
  simp [cutS, Str.length, HT.sIx_none, e]
theorem cut_nil (lo hi : Option Int) : cutS ⟨#[]⟩ lo hi = ⟨#[]⟩ := by simp [cutS]
theorem c_sl_head {ta : TE} {c : Nat} {r : List Nat} (ha : EvD G ta Γ (.str ⟨(c :: r).toArray⟩)) (hl : Side (r.length < 100000)) : EvD G (tSl (rSlA G.K) ta tNoPart (tPart (tC (.int 1)))) Γ (.str ⟨#[c]⟩) :=
  ev_to (ev_sl_str ha eo_none (eo_some ev_int) (by show (c :: r).toArray.size ≤ 100000; simp; have := hl.out; omega)) (by rw [cut_head])
theorem c_sl_tail {ta : TE} {c : Nat} {r : List Nat} (ha : EvD G ta Γ (.str ⟨(c :: r).toArray⟩)) (hl : Side (r.length < 100000)) : EvD G (tSl (rSlA G.K) ta (tPart (tC (.int 1))) tNoPart) Γ (.str ⟨r.toArray⟩) :=
  ev_to (ev_sl_str ha (eo_some ev_int) eo_none (by show (c :: r).toArray.size ≤ 100000; simp; have := hl.out; omega)) (by rw [cut_tail])
theorem c_sl_nil {tl th : TO} {lo hi : Option Int} {ta : TE} (ha : EvD G ta Γ (.str ⟨#[]⟩)) (h1 : EvO G tl Γ lo) (h2 : EvO G th Γ hi) : EvD G (tSl (rSlA G.K) ta tl th) Γ (.str ⟨#[]⟩) := ev_to (ev_sl_str ha h1 h2 (by decide)) (by rw [cut_nil])
theorem oq_ix_s0 {c : Nat} {r : List Nat} (hl : Side (r.length < 100000)) : OpD G (rIx G.K) (.str ⟨(c :: r).toArray⟩) (.int 0) (.str ⟨#[c]⟩) :=
  oq_ix_str ⟨by show (c :: r).toArray.size ≤ 100000; simp; have := hl.out; omega⟩ ⟨show atI (c :: r) ((0 : Nat) : Int) = some c from atI_nat rfl⟩
theorem sign_eq {c d : Nat} : ((⟨#[c]⟩ : Str) = ⟨#[d]⟩) ↔ c = d := ⟨fun h => by cases h; rfl, fun h => by rw [h]⟩
variable {x0 x1 : PyData} {ds : List PyData} {ta : TE}
theorem oq_ixl0 : OpD G (rIx G.K) (.list (x0 :: ds)) (.int 0) x0 := oq_ix_list0 (show atI _ ((0 : Nat) : Int) = _ from atI_nat rfl)
theorem oq_ixl1 : OpD G (rIx G.K) (.list (x0 :: x1 :: ds)) (.int 1) x1 := oq_ix_list0 (show atI _ ((1 : Nat) : Int) = _ from atI_nat rfl)
theorem cut_two : cutD (x0 :: x1 :: ds) (some 2) none = ds := by
  have e : HT.sIx (ds.length + 2) 0 (some 2) = 2 := by
    have := HT.sIx_nat (ds.length + 2) 0 2
    rw [show ((2 : Nat) : Int) = 2 from rfl] at this
    rw [this]; omega
  simp [cutD, HT.sIx_none, e]
theorem c_sl_two (ha : EvD G ta Γ (.list (x0 :: x1 :: ds))) : EvF G (tSl (rSlA G.K) ta (tPart (tC (.int 2))) tNoPart) Γ ds := by
  have := ef_sl_list ha (eo_some (G := G) (Γ := Γ) ev_int) eo_none (lo := some 2)
  rwa [cut_two] at this
/-- a part of a tuple that is not the whole -/
theorem ev_sl_tup {tl th : TO} {lo hi : Option Int} (ha : EvD G ta Γ (.tuple ds)) (h1 : EvO G tl Γ lo) (h2 : EvO G th Γ hi) (hn : ¬ (HT.sIx ds.length 0 lo = 0 ∧ HT.sIx ds.length ds.length hi = ds.length)) : EvD G (tSl (rSlA G.K) ta tl th) Γ (.tuple (cutD ds lo hi)) := fun B0 H0 B H σ E Q k =>
  ha B0 H0 B H σ E _ fun v B1 H1 s1 d1 => h1 B0 H0 B1 H1 σ (E.step s1) _ fun B2 H2 s2 => h2 B0 H0 B2 H2 σ (E.step (s1.trans s2)) _ fun B3 H3 s3 => by
    have d3 := (s2.trans s3).bb.dp d1
    cases d3 with
    | tup g1 a1 =>
      refine .inr (.inl ⟨_, _, rfl, s3.bh.st g1, ?_, fun p hp => ?_⟩)
      · rw [dpa_len a1]; exact hn
      · exact k (.ref p) _ _ (((s1.trans s2).trans s3).new hp) (.tup (SqT.of upd_same) ((Ex.new (s3.bh.back hp)).dpa (dpa_cut a1 lo hi)))
theorem cut_one : cutD (x0 :: ds) (some 1) none = ds := by
  have e : HT.sIx (ds.length + 1) 0 (some 1) = 1 := by
    have := HT.sIx_nat (ds.length + 1) 0 1
    rw [show ((1 : Nat) : Int) = 1 from rfl] at this
    rw [this]; omega
  simp [cutD, HT.sIx_none, e]
theorem c_sl_restT (ha : EvD G ta Γ (.tuple (x0 :: ds))) : EvD G (tSl (rSlA G.K) ta (tPart (tC (.int 1))) tNoPart) Γ (.tuple ds) :=
  ev_to (ev_sl_tup ha (eo_some ev_int) eo_none (by
    intro z
    have := HT.sIx_nat (x0 :: ds).length 0 1
    rw [show ((1 : Nat) : Int) = 1 from rfl, z.1] at this
    simp at this)) (by rw [cut_one])
end
end Pd

namespace Pd
open PySem L2
/-! ### str of a text, and of a number -/
def rStrS : List V → Hp → VK → Prop := fun xs H Q => ∃ a, xs = [.str a] ∧ Q (.str a) H
theorem call_strS {X : Cx} : CallR X (.type "str") rStrS := by
  intro pins s σ H xs us Q I r h
  obtain ⟨a, rfl, q⟩ := h
  obtain ⟨u, rfl, t, rfl⟩ := vals1 r
  exact PySem.P.str_of_str ⟨.str a, H, I, ⟨t, rfl⟩, q⟩
def rStrA : List V → Hp → VK → Prop := fun xs H Q => rStrI xs H Q ∨ rStrS xs H Q
theorem call_strA {X : Cx} : CallR X (.type "str") rStrA := CallR.or call_strI call_strS
section
variable {G : Gd} {i : Int} {p : Str}
theorem cq_strA_int (hl : Side (i.natAbs.log2 < 1920)) : CaD G rStrA [.int i] (.str (toString i)) := fun B H vs e dv Q k => .inl (ca_str_int hl.out B H vs e dv Q k)
theorem cq_strA_str : CaD G rStrA [.str p] (.str p) := fun B H vs e dv Q k => by
  cases dv with
  | cons h1 h2 => cases h2; cases h1; exact .inr ⟨p, rfl, k _ B H (Stp.refl e) (.str _)⟩
end
/-! ### how long a shown tuple is -/
theorem tup_len (ts : List Str) : (tupleText ts).length ≤ piled ts + 3 := by
  unfold tupleText
  rw [Str.length_append, Str.length_append]
  have e1 : ((("(" : String) : Str)).length = 1 := rfl
  have e3 : (((if ts.length == 1 then ",)" else ")" : String) : Str)).length ≤ 2 := by split <;> decide
  rw [e1]
  by_cases h : ts = []
  · subst h
    have : (Str.join ", " ([] : List Str)).length = 0 := rfl
    omega
  · have := join_length_add ts h
    omega
end Pd

namespace Pd
open PySem PySem.Spec PyProof.Rows L2
/-! ### an exception that leaves a list comprehension -/
section
variable {X : Cx} {σ : L2.St} {H : Hp}
/-- what a call in the element lets out -/
def XB (X : Cx) (E : XK) (e : Value) (s' : Shared) : Prop := ∃ pins σ H s, Inv X pins σ H s ∧ L2.CX X.prog X.w X.stack H s E e s'
theorem passB {E : XK} : Passes (L2.CX X.prog X.w) (X.wish (XB X E)) E := fun pins σ H s e s' I c => ⟨pins, σ, H, s, I.unwish, c⟩
theorem passBS {E : XK} (σ : L2.St) : PassesAt (L2.CX X.prog X.w) (X.wish (XB X E)) σ E := fun pins H s e s' I c => ⟨pins, σ, H, s, I.unwish, c⟩
theorem hok_hide {P : Program} {w : World} {H : Hp} {h : Heap} {C : Addr} (x : HOk P w H h) (n : H C = none) : HOk P w H (PySem.W.hideAll h [C]) := fun b o q =>
  (x b o q).stay (fun c u hc r => PySem.W.hideAll_get [C] r fun hm => by
    have e : c = C := by simpa using hm
    subst e
    rcases hc with hc | hc
    · rw [hc, q] at n; cases n
    · rw [hc] at n; cases n) (fun _ r => r) fun _ _ r => r
theorem hide_get {h : Heap} {C b : Addr} {o : Obj} (e : h.get? b = some o) (n : b ≠ C) : (PySem.W.hideAll h [C]).get? b = some o := PySem.W.hideAll_get [C] e (by simpa using n)
theorem of_hide {h : Heap} {C b : Addr} {o : Obj} (e : (PySem.W.hideAll h [C]).get? b = some o) : h.get? b = some o ∧ b ≠ C := ⟨PySem.W.of_hideAll _ e, fun z => by
  subst z
  rw [PySem.W.hideAll_none [b] (by simp)] at e; cases e⟩
theorem none_hide {h : Heap} {C b : Addr} (e : h.get? b = none) : (PySem.W.hideAll h [C]).get? b = none := by
  cases q : (PySem.W.hideAll h [C]).get? b with
  | none => rfl
  | some o => rw [(of_hide q).1] at e; cases e
theorem out_of_comp {W : WX} (tk : Takes X W) (hs : X.stack = X.env :: X.outer) (hf : X.env.frame = some X.env.locals) {pins : List (Addr × Obj)} {H3 H6 : Hp} {s3 s6 s7 : Shared} {fp : List Addr} {ce : Env} {e : Value}
    (I3 : Inv X pins σ H3 s3) (cL : ce.locals = s3.heap.objs.size) (cF : ce.frame = X.env.frame) (f3 : ∀ b ∈ fp, FpOk X pins H3 b)
    (os6 : s6.os = s3.os) (u6 : Un (frs X.stack) fp H3 H6 s3.heap s6.heap) (hok6 : HOk X.prog X.w H6 s6.heap) (g6 : AllBare s6.gens) (nC : H6 ce.locals = none) (nsC : ∃ m, s6.heap.Ns ce.locals m)
    (c : L2.CX X.prog X.w X.stack H6 s6 (fun cls d H' => W cls d σ H') e s7) :
    notedBy (model X.prog X.w) X.A ce (CompFails (model X.prog X.w) X.A X.xe ce) e s7 := by
  obtain ⟨a, B, H', cls, d, rfl, fl, hok, ub, na, os, ag, hE⟩ := c
  have hnb : ∀ b o, s3.heap.get? b = some o → b ≠ ce.locals := fun b o q z => by
    have := Heap.lt_size q
    rw [z, cL] at this
    exact absurd this (Nat.lt_irrefl _)
  have frC : ∀ b ∈ frs X.stack, b ≠ ce.locals := fun b hb => by
    obtain ⟨_, o, q, _⟩ := I3.stack.mem hb
    exact hnb b o q
  obtain ⟨m, hm⟩ := nsC
  have hm0 := hm
  obtain ⟨oC, esC, epC, hoC, hdC, _⟩ := hm0
  have nC' : H' ce.locals = none := ub.free _ _ hoC nC
  have BC : B.get? ce.locals = some oC := ub.keep _ _ hoC nC fun hb => frC _ hb rfl
  -- the state without the block of names
  have I6 : Inv X pins σ H6 { s6 with heap := PySem.W.hideAll s6.heap [ce.locals] } := I3.call' (ch := fp) os6
    ⟨fun b o q1 q2 q3 q4 => hide_get (u6.keep b o q1 q2 q3 q4) (hnb b o q1), fun b o q1 q2 q3 q4 => (u6.slot b o q1 q2 q3 q4).elim fun sl q => ⟨sl, hide_get q (hnb b o q1)⟩, u6.free, fun b o q1 q2 => (u6.there b o q1 q2).elim fun o' q => ⟨o', hide_get q (hnb b o q1)⟩, u6.tups, u6.frzs, u6.tbls⟩
    (hok_hide hok6 nC) g6 fun b hb => ⟨(f3 b hb).2.2.2.1, (f3 b hb).2.1, (f3 b hb).2.2.2.2.1, (f3 b hb).2.2.2.2.2⟩
  generalize hB : PySem.W.hideAll B [ce.locals] = B' at *
  have B0 : B'.get? ce.locals = none := by rw [← hB]; exact PySem.W.hideAll_none [ce.locals] (by simp)
  have ofB : ∀ b o, B'.get? b = some o → B.get? b = some o := fun b o q => by rw [← hB] at q; exact (of_hide q).1
  have toB : ∀ b o, B.get? b = some o → b ≠ ce.locals → B'.get? b = some o := fun b o q n => by rw [← hB]; exact hide_get q n
  have noB : ∀ b, B.get? b = none → B'.get? b = none := fun b q => by rw [← hB]; exact none_hide q
  have hokB : HOk X.prog X.w H' B' := by rw [← hB]; exact hok_hide hok nC'
  obtain ⟨st0, na0, ff0, tr0⟩ := fl
  have fl' : HandSPX.FlyingZ B' X.stack a (Zc cls d) s7.heap := by
    refine ⟨fun b o q => st0 b o (ofB b o q), noB _ na0, funFrames_none ff0 fun L hL => noB _ (ff0.mem hL).1, ?_⟩
    obtain ⟨oe, vs, T, oT, ts, h1, h2, h3, h4, h5, h6⟩ := tr0
    exact ⟨oe, vs, T, oT, ts, h1, h2, h3, h4, noB _ h5, h6⟩
  have hfr : X.A.frames = some (X.env :: X.outer) := by rw [I3.ok.frames, hs]
  rw [hs] at fl'
  show wpAny _ _ (noteFrame (.ref a) ce) _ _ _
  rw [noteFrame_env _ cF]
  refine HandSPX.looks_onZ Zc.steady hfr hf fl' fun h8 hh8 up8 => ?_
  have nsC8 : h8.Ns ce.locals m := (hm.at' fun o q => by
    rw [hoC] at q; cases q
    exact st0 _ _ BC).upToSlots up8
  refine ⟨m, nsC8, fun h9 m9 ns9 sb9 => ?_⟩
  obtain ⟨k1, k2, k3, oe, vs, T, oT, ts, t1, t2, t3, t4, t5, t6, t7, t8, t9⟩ := hh8
  obtain ⟨o8, es8, ep8, ho8, hd8, _⟩ := nsC8
  have neC : ∀ b o, h8.get? b = some o → (∃ vs, o.data = .fields vs) → b ≠ ce.locals := fun b o q ⟨vs, q2⟩ z => by
    subst z
    rw [ho8] at q; cases q
    rw [hd8] at q2; cases q2
  have hh9 : HandSPX.HeldZ B' (X.env :: X.outer) a (Zc cls d) X.env.locals h9 := by
    refine ⟨fun b o q => (sb9.2 b fun z => by rw [z, B0] at q; cases q).trans (k1 b o q), k2, Heap.FunFrames.sameBut sb9 ns9 k3, oe, vs, T, oT, ts, (sb9.2 a (neC _ _ t1 ⟨_, t3⟩)).trans t1, t2, t3, t4, t5, t6, (sb9.2 T (neC _ _ t7 ⟨_, t8⟩)).trans t7, t8, t9⟩
  unfold PySem.passOn
  refine wpAny_bind (wpAny_field ((sb9.2 a (neC _ _ t1 ⟨_, t3⟩)).trans t1) t3 t4 ?_)
  rw [if_neg (show ¬ ((Value.ref T == Value.none) = true) from by simp)]
  rw [cF, hf]
  refine wpAny_bind (HandSPX.setFlight_onZ hh9 fun h10 hh10 up10 => ?_)
  refine wpAny_throw ?_
  show X.xe _ _
  refine tk _ _ ?_
  -- the ground
  have stF : B'.StaysIn h10 := hh10.1
  obtain ⟨Gr, g1, g2⟩ := restrict s7.heap fun b => (B'.get? b).isSome || decide (b ∈ frs X.stack)
  have gB : ∀ b o, B'.get? b = some o → Gr.get? b = some o := fun b o q => by
    rw [g1 b (by simp [q])]
    exact st0 b o (ofB b o q)
  have gF : ∀ b, b ∈ frs X.stack → Gr.get? b = s7.heap.get? b := fun b hb => g1 b (by simp [hb])
  have og : ∀ b o, Gr.get? b = some o → s7.heap.get? b = some o ∧ ((B'.get? b).isSome = true ∨ b ∈ frs X.stack) := fun b o q => by
    cases z : ((B'.get? b).isSome || decide (b ∈ frs X.stack)) with
    | false => rw [g2 b z] at q; cases q
    | true =>
      rw [g1 b z] at q
      exact ⟨q, by simpa [Bool.or_eq_true] using z⟩
  refine ⟨a, B', { s6 with heap := Gr, gens := s7.gens, drawn := s7.drawn, toks := s7.toks }, pins, σ, H', cls, d, rfl, ?_, fun b o q hb => ?_, fun b o q hnf => ?_, .inr (.inr (by rw [hs]; exact hh10)), na, os, ag, hE⟩
  · generalize hSh : ({ s6 with heap := PySem.W.hideAll s6.heap [ce.locals] } : Shared) = sh at I6
    have hSo : sh.heap = PySem.W.hideAll s6.heap [ce.locals] := by rw [← hSh]
    have eS : ({ s6 with heap := Gr, gens := s7.gens, drawn := s7.drawn, toks := s7.toks } : Shared) = { sh with heap := Gr, gens := s7.gens, drawn := s7.drawn, toks := s7.toks } := by rw [← hSh]
    rw [eS]
    refine I6.call (ch := []) ⟨fun b o q n hb _ => ?_, fun b o q n hb _ => ?_, fun b o q n _ => ub.free b o (of_hide (hSo ▸ q)).1 n, fun b o q _ => ?_, ub.tups, ub.frzs, ub.tbls⟩ (hokB.kept gB) ag (fun _ z => nomatch z)
    · exact gB b o (toB b o (ub.keep b o (of_hide (hSo ▸ q)).1 n hb) (of_hide (hSo ▸ q)).2)
    · obtain ⟨sl, z⟩ := ub.slot b o (of_hide (hSo ▸ q)).1 hb
      exact ⟨sl, by rw [gF b hb]; exact z⟩
    · by_cases hb : b ∈ frs X.stack
      · obtain ⟨sl, z⟩ := ub.slot b o (of_hide (hSo ▸ q)).1 hb
        exact ⟨_, by rw [gF b hb]; exact z⟩
      · obtain ⟨o', z⟩ := ub.there b o (of_hide (hSo ▸ q)).1 hb
        exact ⟨o', gB b o' (toB b o' z (of_hide (hSo ▸ q)).2)⟩
  · obtain ⟨e', h⟩ := og b o q
    rcases h with h | h
    · obtain ⟨o', z⟩ := Option.isSome_iff_exists.mp h
      have z2 := st0 b o' (ofB b o' z)
      rw [e'] at z2; cases z2
      exact z
    · exact absurd h hb
  · obtain ⟨e', h⟩ := og b o q
    show ∃ sl, h10.get? b = _
    rcases h with h | h
    · obtain ⟨o', z⟩ := Option.isSome_iff_exists.mp h
      have z2 := st0 b o' (ofB b o' z)
      rw [e'] at z2; cases z2
      exact ⟨o.slots, stF b o z⟩
    · obtain ⟨sl, z1⟩ := up8 b o e' hnf
      obtain ⟨sl2, z2⟩ := up10 b _ ((sb9.2 b (frC b h)).trans z1) hnf
      exact ⟨sl2, z2⟩
end
end Pd

namespace Pd
open PySem PySem.Spec PyProof.Rows L2
section
variable {X : Cx}
/-- a list comprehension whose element may raise -/
def tLcS (W : WX) (wi : TI) (g : TG) (tt : TT) (te : XK → TE) (vs : List Nat) : TE := fun σ H Q => tLc wi g tt (te fun cls d H' => W cls d σ H') vs σ H Q
theorem pe_lcS {W : WX} {elt tg iter : Expr} {ifs : List Expr} {scope : Scope} {own : List (Str × Nat)} {pos : Pos} {wi : TI} {g : TG} {tt : TT} {te : XK → TE} (tk : Takes X W) (hst : X.stack = X.env :: X.outer) (hf : X.env.frame = some X.env.locals) (hc : X.calm = true) (hN : X.N.Nodup) (hi : PI X tg iter wi) (ok : BlkOk X.N X.env.scope scope own)
    (hg : ∀ (s : Shared) (H : Hp) (C : Addr) (cl : List (Str × Addr)) (fp : List Addr), PG (X.blk s H scope (compEnvC scope cl C X.env) fp) tg g) (ht : ∀ (s : Shared) (H : Hp) (C : Addr) (cl : List (Str × Addr)) (fp : List Addr), PTs (X.blk s H scope (compEnvC scope cl C X.env) fp) ifs tt)
    (he : ∀ (s : Shared) (H : Hp) (C : Addr) (cl : List (Str × Addr)) (fp : List Addr) (E : XK), PE ((X.blk s H scope (compEnvC scope cl C X.env) fp).wish (XB (X.blk s H scope (compEnvC scope cl C X.env) fp) E)) elt (te E)) (hs : ∀ x, foldedSetIterable iter X.env x = pure x := by intro _; rfl) :
    PE X (.ListComp elt [⟨tg, iter, ifs, 0⟩] scope pos) (tLcS W wi g tt te (own.map (·.2))) := by
  refine ⟨fun pins s σ H Q I h => ?_⟩
  rw [eval_ListComp]
  have hfree : ∀ y ∈ scope.names, y.2 = .free → ∃ c, X.env.cells.lookup y.1 = some c := fun y hy e => by
    rcases ok.free y hy e with k | k
    · exact I.ok.has _ (.inl k)
    · exact I.ok.has _ (.inr k)
  refine comprehension_at (use := none) rfl hs (closure_ok hfree) ok.kind (fun y hy e => by rw [ok.uniq y hy, e])
    (thn (hi.run pins s σ H _ I h) fun xv s1 hx => thn hx fun itv s2 h2 => ?_)
  obtain ⟨it, fp, tn, J, H2, e, I2, T, st2, f2, q⟩ := h2
  subst e
  refine wpAny_newObj_type (newEnv_comp ?_) (by show 0 ≤ sizeLine; decide)
  generalize hD : s2.heap.objs.size = D
  have hDn : H2 D = none := I2.hok.fresh (Nat.le_of_eq hD)
  obtain ⟨Wv, ⟨m0, w0⟩, turn⟩ := q D hDn
  generalize hs3 : ({ s2 with heap := s2.heap.push { cls := .type "list", data := .seq ([] : List Value).toArray } } : Shared) = s3
  have I3 : Inv X pins σ (upd H2 D (.lst [])) s3 := by
    rw [← hs3]
    refine I2.laid (t' := s2.toks) (fun b o e => Heap.get?_push_of_some _ e) (Nat.le_of_eq hD) ⟨Nat.zero_le _, [], 0, .nil, ?_⟩
    rw [← hD]
    exact Heap.get?_push_size _ rfl
  have h3 : s3.heap = s2.heap.push { cls := .type "list", data := .seq ([] : List Value).toArray } := by rw [← hs3]
  have sz : ∀ b ∈ fp, b < s2.heap.objs.size := fun b hb => by
    obtain ⟨o, e, _⟩ := T.obj _ _ st2 b hb
    exact Heap.lt_size e
  have f3 : ∀ b ∈ fp, FpOk X pins (upd H2 D (.lst [])) b ∧ b < s3.heap.objs.size := fun b hb => by
    have hlt := sz b hb
    refine ⟨⟨?_, (f2 b hb).2⟩, by rw [h3, Heap.size_push]; exact Nat.lt_succ_of_lt hlt⟩
    rw [upd_ne (by rw [← hD]; exact Nat.ne_of_lt hlt)]
    exact (f2 b hb).1
  have st3 : tn 0 s3.heap := T.keep _ _ _ st2 fun b _ o e => by rw [h3]; exact Heap.get?_push_of_some _ e
  have I4 := block_start I3 ok hN f3
  have pg := hg s3 (upd H2 D (.lst [])) s3.heap.objs.size (cellsFrom (s3.heap.objs.size + 1) scope.names (cloFrom X.env.cells scope.names [])) fp
  have pt := ht s3 (upd H2 D (.lst [])) s3.heap.objs.size (cellsFrom (s3.heap.objs.size + 1) scope.names (cloFrom X.env.cells scope.names [])) fp
  have pe := he s3 (upd H2 D (.lst [])) s3.heap.objs.size (cellsFrom (s3.heap.objs.size + 1) scope.names (cloFrom X.env.cells scope.names [])) fp (fun cls d H' => W cls d σ H')
  show codeAny _ _ (.compStart (.ListComp elt [⟨tg, iter, ifs, 0⟩] scope pos) 0 (.ref it) (.ref D) (compEnvC scope (cellsFrom (s3.heap.objs.size + 1) scope.names (cloFrom X.env.cells scope.names [])) s3.heap.objs.size X.env)) (compEnds (model X.prog X.w) X.A X.xe none (EP X pins σ Q) (.ref D) (compEnvC scope (cellsFrom (s3.heap.objs.size + 1) scope.names (cloFrom X.env.cells scope.names [])) s3.heap.objs.size X.env)) { s3 with heap := pushCells (s3.heap.push { cls := .type "dict", data := .dict #[] }) scope.names }
  have nfp : ∀ b ∈ fp, (upd H2 D (.lst [])) b = none := fun b hb => (f3 b hb).1.1
  generalize hce : compEnvC scope (cellsFrom (s3.heap.objs.size + 1) scope.names (cloFrom X.env.cells scope.names [])) s3.heap.objs.size X.env = ce at I4 pg pt pe ⊢
  have cL : ce.locals = s3.heap.objs.size := by subst hce; rfl
  have cF : ce.frame = X.env.frame := by subst hce; rfl
  generalize hH3 : upd H2 D (.lst []) = H3 at I3 I4 pg pt pe w0 nfp f3
  generalize hs4 : ({ s3 with heap := pushCells (s3.heap.push { cls := .type "dict", data := .dict #[] }) scope.names } : Shared) = s4 at I4 ⊢
  have st4 : tn 0 s4.heap := T.keep _ _ _ st3 fun b _ o e => by rw [← hs4]; exact pushCells_keeps _ _ _ _ (Heap.get?_push_of_some _ e)
  have stat : ∀ {σ' : L2.St} {H' : Hp} {s' : Shared}, Inv (X.blk s3 H3 scope ce fp) [] σ' H' s' → (∀ b ∈ fp, H' b = none) → ∀ b ∈ fp, FpOk (X.blk s3 H3 scope ce fp) [] H' b := fun {σ' H' s'} I' hn b hb =>
    ⟨hn b hb, (I'.ok.exf b hb).1, I'.ok.exfs b hb, .inl hb, fun x c e => (I'.ok.exf b hb).2 x c e, fun p hp => absurd (show p ∈ ([] : List (Addr × Obj)) ++ [] from hp) (by simp)⟩
  have loop : codeAny (model X.prog X.w) X.A (.compLoop (.ListComp elt [⟨tg, iter, ifs, 0⟩] scope pos) 0 (.ref it) (.ref D) ce) (compEnds (model X.prog X.w) X.A X.xe none (EP X pins σ Q) (.ref D) ce) s4 := by
    refine compLoop_any (fun n s' => ∃ i H', Inv (X.blk s3 H3 scope ce fp) [] (wipe σ (own.map (·.2))) H' s' ∧ tn i s'.heap ∧ (∀ b ∈ fp, H' b = none) ∧ Wv i n H') ?_ m0 ⟨0, H3, I4, st4, nfp, w0⟩
    rintro n s5 ⟨i, H5, I5, st5, n5, w5⟩
    rcases turn i n H5 w5 with ⟨stop, qq⟩ | ⟨go, Nx, hNx, step⟩
    · have td := T.done (X.blk s3 H3 scope ce fp) rfl rfl rfl hc i [] s5 _ H5 (fun _ _ => False) I5 (stat I5 n5) st5 stop
      refine thnF td fun r s6 ⟨hr, I6⟩ => ?_
      subst hr
      have I7 : Inv X pins σ H5 s6 := I3.call' (ch := fp) I6.os I6.base I6.hok I6.bare fun b hb => ⟨(f3 b hb).1.2.2.2.1, (f3 b hb).1.2.1, (f3 b hb).1.2.2.2.2.1, (f3 b hb).1.2.2.2.2.2⟩
      have nC : H5 s3.heap.objs.size = none := by
        have z : H5 ce.locals = none := I6.free
        rw [cL] at z
        exact z
      obtain ⟨m, hn, _⟩ := I6.loc
      have hn : s6.heap.Ns ce.locals m := hn
      refine ⟨m, hn, fun h'' sb => ?_⟩
      obtain ⟨f0, f1, f2, f3, f4, f5⟩ := I3.fpOk (Nat.le_refl _) nC
      rw [cL] at sb
      exact ⟨.ref D, H5, I7.turned (t' := s6.toks) (fun b o hb e => (sb.2 b hb).trans e) f0 f1 f3 f4 f5, rfl, qq⟩
    · have ti := T.item (X.blk s3 H3 scope ce fp) rfl rfl rfl hc i [] s5 _ H5 (fun _ _ => False) I5 (stat I5 n5) st5 go
      refine thnF ti fun r s6 ⟨u, hr, h6⟩ => ?_
      subst hr
      refine thnF h6 fun _ s7 ⟨x, H7, I7, r7, y7, st7, n7⟩ => ?_
      have I7' := I7.pinned (stat I7 n7) (T.obj _ _ st7)
      refine thnF (pg.run _ s7 _ H7 x u _ I7' r7 (step x H7 y7)) fun _ s8 ⟨σ8, H8, I8, hw8, q8⟩ => ?_
      refine thnF (pt.run _ s8 σ8 H8 _ I8 q8) fun b s9 ⟨H9, I9, q9⟩ => ?_
      have fin : ∀ {s' : Shared} {H' : Hp}, Inv (X.blk s3 H3 scope ce fp) ([] ++ pinsAt fp s7.heap) σ8 H' s' → Nx H' → ∃ m, m < n ∧ ∃ i H', Inv (X.blk s3 H3 scope ce fp) [] (wipe σ (own.map (·.2))) H' s' ∧ tn i s'.heap ∧ (∀ b ∈ fp, H' b = none) ∧ Wv i m H' := fun {s' H'} I' nx => by
        obtain ⟨m', hm, w'⟩ := hNx H' nx
        have pin' : ∀ b ∈ fp, ∀ o, s7.heap.get? b = some o → s'.heap.get? b = some o ∧ H' b = none := fun b hb o e =>
          let z := I'.pin (b, o) (List.mem_append_right _ (List.mem_append_right _ (mem_pinsAt hb e)))
          ⟨z.1, z.2.1⟩
        have hl : (wipe σ (own.map (·.2))).length = σ8.length := by rw [← hw8, wipe_length]
        refine ⟨m', hm, i + 1, H', (I'.unpinned (pins := [])).weak hl (fun j v e => ?_), T.keep _ _ _ st7 fun b hb o e => (pin' b hb o e).1, fun b hb => ?_, w'⟩
        · rw [← hw8] at e
          exact (wipe_some e).1
        · obtain ⟨o, e, _⟩ := T.obj _ _ st7 b hb
          exact (pin' b hb o e).2
      cases b with
      | false =>
        simp only [Bool.false_eq_true, if_false] at q9 ⊢
        exact fin I9 q9
      | true =>
        simp only [if_true] at q9 ⊢
        refine wpAny_mono (pe.run _ s9 σ8 H9 _ (I9.wish _) q9) (fun z s10 ⟨yv, H10, I10, r10, acc, hD10, hz10, nx⟩ => ?_) fun e s10 hx => ?_
        · exact app_ok (X := X.blk s3 H3 scope ce fp) I10.unwish hD10 hz10 r10 fun s11 I11 => fin I11 nx
        · obtain ⟨pins', σ', H', s', I', c⟩ := hx
          exact out_of_comp tk hst hf (fp := fp) I3 cL cF (fun b hb => (f3 b hb).1) I'.os I'.base I'.hok I'.bare I'.free (I'.loc.elim fun m z => ⟨m, z.1⟩) c
  exact codeAny_compStart_list loop (T.self X.A 0 _ _ _ st4 loop)
end

/-! ### what raises -/
def ErD (G : Gd) (W : WX) (te : TE) (Γ : List Ent) (c : Addr) : Prop :=
  ∀ (B0 H0 B H : Hp) (σ : L2.St), EnvB G B0 H0 B H σ Γ → ∀ Q : VK, (∀ B2 H2, Stp B H B2 H2 → W (.ref c) none σ H2) → te σ H Q
def ErA (G : Gd) (W : WX) (ta : TA) (Γ : List Ent) (c : Addr) : Prop :=
  ∀ (B0 H0 B H : Hp) (σ : L2.St), EnvB G B0 H0 B H σ Γ → ∀ Q : List V → Hp → Prop, (∀ B2 H2, Stp B H B2 H2 → W (.ref c) none σ H2) → ta σ H Q
/-- in a comprehension's element -/
def ErK (G : Gd) (te : XK → TE) (Γ : List Ent) (c : Addr) : Prop :=
  ∀ (E : XK) (B0 H0 B H : Hp) (σ : L2.St), EnvB G B0 H0 B H σ Γ → ∀ Q : VK, (∀ B2 H2, Stp B H B2 H2 → E (.ref c) none H2) → te E σ H Q
section
variable {G : Gd} {W : WX} {Γ : List Ent} {te : TE} {ta : TA} {d : PyData} {ds : List PyData} {P : Post} {E : XK} {c : Addr}
theorem ev_callS {R : List PyData → Res → Prop} (h : EvA G ta Γ ds) (hR : R ds (.ok d)) : EvD G (tCallS (spR G.K R) (WE W) ta) Γ d := fun B0 H0 B H σ En Q k =>
  h B0 H0 B H σ En _ fun vs B1 H1 s1 d1 => ⟨B1, ds, _, s1.bh, d1, hR, fun d' v B2 H2 e s2 d2 => by cases e; exact k v B2 H2 (s1.trans s2) d2, fun c B2 H2 e => by cases e⟩
theorem er_callS {R : List PyData → Res → Prop} (h : EvA G ta Γ ds) (hR : R ds (.err c)) : ErD G W (tCallS (spR G.K R) (WE W) ta) Γ c := fun B0 H0 B H σ En Q k =>
  h B0 H0 B H σ En _ fun vs B1 H1 s1 d1 => ⟨B1, ds, _, s1.bh, d1, hR, fun d' v B2 H2 e => (by cases e), fun c B2 H2 e s2 => by cases e; exact k B2 H2 (s1.trans s2)⟩
theorem ek_call {R : List PyData → Res → Prop} (h : EvA G ta Γ ds) (hR : R ds (.err c)) : ErK G (fun E => tCall (spR G.K R) [] E ta) Γ c := fun E B0 H0 B H σ En Q k =>
  h B0 H0 B H σ En _ fun vs B1 H1 s1 d1 => ⟨B1, ds, _, s1.bh, by rw [List.append_nil]; exact d1, hR, fun d' v B2 H2 e => (by cases e), fun c B2 H2 e s2 => by cases e; exact k B2 H2 (s1.trans s2)⟩
theorem er_tup (h : ErA G W ta Γ c) : ErD G W (tTup ta) Γ c := fun B0 H0 B H σ En Q k => h B0 H0 B H σ En _ k
theorem er_cb {r : List V → Hp → VK → Prop} (h : ErA G W ta Γ c) : ErD G W (tCB r ta) Γ c := fun B0 H0 B H σ En Q k => h B0 H0 B H σ En _ k
theorem era_head (h : ErD G W te Γ c) : ErA G W (tCons te ta) Γ c := fun B0 H0 B H σ En Q k => h B0 H0 B H σ En _ k
theorem era_tail (h1 : EvD G te Γ d) (h : ErA G W ta Γ c) : ErA G W (tCons te ta) Γ c := fun B0 H0 B H σ En Q k =>
  h1 B0 H0 B H σ En _ fun v B1 H1 s1 d1 => h B0 H0 B1 H1 σ (En.step s1) _ fun B2 H2 s2 => k B2 H2 (s1.trans s2)
theorem wp_retEr (h : ErD G W te Γ c) (k : P.er c Γ) : WpD G W (tRet te) Γ P := fun B0 H0 B H σ D En M => h B0 H0 B H σ En _ fun B2 H2 s => M.er _ _ _ _ _ k s.bb (En.step s)
theorem wp_asgEr {g : TG} (h : ErD G W te Γ c) (k : P.er c Γ) : WpD G W (tAsg te g) Γ P := fun B0 H0 B H σ D En M => h B0 H0 B H σ En _ fun B2 H2 s => M.er _ _ _ _ _ k s.bb (En.step s)
theorem wp_dropEr (h : ErD G W te Γ c) (k : P.er c Γ) : WpD G W (tDrop te) Γ P := fun B0 H0 B H σ D En M => h B0 H0 B H σ En _ fun B2 H2 s => M.er _ _ _ _ _ k s.bb (En.step s)
theorem wp_appEr {i : Nat} (hi : Γ[i]? = some (.own ds)) (h : ErD G W te Γ c) (k : P.er c Γ) : WpD G W (tDrop (tBM G.K "list" rAppend (tVar i) (tCons te tNil))) Γ P := fun B0 H0 B H σ D En M => by
  obtain ⟨p, vs, e1, e2, e3, e4, e5⟩ := En.own hi
  exact ⟨.ref p, e1, .inl ⟨rfl, vs, SqL.of e4⟩, h B0 H0 B H σ En _ fun B2 H2 s => M.er _ _ _ _ _ k s.bb (En.step s)⟩
/-- a list comprehension, all its elements come out -/
theorem ef_lcS {α : Type} {wi : TI} {vs : List Nat} {j : Nat} {f : α → PyData} {zs : List α} {tk : XK → TE} {h : α → PyData} (hi : ItD G wi Γ (zs.map f)) (hz : zs.length ≤ 50000) (hv : j ∈ vs)
    (he : ∀ y ∈ zs, ∀ E, EvD G (tk E) ((wipeE Γ vs).set j (.dat (f y))) (h y)) : EvF G (tLcS W wi (gName j) tYes tk vs) Γ (zs.map h) := fun B0 H0 B H σ En Q k =>
  ef_lcm hi hz hv (fun y hy => he y hy _) B0 H0 B H σ En Q k
/-- one of its elements raises -/
theorem er_lcS {α : Type} {wi : TI} {vs : List Nat} {j : Nat} {f : α → PyData} {ys : List α} {tk : XK → TE} {h : α → PyData} (n : Nat) (y0 : α) (hi : ItD G wi Γ (ys.map f)) (hz : ys.length ≤ 50000) (hv : j ∈ vs) (hn : ys[n]? = some y0)
    (he : ∀ y ∈ ys.take n, ∀ E, EvD G (tk E) ((wipeE Γ vs).set j (.dat (f y))) (h y)) (hx : ErK G tk ((wipeE Γ vs).set j (.dat (f y0))) c) : ErD G W (tLcS W wi (gName j) tYes tk vs) Γ c := fun B0 H0 B H σ E Q k =>
  hi B0 H0 B H σ E _ fun J B1 H1 s1 w => fun Dl hD => by
    have E1 := E.step s1
    have hnl : n < ys.length := (List.getElem?_eq_some_iff.mp hn).1
    unfold WalksD at w
    rw [List.length_map] at w
    refine ⟨fun i m H' => m = n - i ∧ i ≤ n ∧ ∃ B' ws, Stp B1 H1 B' H' ∧ B' Dl = none ∧ H' Dl = some (.lst ws) ∧ DpAll G.K B' ws ((ys.take i).map h),
      ⟨n, by simp, Nat.zero_le _, B1, [], (Stp.refl s1.bh).own hD, s1.bh.back hD, upd_same, by simp; exact .nil⟩, ?_⟩
    rintro i m H' ⟨rfl, hle, B', ws, s2, nB, hH, hd⟩
    obtain ⟨w1, w2⟩ := w i B' H' s2.bb s2.bh
    have hlt : i < ys.length := by omega
    obtain ⟨go, yl⟩ := w1 hlt
    refine .inr ⟨go, fun H3 => i < n ∧ ∃ B3 ws3, Stp B1 H1 B3 H3 ∧ B3 Dl = none ∧ H3 Dl = some (.lst ws3) ∧ DpAll G.K B3 ws3 ((ys.take (i + 1)).map h), fun H3 ⟨a0, B3, ws3, a1, a2, a3, a4⟩ => ⟨n - (i + 1), by omega, rfl, a0, B3, ws3, a1, a2, a3, a4⟩, fun x H'' hy => ?_⟩
    obtain ⟨B'', d, s3, hx2, hdx⟩ := yl x H'' hy
    have hy' : ys[i]? = some ys[i] := List.getElem?_eq_getElem hlt
    have hmt : i < n → ys[i] ∈ ys.take n := fun z => List.mem_of_getElem? (i := i) (by rw [List.getElem?_take, if_pos z]; exact hy')
    generalize ys[i] = y at hy' hmt
    have hdy : d = f y := by rw [List.getElem?_map, hy'] at hx2; exact (Option.some.inj hx2).symm
    subst hdy
    have hD'' : H'' Dl = some (.lst ws) := s3.hh Dl _ hH
    have nB'' : B'' Dl = none := s3.hid Dl _ hH nB
    have s23 := s2.trans s3
    have E3 := (E1.step s23).wipe vs
    refine tg_name B0 H0 B'' H'' _ E3 x hdx _ fun σ2 E4 hw => ⟨by rw [hw vs (by simpa using hv), wipe_wipe], ?_⟩
    show tk _ σ2 H'' _
    by_cases hin : i < n
    · refine he y (hmt hin) _ B0 H0 B'' H'' σ2 E4 _ fun z B5 H5 s5 d5 => ?_
      have hD5 : H5 Dl = some (.lst ws) := s5.hh Dl _ hD''
      have nB5 : B5 Dl = none := s5.hid Dl _ hD'' nB''
      have hl : ws.length ≤ i := by
        rw [dpa_len hd, List.length_map, List.length_take]; omega
      refine ⟨ws, hD5, Evl.sz_lt (by omega), hin, B5, ws ++ [z], ?_, nB5, upd_same, ?_⟩
      · have st := s23.trans s5
        refine ⟨st.bb, st.bh.mut nB5, fun a o ha => ?_, st.hid⟩
        rw [upd_ne (ne_of_none ha hD)]; exact st.hh a o ha
      · have htake : (ys.take (i + 1)) = ys.take i ++ [y] := by rw [List.take_add_one, hy']; rfl
        rw [htake, List.map_append]
        exact dpa_app ((s3.trans s5).bb.dpa hd) (.cons d5 .nil)
    · have : i = n := by omega
      subst this
      rw [hn] at hy'; cases hy'
      exact hx _ B0 H0 B'' H'' σ2 E4 _ fun B5 H5 s5 => k B5 H5 (s1.trans (s23.trans s5))
end
end Pd

namespace Pd
open PySem L2
/-! ### zip of two tuples, targets of two names, and small things -/
theorem ki_zip {X : Cx} {K : PySem.W.Frag} {e e2 : Expr} {ta : TA} {p pos tpos : Pos} {elts : List Expr} {kk : Nat} (hK : X.K = K) (hg : Gl X "zip") (hm : X.mg "zip" = none) (ha : PA X [e, e2] ta)
    (hs : starEach [e, e2] X.env = (false, eval e X.env) :: starEach [e2] X.env := by rfl) (hpl : (backTo pos (starEach [e2] X.env)).any (·.1) = false := by rfl) :
    PI X (.Tuple elts kk tpos) (.Call (.Name "zip" p) [e, e2] [] pos) (RZ.iZipA K ta) := hK ▸ RZ.pi_zipA hg hm ha hs hpl
section
variable {G : Gd} {W : WX} {Γ : List Ent} {te : TE} {ta tb : TE} {tA : TA} {tt : TT} {d x y : PyData} {ds xs ys : List PyData} {P : Post} {i : Int}
theorem zip_get {α β γ : Type} {f : α → β → γ} {xs : List α} {ys : List β} {k : Nat} (h : k < (List.zipWith f xs ys).length) : ∃ a b, xs[k]? = some a ∧ ys[k]? = some b ∧ (List.zipWith f xs ys)[k]? = some (f a b) := by
  rw [List.length_zipWith] at h
  have h1 : k < xs.length := by omega
  have h2 : k < ys.length := by omega
  refine ⟨_, _, List.getElem?_eq_getElem h1, List.getElem?_eq_getElem h2, ?_⟩
  rw [List.getElem?_zipWith, List.getElem?_eq_getElem h1, List.getElem?_eq_getElem h2]
theorem it_zip_tup (h : EvA G tA Γ [.tuple xs, .tuple ys]) : ItD G (RZ.iZipA G.K tA) Γ (List.zipWith (fun a b => .tuple [a, b]) xs ys) := fun B0 H0 B H σ E R k =>
  h B0 H0 B H σ E _ fun vs B1 H1 s1 d1 => by
    cases d1 with
    | cons a1 a2 =>
      cases a2 with
      | cons a2 a3 =>
        cases a3
        cases a1 with
        | @tup a ws _ g1 v1 =>
          cases a2 with
          | @tup b us _ g2 v2 =>
            refine ⟨a, b, ws, us, rfl, .inr ⟨s1.bh.st g1, s1.bh.st g2, k _ B1 H1 s1 fun i B' H' e1 e2 => ⟨fun hi => ?_, fun hi => ?_⟩⟩⟩
            · obtain ⟨p, q, hp, hq, hz⟩ := zip_get hi
              obtain ⟨u, f1, f2⟩ := dpa_get v1 hp
              obtain ⟨u', f3, f4⟩ := dpa_get v2 hq
              refine ⟨⟨ws, us, u, u', e2.st (e1.st g1), e2.st (e1.st g2), f1, f3⟩, fun x H'' hy => ?_⟩
              obtain ⟨T, x', y', rfl, hT, rfl, k1, k2⟩ := hy
              have := k1 ws (e2.st (e1.st g1))
              rw [f1] at this; cases this
              have := k2 us (e2.st (e1.st g2))
              rw [f3] at this; cases this
              refine ⟨upd B' T (.tup [u, u']), _, (Stp.refl e2).new hT, hz, .tup (SqT.of upd_same) ?_⟩
              exact (Ex.new (e2.back hT)).dpa (.cons (e1.dp f2) (.cons (e1.dp f4) .nil))
            · rw [List.length_zipWith] at hi
              exact ⟨ws, us, e2.st (e1.st g1), e2.st (e1.st g2), by rw [dpa_len v1, dpa_len v2]; omega⟩
/-- [e for a, b in ..] -/
theorem w_lc2 {α : Type} {wi : TI} {vs : List Nat} {j k : Nat} {c1 c2 : α → PyData} {zs : List α} {h : α → PyData} (hi : ItD G wi Γ (zs.map fun z => .tuple [c1 z, c2 z])) (hz : Side (zs.length ≤ 50000)) (hv : Side (j ∈ vs)) (hw : Side (k ∈ vs))
    (he : ∀ y ∈ zs, EvD G te (((wipeE Γ vs).set j (.dat (c1 y))).set k (.dat (c2 y))) (h y)) : EvF G (tLc wi (gTup G.K 2 (gCons (gName j) (gCons (gName k) gNil))) tYes te vs) Γ (zs.map h) := by
  have := ef_lc (G := G) (tt := tYes) (te := te) [j, k] (fun y => ((wipeE Γ vs).set j (.dat (c1 y))).set k (.dat (c2 y))) (fun _ => true) h hi hz.out (by simp; exact ⟨hv.out, hw.out⟩) (fun y _ => tg_tup2) (fun y hy => et_yes) (fun y hy _ => he y hy)
  rw [List.filter_eq_self.mpr (fun _ _ => rfl)] at this
  exact this
theorem ev_ifT (h : EvT G tt Γ true) (h1 : EvD G ta Γ d) : EvD G (tIf tt ta tb) Γ d := ev_if h (fun _ => h1) (fun z => by cases z)
theorem ev_ifF (h : EvT G tt Γ false) (h1 : EvD G tb Γ d) : EvD G (tIf tt ta tb) Γ d := ev_if h (fun z => by cases z) (fun _ => h1)
theorem w_ifxT {b : Bool} (h : EvT G tt Γ b) (e : SideR (b = true)) (h1 : EvD G ta Γ d) : EvD G (tIf tt ta tb) Γ d := ev_if h (fun _ => h1) (fun z => by rw [e.out] at z; cases z)
theorem w_ifxF {b : Bool} (h : EvT G tt Γ b) (e : SideR (b = false)) (h1 : EvD G tb Γ d) : EvD G (tIf tt ta tb) Γ d := ev_if h (fun z => by rw [e.out] at z; cases z) (fun _ => h1)
theorem id_callS {sp : Sp} {ES : L2.St → XK} (h : EvD G (tCallS sp ES tA) Γ d) : EvD G (tCallS sp ES tA) Γ d := h
theorem atI_map {α : Type} {f : α → PyData} {xs : List α} (z : α) (h0 : 0 ≤ i) (h1 : i < xs.length) : atI (xs.map f) i = some (f (xs.getD i.toNat z)) := by
  have e : i = ((i.toNat : Nat) : Int) := by omega
  have hl : i.toNat < xs.length := by omega
  rw [e]
  refine atI_nat ?_
  rw [List.getElem?_map, List.getElem?_eq_getElem hl, Int.toNat_natCast, List.getD_eq_getElem?_getD, List.getElem?_eq_getElem hl]; rfl
theorem atI_getD {α : Type} {xs : List α} (z : α) (h0 : 0 ≤ i) (h1 : i < xs.length) : atI xs i = some (xs.getD i.toNat z) := by
  have e : i = ((i.toNat : Nat) : Int) := by omega
  have hl : i.toNat < xs.length := by omega
  rw [e]
  refine atI_nat ?_
  rw [List.getElem?_eq_getElem hl, Int.toNat_natCast, List.getD_eq_getElem?_getD, List.getElem?_eq_getElem hl]; rfl
theorem getD_mem {α : Type} {xs : List α} {z : α} (h0 : 0 ≤ i) (h1 : i < xs.length) : xs.getD i.toNat z ∈ xs := by
  have hl : i.toNat < xs.length := by omega
  rw [List.getD_eq_getElem?_getD, List.getElem?_eq_getElem hl]
  exact List.getElem_mem hl
theorem c_sl_restL {x0 : PyData} (ha : EvD G ta Γ (.list (x0 :: ds))) : EvF G (tSl (rSlA G.K) ta (tPart (tC (.int 1))) tNoPart) Γ ds := by
  have := ef_sl_list ha (eo_some (G := G) (Γ := Γ) ev_int) eo_none (lo := some 1)
  rwa [cut_one] at this
theorem cutS_len (p : Str) (lo hi : Option Int) : (cutS p lo hi).length ≤ p.length := by
  unfold cutS Str.length
  simp
  omega
end
end Pd

namespace Pd
open PySem L2
/-! ### surroundings that change: S their states -/
structure Wl (K : PySem.W.Frag) (S : Type) where
  cells : S → List (Addr × HO)
  rel : S → Hp → Prop
  rup : ∀ s B B', Ex B B' → rel s B → rel s B'
abbrev Wl.g {K : PySem.W.Frag} {S : Type} (w : Wl K S) (s : S) : Gd := ⟨K, w.cells s, w.rel s, w.rup s⟩
theorem EnvB.less {G : Gd} {B0 H0 H0' B H : Hp} {σ : L2.St} {Γ : List Ent} (E : EnvB G B0 H0' B H σ Γ) (x : Ex H0 H0') : EnvB G B0 H0 B H σ Γ :=
  ⟨⟨E.stp.bb, E.stp.bh, x.trans E.stp.hh, fun a o h z => E.stp.hid a o (x a o h) z⟩, E.wd, E.len, fun i y e h1 h2 => by
    have z := E.get i y e h1 h2
    cases e with
    | own ds =>
      obtain ⟨p, vs, e1, e2, e3, e4, e5⟩ := z
      exact ⟨p, vs, e1, e2, x.back e3, e4, e5⟩
    | _ => exact z, E.dis, E.off⟩
/-- the cells counted to what stood at the entry -/
def withC (G : Gd) (H H0 : Hp) : Hp := fun a => if a ∈ G.foot then H a else H0 a
theorem EnvB.more {G : Gd} {B0 H0 B H : Hp} {σ : L2.St} {Γ : List Ent} (E : EnvB G B0 H0 B H σ Γ) : EnvB G B0 (withC G H H0) B H σ Γ := by
  refine ⟨⟨E.stp.bb, E.stp.bh, fun a o h => ?_, fun a o h z => ?_⟩, E.wd, E.len, fun i y e h1 h2 => ?_, E.dis, E.off⟩
  · unfold withC at h
    split at h
    · exact h
    · exact E.stp.hh a o h
  · unfold withC at h
    split at h
    · rename_i hm; exact (E.wd.there hm).2
    · exact E.stp.hid a o h z
  · have z := E.get i y e h1 h2
    cases e with
    | own ds =>
      obtain ⟨p, vs, e1, e2, e3, e4, e5⟩ := z
      subst e1
      refine ⟨p, vs, rfl, e2, ?_, e4, e5⟩
      unfold withC
      rw [if_neg (E.off i p ds h2 h1)]; exact e3
    | _ => exact z
theorem withC_ex {G : Gd} {H H0 : Hp} (hf : ∀ a ∈ G.foot, H0 a = none) : Ex H0 (withC G H H0) := fun a o h => by
  unfold withC
  rw [if_neg (fun m => by rw [hf a m] at h; cases h)]; exact h
def EnvW (G : Gd) (B0 H0 B H : Hp) (σ : L2.St) (Γ : List Ent) : Prop := EnvB G B0 H0 B H σ Γ ∧ ∀ a ∈ G.foot, H0 a = none
/-- a value as an entry tells it: data, or the value itself -/
def EntV (K : PySem.W.Frag) (B : Hp) (v : V) : Ent → Prop
  | .dat d => Dp K B v d
  | .val u => v = u
  | _ => False
inductive EntVs (K : PySem.W.Frag) (B : Hp) : List V → List Ent → Prop
  | nil : EntVs K B [] []
  | cons {v : V} {e : Ent} {vs : List V} {es : List Ent} : EntV K B v e → EntVs K B vs es → EntVs K B (v :: vs) (e :: es)
theorem EntV.up {K : PySem.W.Frag} {B B2 : Hp} (x : Ex B B2) {v : V} : ∀ {e : Ent}, EntV K B v e → EntV K B2 v e
  | .dat _, h => x.dp h
  | .val _, h => h
  | .no, h => h.elim
  | .own _, h => h.elim
theorem EntVs.up {K : PySem.W.Frag} {B B2 : Hp} (x : Ex B B2) {vs : List V} {es : List Ent} (h : EntVs K B vs es) : EntVs K B2 vs es := by
  induction h with
  | nil => exact .nil
  | cons h1 _ ih => exact .cons (h1.up x) ih
theorem EntVs.len {K : PySem.W.Frag} {B : Hp} {vs : List V} {es : List Ent} (h : EntVs K B vs es) : vs.length = es.length := by
  induction h with
  | nil => rfl
  | cons _ _ ih => simp [ih]
structure PostW (S : Type) where
  nx : List Ent → S → Prop
  bk : List Ent → S → Prop := fun _ _ => False
  ct : List Ent → S → Prop := fun _ _ => False
  rt : Ent → S → Prop
  er : Addr → List Ent → S → Prop := fun _ _ _ => False
section
variable {K : PySem.W.Frag} {S : Type} (w : Wl K S)
structure MtW (W : WX) (B0 H0 B : Hp) (D : Ends) (P : PostW S) : Prop where
  nx : ∀ Γ2 s2 B2 H2 σ2, P.nx Γ2 s2 → Ex B B2 → EnvW (w.g s2) B0 H0 B2 H2 σ2 Γ2 → D.nx σ2 H2
  bk : ∀ Γ2 s2 B2 H2 σ2, P.bk Γ2 s2 → Ex B B2 → EnvW (w.g s2) B0 H0 B2 H2 σ2 Γ2 → D.bk σ2 H2
  ct : ∀ Γ2 s2 B2 H2 σ2, P.ct Γ2 s2 → Ex B B2 → EnvW (w.g s2) B0 H0 B2 H2 σ2 Γ2 → D.ct σ2 H2
  rt : ∀ e s2 v B2 H2, P.rt e s2 → Ex B B2 → Stp B0 H0 B2 H2 → (w.g s2).Wd B2 H2 → (∀ a ∈ (w.g s2).foot, H0 a = none) → EntV K B2 v e → D.rt v H2
  er : ∀ c Γ2 s2 B2 H2 σ2, P.er c Γ2 s2 → Ex B B2 → EnvW (w.g s2) B0 H0 B2 H2 σ2 Γ2 → W (.ref c) none σ2 H2
def WpW (W : WX) (ts : TS) (Γ : List Ent) (s : S) (P : PostW S) : Prop :=
  ∀ (B0 H0 B H : Hp) (σ : L2.St) (D : Ends), EnvW (w.g s) B0 H0 B H σ Γ → MtW w W B0 H0 B D P → ts D σ H
/-- what an expression comes to, and the surroundings behind it -/
def EvW (te : TE) (Γ : List Ent) (s : S) (N : Ent → S → Prop) : Prop :=
  ∀ (B0 H0 B H : Hp) (σ : L2.St), EnvW (w.g s) B0 H0 B H σ Γ → ∀ Q : VK, (∀ e s2 v B2 H2, N e s2 → Ex B B2 → EnvW (w.g s2) B0 H0 B2 H2 σ Γ → EntV K B2 v e → Q v H2) → te σ H Q
end
/-- arguments that leave the surroundings as they are -/
def EvAE (G : Gd) (ta : TA) (Γ : List Ent) (es : List Ent) : Prop :=
  ∀ (B0 H0 B H : Hp) (σ : L2.St), EnvB G B0 H0 B H σ Γ → ∀ Q : List V → Hp → Prop, (∀ vs B2 H2, Stp B H B2 H2 → EntVs G.K B2 vs es → Q vs H2) → ta σ H Q
def EvE (G : Gd) (te : TE) (Γ : List Ent) (e : Ent) : Prop :=
  ∀ (B0 H0 B H : Hp) (σ : L2.St), EnvB G B0 H0 B H σ Γ → ∀ Q : VK, (∀ v B2 H2, Stp B H B2 H2 → EntV G.K B2 v e → Q v H2) → te σ H Q
section
variable {G : Gd} {te : TE} {ta : TA} {Γ : List Ent} {d : PyData} {e : Ent} {es : List Ent} {v : V} {i : Nat}
theorem ee_dat (h : EvD G te Γ d) : EvE G te Γ (.dat d) := h
theorem ee_val (h : Γ[i]? = some (.val v)) : EvE G (tVar i) Γ (.val v) := fun B0 H0 B H σ E Q k => by
  have h1 := E.val h
  exact ⟨v, h1, k v B H (Stp.refl E.stp.bh) rfl⟩
theorem eae_nil : EvAE G tNil Γ [] := fun B0 H0 B H σ E Q k => k [] B H (Stp.refl E.stp.bh) .nil
theorem eae_cons (h : EvE G te Γ e) (hr : EvAE G ta Γ es) : EvAE G (tCons te ta) Γ (e :: es) := fun B0 H0 B H σ E Q k =>
  h B0 H0 B H σ E _ fun v B1 H1 s1 d1 => hr B0 H0 B1 H1 σ (E.step s1) _ fun vs B2 H2 s2 d2 => k _ B2 H2 (s1.trans s2) (.cons (d1.up s2.bb) d2)
end
section
variable {K : PySem.W.Frag} {S : Type} {w : Wl K S} {W : WX} {ts tu tz : TS} {tt : TT} {te : TE} {Γ : List Ent} {s : S} {P : PostW S} {d : PyData} {b : Bool} {xs : List PyData}
theorem EnvW.step {G : Gd} {B0 H0 B H B2 H2 : Hp} {σ : L2.St} (E : EnvW G B0 H0 B H σ Γ) (st : Stp B H B2 H2) : EnvW G B0 H0 B2 H2 σ Γ := ⟨E.1.step st, E.2⟩
theorem MtW.up {B0 H0 B B1 : Hp} {D : Ends} (M : MtW w W B0 H0 B D P) (e : Ex B B1) : MtW w W B0 H0 B1 D P :=
  ⟨fun _ _ _ _ _ a b => M.nx _ _ _ _ _ a (e.trans b), fun _ _ _ _ _ a b => M.bk _ _ _ _ _ a (e.trans b), fun _ _ _ _ _ a b => M.ct _ _ _ _ _ a (e.trans b), fun _ _ _ _ _ a b => M.rt _ _ _ _ _ a (e.trans b), fun _ _ _ _ _ _ a b => M.er _ _ _ _ _ _ a (e.trans b)⟩
abbrev PostW.at (P : PostW S) (s : S) : Post := { nx := fun Γ => P.nx Γ s, bk := fun Γ => P.bk Γ s, ct := fun Γ => P.ct Γ s, rt := fun d => P.rt (.dat d) s, er := fun c Γ => P.er c Γ s }
/-- what leaves the surroundings as they are -/
theorem ww_pure (h : WpD (w.g s) W ts Γ (P.at s)) : WpW w W ts Γ s P := fun B0 H0 B H σ D E M => by
  have x := withC_ex (H := H) E.2
  have fin : ∀ {B2 H2 : Hp} {σ2 : L2.St} {Γ2 : List Ent}, EnvB (w.g s) B0 (withC (w.g s) H H0) B2 H2 σ2 Γ2 → EnvW (w.g s) B0 H0 B2 H2 σ2 Γ2 := fun E2 => ⟨E2.less x, E.2⟩
  refine h B0 (withC (w.g s) H H0) B H σ D E.1.more ⟨fun Γ2 B2 H2 σ2 a b c => M.nx _ s _ _ _ a b (fin c), fun Γ2 B2 H2 σ2 a b c => M.bk _ s _ _ _ a b (fin c), fun Γ2 B2 H2 σ2 a b c => M.ct _ s _ _ _ a b (fin c), fun d v B2 H2 a st b dp => ?_, fun c Γ2 B2 H2 σ2 a b c' => M.er _ _ s _ _ _ a b (fin c')⟩
  refine M.rt (.dat d) s v B2 H2 a b ⟨st.bb, st.bh, x.trans st.hh, fun a o h z => st.hid a o (x a o h) z⟩ ⟨fun c hc => ?_, w.rup s _ _ b E.1.wd.2⟩ E.2 dp
  have hm : c.1 ∈ (w.g s).foot := Gd.mem_foot hc
  have h1 : withC (w.g s) H H0 c.1 = some c.2 := by unfold withC; rw [if_pos hm]; exact (E.1.wd.1 c hc).1
  refine ⟨st.hh _ _ h1, st.hid _ _ h1 ?_⟩
  exact E.1.stp.bb.back (E.1.wd.1 c hc).2
theorem WpW.mono {P' : PostW S} (h : WpW w W ts Γ s P) (h1 : ∀ Γ' s', P.nx Γ' s' → P'.nx Γ' s') (h2 : ∀ Γ' s', P.bk Γ' s' → P'.bk Γ' s') (h3 : ∀ Γ' s', P.ct Γ' s' → P'.ct Γ' s') (h4 : ∀ e s', P.rt e s' → P'.rt e s') (h5 : ∀ c Γ' s', P.er c Γ' s' → P'.er c Γ' s') : WpW w W ts Γ s P' := fun B0 H0 B H σ D E M =>
  h B0 H0 B H σ D E ⟨fun _ _ _ _ _ a => M.nx _ _ _ _ _ (h1 _ _ a), fun _ _ _ _ _ a => M.bk _ _ _ _ _ (h2 _ _ a), fun _ _ _ _ _ a => M.ct _ _ _ _ _ (h3 _ _ a), fun _ _ _ _ _ a => M.rt _ _ _ _ _ (h4 _ _ a), fun _ _ _ _ _ _ a => M.er _ _ _ _ _ _ (h5 _ _ _ a)⟩
theorem ww_cut (N : List Ent → S → Prop) (h : WpW w W ts Γ s { P with nx := N }) (k : ∀ Γ' s', N Γ' s' → P.nx Γ' s') : WpW w W ts Γ s P := h.mono k (fun _ _ z => z) (fun _ _ z => z) (fun _ _ z => z) fun _ _ _ z => z
theorem ww_seq (h : WpW w W ts Γ s { P with nx := fun Γ' s' => WpW w W tu Γ' s' P }) : WpW w W (tSeq ts tu) Γ s P := fun B0 H0 B H σ D E M =>
  h B0 H0 B H σ { D with nx := tu D } E ⟨fun Γ2 s2 B2 H2 σ2 a b E2 => a B0 H0 B2 H2 σ2 D E2 (M.up b), M.bk, M.ct, M.rt, M.er⟩
theorem ww_next (h : P.nx Γ s) : WpW w W tNext Γ s P := fun B0 H0 B H σ D E M => M.nx Γ s B H σ h Ex.rfl' E
theorem ww_if (h : EvT (w.g s) tt Γ b) (h1 : b = true → WpW w W tu Γ s P) (h2 : b = false → WpW w W tz Γ s P) : WpW w W (tIfS tt tu tz) Γ s P := fun B0 H0 B H σ D E M =>
  h B0 H0 B H σ E.1 _ fun B1 H1 s1 => by
    cases b with
    | true => exact h1 rfl B0 H0 B1 H1 σ D (E.step s1) (M.up s1.bb)
    | false => exact h2 rfl B0 H0 B1 H1 σ D (E.step s1) (M.up s1.bb)
theorem EnvB.set_ent {G : Gd} {B0 H0 B H : Hp} {σ : L2.St} (E : EnvB G B0 H0 B H σ Γ) (i : Nat) {v : V} : ∀ {e : Ent}, EntV G.K B v e → EnvB G B0 H0 B H (σ.set i (some v)) (Γ.set i e)
  | .dat _, h => E.set_dat i h
  | .val u, h => by cases h; exact E.set_val i _
  | .no, h => h.elim
  | .own _, h => h.elim
theorem ww_asg {i : Nat} {N : Ent → S → Prop} (h : EvW w te Γ s N) (k : ∀ e s2, N e s2 → P.nx (Γ.set i e) s2) : WpW w W (tAsg te (gName i)) Γ s P := fun B0 H0 B H σ D E M =>
  h B0 H0 B H σ E _ fun e s2 v B2 H2 n x E2 dv => M.nx _ _ _ _ _ (k e s2 n) x ⟨E2.1.set_ent i dv, E2.2⟩
theorem ww_drop {N : Ent → S → Prop} (h : EvW w te Γ s N) (k : ∀ e s2, N e s2 → P.nx Γ s2) : WpW w W (tDrop te) Γ s P := fun B0 H0 B H σ D E M =>
  h B0 H0 B H σ E _ fun e s2 v B2 H2 n x E2 dv => M.nx _ _ _ _ _ (k e s2 n) x E2
theorem ww_ret {N : Ent → S → Prop} (h : EvW w te Γ s N) (k : ∀ e s2, N e s2 → P.rt e s2) : WpW w W (tRet te) Γ s P := fun B0 H0 B H σ D E M =>
  h B0 H0 B H σ E _ fun e s2 v B2 H2 n x E2 dv => M.rt e s2 v B2 H2 (k e s2 n) x E2.1.stp E2.1.wd E2.2 dv
theorem ew_ee {e : Ent} {N : Ent → S → Prop} (h : EvE (w.g s) te Γ e) (k : N e s) : EvW w te Γ s N := fun B0 H0 B H σ E Q q =>
  h B0 H0 B H σ E.1 _ fun v B2 H2 st dv => q e s v B2 H2 k st.bb (E.step st) dv
theorem ww_know {φ : Prop} (h : ∀ B, w.rel s B → φ) (k : φ → WpW w W ts Γ s P) : WpW w W ts Γ s P := fun B0 H0 B H σ D E M => k (h B E.1.wd.2) B0 H0 B H σ D E M
/-- a for whose turns change the surroundings -/
theorem ww_forn {wi : TI} {j : Nat} {tb : TS} (I : Nat → List Ent → S → Prop) (hi : ItD (w.g s) wi Γ xs) (h0 : I 0 Γ s)
    (hs : ∀ i x Γ' s', xs[i]? = some x → I i Γ' s' → WpW w W tb (Γ'.set j (.dat x)) s' { P with nx := I (i + 1), ct := I (i + 1), bk := P.nx }) (hd : ∀ Γ' s', I xs.length Γ' s' → P.nx Γ' s') : WpW w W (tFor wi (gName j) tb) Γ s P := fun B0 H0 B H σ D E M =>
  hi B0 H0 B H σ E.1 _ fun J B1 H1 s1 wk => by
    refine ⟨fun i m σ' H' => m = xs.length - i ∧ i ≤ xs.length ∧ ∃ Γ' s' B', I i Γ' s' ∧ Ex B1 B' ∧ EnvW (w.g s') B0 H0 B' H' σ' Γ', ⟨xs.length, by simp, Nat.zero_le _, Γ, s, B1, h0, Ex.rfl', E.step s1⟩, ?_⟩
    rintro i m σ' H' ⟨rfl, hle, Γ', s', B', hI, e1, E'⟩
    obtain ⟨w1, w2⟩ := wk i B' H' e1 E'.1.stp.bh
    by_cases hlt : i < xs.length
    · obtain ⟨go, yl⟩ := w1 hlt
      refine .inr ⟨go, fun σ3 H3 => ∃ Γ3 s3 B3, I (i + 1) Γ3 s3 ∧ Ex B1 B3 ∧ EnvW (w.g s3) B0 H0 B3 H3 σ3 Γ3, fun σ3 H3 ⟨Γ3, s3, B3, a1, a2, a3⟩ => ⟨xs.length - (i + 1), by omega, rfl, hlt, Γ3, s3, B3, a1, a2, a3⟩, fun x H'' hy => ?_⟩
      obtain ⟨B'', d, s3, hx, hdx⟩ := yl x H'' hy
      have E2 := E'.step s3
      refine hs i d Γ' s' hx hI B0 H0 B'' H'' _ _ ⟨E2.1.set_dat j hdx, E2.2⟩ ⟨fun Γ3 s3' B3 H3 σ3 a1 a2 a3 => ⟨Γ3, s3', B3, a1, (e1.trans s3.bb).trans a2, a3⟩, fun Γ3 s3' B3 H3 σ3 a1 a2 a3 => M.nx _ _ _ _ _ a1 (((s1.bb.trans e1).trans s3.bb).trans a2) a3,
        fun Γ3 s3' B3 H3 σ3 a1 a2 a3 => ⟨Γ3, s3', B3, a1, (e1.trans s3.bb).trans a2, a3⟩, fun d s3' v B3 H3 a1 a2 => M.rt _ _ _ _ _ a1 (((s1.bb.trans e1).trans s3.bb).trans a2), fun c Γ3 s3' B3 H3 σ3 a1 a2 a3 => M.er _ _ _ _ _ _ a1 (((s1.bb.trans e1).trans s3.bb).trans a2) a3⟩
    · have e : i = xs.length := by omega
      subst e
      exact .inl ⟨w2 (Nat.le_refl _), M.nx _ _ _ _ _ (hd _ _ hI) (s1.bb.trans e1) E'⟩
/-- a list of a slot's own, shared from now on -/
theorem ww_freeze {i : Nat} {ds : List PyData} (hi : Γ[i]? = some (.own ds)) (k : WpW w W ts (Γ.set i (.dat (.list ds))) s P) : WpW w W ts Γ s P := fun B0 H0 B H σ D E M => by
  obtain ⟨B1, e, E1⟩ := E.1.freeze hi
  exact k B0 H0 B1 H σ D ⟨E1, E.2⟩ (M.up e)
end
/-! ### defs whose surroundings change -/
structure StW (fp fp2 : List Addr) (B H B2 H2 : Hp) : Prop where
  bb : Ex B B2
  bh : Ex B2 H2
  hh : ∀ a o, a ∉ fp → H a = some o → H2 a = some o
  hid : ∀ a o, a ∉ fp → H a = some o → B a = none → B2 a = none
  new : ∀ a ∈ fp2, a ∈ fp ∨ H a = none
inductive Out (S : Type) where
  | ok (e : Ent) (s : S) | err (c : Addr) (s : S)
def spW {S : Type} {K : PySem.W.Frag} (w : Wl K S) (R : List Ent → S → (Out S → Prop) → Prop) : Sp := fun vs H Q E => ∃ B es s N, Ex B H ∧ EntVs K B vs es ∧ (w.g s).Wd B H ∧ R es s N ∧
  (∀ e s2 v B2 H2, N (.ok e s2) → StW (w.g s).foot (w.g s2).foot B H B2 H2 → (w.g s2).Wd B2 H2 → EntV K B2 v e → Q v H2) ∧
  ∀ c s2 B2 H2, N (.err c s2) → StW (w.g s).foot (w.g s2).foot B H B2 H2 → (w.g s2).Wd B2 H2 → E (.ref c) none H2
section
variable {K : PySem.W.Frag} {S : Type} {w : Wl K S} {W : WX} {Γ : List Ent} {s s2 : S} {es : List Ent} {ta : TA} {E0 : XK}
theorem EnvW.world {B0 H0 B H B2 H2 : Hp} {σ : L2.St} (E : EnvW (w.g s) B0 H0 B H σ Γ) (st : StW (w.g s).foot (w.g s2).foot B H B2 H2) (wd : (w.g s2).Wd B2 H2) : EnvW (w.g s2) B0 H0 B2 H2 σ Γ := by
  have nf : ∀ a o, H0 a = some o → a ∉ (w.g s).foot := fun a o h m => by rw [E.2 a m] at h; cases h
  refine ⟨⟨⟨E.1.stp.bb.trans st.bb, st.bh, fun a o h => st.hh a o (nf a o h) (E.1.stp.hh a o h), fun a o h z => st.hid a o (nf a o h) (E.1.stp.hh a o h) (E.1.stp.hid a o h z)⟩, wd, E.1.len, fun i x e h1 h2 => ?_, E.1.dis, fun i p ds h1 h2 hm => ?_⟩, fun a hm => ?_⟩
  · have z := E.1.get i x e h1 h2
    cases e with
    | no => trivial
    | dat d => obtain ⟨v, z1, z2⟩ := z; exact ⟨v, z1, st.bb.dp z2⟩
    | val v => exact z
    | own ds =>
      obtain ⟨p, vs, z1, z2, z3, z4, z5⟩ := z
      subst z1
      have n := E.1.off i p ds h2 h1
      exact ⟨p, vs, rfl, st.hid p _ n z4 z2, z3, st.hh p _ n z4, st.bb.dpa z5⟩
  · obtain ⟨q, vs, e1, _, _, e4, _⟩ := E.1.own h1
    rw [e1] at h2; cases h2
    rcases st.new p hm with m | m
    · exact E.1.off i p ds h1 e1 m
    · rw [m] at e4; cases e4
  · rcases st.new a hm with m | m
    · exact E.2 a m
    · exact E.1.stp.hh.back m
theorem ew_call {R : List Ent → S → (Out S → Prop) → Prop} {N : Out S → Prop} (h : EvAE (w.g s) ta Γ es) (hR : R es s N) (hN : ∀ c s2, ¬ N (.err c s2)) : EvW w (tCall (spW w R) [] E0 ta) Γ s fun e s2 => N (.ok e s2) := fun B0 H0 B H σ E Q k =>
  h B0 H0 B H σ E.1 _ fun vs B1 H1 s1 d1 => by
    have E1 := E.step s1
    refine ⟨B1, es, s, N, s1.bh, by rw [List.append_nil]; exact d1, E1.1.wd, hR, fun e s2 v B2 H2 n st wd dv => ?_, fun c s2 B2 H2 n => absurd n (hN c s2)⟩
    exact k e s2 v B2 H2 n (s1.bb.trans st.bb) (E1.world st wd) dv
end
/-- the slots at the entry -/
def entryE (N : List Str) (es : List Ent) : List Ent := es ++ List.replicate (N.length - es.length) .no
theorem EntVs.get {K : PySem.W.Frag} {B : Hp} : ∀ {vs : List V} {es : List Ent} {i : Nat} {e : Ent}, EntVs K B vs es → es[i]? = some e → ∃ v, vs[i]? = some v ∧ EntV K B v e
  | _, _, _, _, .nil, h => by simp at h
  | _, _, 0, _, .cons h1 _, h => by simp at h; subst h; exact ⟨_, rfl, h1⟩
  | _, _, i + 1, e, .cons _ h2, h => by
    obtain ⟨v, e1, e2⟩ := h2.get (i := i) (by simpa using h)
    exact ⟨v, by simpa using e1, e2⟩
def cutH (H : Hp) (l : List Addr) : Hp := fun a => if a ∈ l then none else H a
theorem entry_envW {G : Gd} {B H : Hp} {N : List Str} {vs : List V} {es : List Ent} (e : Ex B H) (wd : G.Wd B H) (h : EntVs G.K B vs es) : EnvW G B (cutH H G.foot) B H (L2.start N vs) (entryE N es) := by
  have hl := h.len
  have key : ∀ (i : Nat) (x : Option V) (en : Ent), (L2.start N vs)[i]? = some x → (entryE N es)[i]? = some en → (∃ v, x = some v ∧ EntV G.K B v en) ∨ en = .no := fun i x en h1 h2 => by
    unfold L2.start at h1
    unfold entryE at h2
    by_cases hi : i < es.length
    · rw [List.getElem?_append_left hi] at h2
      rw [List.getElem?_append_left (by simpa [hl] using hi), List.getElem?_map] at h1
      obtain ⟨v, e1, e2⟩ := h.get h2
      rw [e1] at h1; cases h1
      exact .inl ⟨v, rfl, e2⟩
    · rw [List.getElem?_append_right (by simpa using hi), List.getElem?_replicate] at h2
      split at h2
      · cases h2; exact .inr rfl
      · cases h2
  have noown : ∀ (i : Nat) (ds : List PyData), (entryE N es)[i]? ≠ some (.own ds) := fun i ds z => by
    have hi : i < (L2.start N vs).length := by
      have := (List.getElem?_eq_some_iff.mp z).1
      unfold entryE at this
      unfold L2.start
      simp [hl] at this ⊢; omega
    rcases key i _ _ (List.getElem?_eq_getElem hi) z with ⟨v, _, q⟩ | q
    · exact q
    · cases q
  refine ⟨⟨⟨Ex.rfl', e, fun a o h => ?_, fun a o _ z => z⟩, wd, by simp [L2.start, entryE, hl], fun i x en h1 h2 => ?_, fun i j p ds' es' _ h1 => absurd h1 (noown i ds'), fun i p ds h1 => absurd h1 (noown i ds)⟩, fun a m => ?_⟩
  · unfold cutH at h
    split at h
    · cases h
    · exact h
  · rcases key i x en h1 h2 with ⟨v, rfl, q⟩ | rfl
    · cases en with
      | no => trivial
      | dat d => exact ⟨v, rfl, q⟩
      | val u => cases q; exact rfl
      | own ds => exact q.elim
    · trivial
  · unfold cutH; rw [if_pos m]
section
variable {P : Program} {wo : World} {K : PySem.W.Frag} {mg : Str → Option Value} {base : Heap} {S : Type} {w : Wl K S}
theorem stW_of {s s2 : S} {B H B2 H2 : Hp} (st : Stp B (cutH H (w.g s).foot) B2 H2) (hf : ∀ a ∈ (w.g s2).foot, cutH H (w.g s).foot a = none) : StW (w.g s).foot (w.g s2).foot B H B2 H2 :=
  ⟨st.bb, st.bh, fun a o n h => st.hh a o (by unfold cutH; rw [if_neg n]; exact h), fun a o n h z => st.hid a o (by unfold cutH; rw [if_neg n]; exact h) z, fun a m => by
    have := hf a m
    unfold cutH at this
    split at this
    · rename_i q; exact .inl q
    · exact .inr this⟩
theorem fn_okW {x qual : Str} {st : Stmt} {f : Addr} {fd : FuncData} {N ps : List Str} {k : Nat} {R : List Ent → S → (Out S → Prop) → Prop} (F : Fun K x qual st f fd) (Sc : FnScope N ps (defScope st)) (len : ∀ es s O, R es s O → es.length = ps.length)
    (hb : ∀ (cdv : Value) (A : Around) (outer : List Env) (s : Shared) (H : Hp) (E : XK), Room k (A.deeper (PyProof.Rows.envOfC qual (defScope st) s.heap.objs.size f cdv)) →
      ∃ t, PSs (cxOf CX0 P wo K mg base N qual (defScope st) f cdv A outer s H E).nox (defBody st) t ∧ ∀ es s0 O, R es s0 O → WpW w WNo t (entryE N es) s0 { nx := fun _ s2 => O (.ok (.dat .none) s2), rt := fun e s2 => O (.ok e s2) }) : FnOk P wo K mg base CX0 (k + 1) f fd ps (spW w R) := by
  refine F.ok Sc (fun vs H Q E h => ?_) (fun cdv A outer s H vs Q E hr h => ?_)
  · obtain ⟨B, es, s0, O, e, hd, wd, hR, _⟩ := h
    rw [hd.len]; exact len es s0 O hR
  · obtain ⟨B, es, s0, O, e, hd, wd, hR, q, _⟩ := h
    obtain ⟨t, ht, hw⟩ := hb cdv A outer s H E hr
    refine ⟨t, ht, hw es s0 O hR B _ B H _ _ (entry_envW e wd hd) ⟨fun Γ2 s2 B2 H2 σ2 a b c => ?_, fun _ _ _ _ _ a => a.elim, fun _ _ _ _ _ a => a.elim, fun e' s2 v B2 H2 a b st wd2 hf dv => ?_, fun _ _ _ _ _ _ a => a.elim⟩⟩
    · exact q (.dat .none) s2 .non B2 H2 a (stW_of c.1.stp c.2) c.1.wd .non
    · exact q e' s2 v B2 H2 a (stW_of st hf) wd2 dv
end
end Pd

namespace Pd
open PySem L2
/-! ### lists in cells of the surroundings -/
section
variable {G : Gd} {te tk : TE} {ta : TA} {Γ : List Ent} {d : PyData} {q : Addr} {vs : List V} {ds : List PyData} {v : V} {i : Nat} {k : Int}
/-- the cell q holds a list of these data -/
structure LsC (G : Gd) (q : Addr) (vs : List V) (ds : List PyData) : Prop where
  c : (q, HO.lst vs) ∈ G.cells
  d : ∀ B, G.rel B → DpAll G.K B vs ds
theorem cell_sl {B0 H0 B H : Hp} {σ : L2.St} (E : EnvB G B0 H0 B H σ Γ) (hc : (q, HO.lst vs) ∈ G.cells) : SqL G.K H q vs := SqL.of (E.wd.1 _ hc).1
theorem ed_clen (ht : EvE G te Γ (.val (.ref q))) (hc : (q, HO.lst vs) ∈ G.cells) : EvD G (tCB (rLen G.K) (tCons te tNil)) Γ (.int (vs.length : Int)) := fun B0 H0 B H σ E Q k =>
  ht B0 H0 B H σ E _ fun u B1 H1 s1 e => by
    cases e
    exact ⟨_, _, rfl, .inl ⟨_, cell_sl (E.step s1) hc, rfl⟩, k _ B1 H1 s1 (.int _)⟩
theorem ed_llen (ht : EvE G te Γ (.val (.ref q))) (hc : LsC G q vs ds) : EvD G (tCB (rLen G.K) (tCons te tNil)) Γ (.int (ds.length : Int)) := fun B0 H0 B H σ E Q k => by
  have e := dpa_len (hc.d B E.wd.2)
  have := ed_clen ht hc.c B0 H0 B H σ E Q
  rw [e] at this
  exact this k
theorem ee_cix (ht : EvE G te Γ (.val (.ref q))) (hc : (q, HO.lst vs) ∈ G.cells) (hk : EvD G tk Γ (.int k)) (h : atI vs k = some v) : EvE G (tOp (rIx G.K) te tk) Γ (.val v) := fun B0 H0 B H σ E Q kk =>
  ht B0 H0 B H σ E _ fun u B1 H1 s1 e => by
    cases e
    refine hk B0 H0 B1 H1 σ (E.step s1) _ fun w B2 H2 s2 d2 => ?_
    cases d2
    exact .inl ⟨_, _, k, v, rfl, rfl, cell_sl ((E.step s1).step s2) hc, h, kk v B2 H2 (s1.trans s2) rfl⟩
theorem ed_lix (ht : EvE G te Γ (.val (.ref q))) (hc : LsC G q vs ds) (hk : EvD G tk Γ (.int k)) (h : atI ds k = some d) : EvD G (tOp (rIx G.K) te tk) Γ d := fun B0 H0 B H σ E Q kk =>
  ht B0 H0 B H σ E _ fun u B1 H1 s1 e => by
    cases e
    refine hk B0 H0 B1 H1 σ (E.step s1) _ fun w B2 H2 s2 d2 => ?_
    cases d2
    have E2 := (E.step s1).step s2
    obtain ⟨u, hu, hd⟩ := dpa_at (hc.d B2 E2.wd.2) h
    exact .inl ⟨_, _, k, u, rfl, rfl, cell_sl E2 hc.c, hu, kk u B2 H2 (s1.trans s2) hd⟩
theorem ef_llist (ht : EvE G te Γ (.val (.ref q))) (hc : LsC G q vs ds) : EvF G (tCB (rListOf G.K) (tCons te tNil)) Γ ds := fun B0 H0 B H σ E Q kk =>
  ht B0 H0 B H σ E _ fun u B1 H1 s1 e => by
    cases e
    have E1 := E.step s1
    exact ⟨_, _, rfl, .inl (cell_sl E1 hc.c), fun l hl => kk l _ B1 H1 s1 hl (hc.d B1 E1.wd.2)⟩
end
section
variable {K : PySem.W.Frag} {S : Type} {w : Wl K S} {W : WX} {te tk : TE} {Γ : List Ent} {s : S} {P : PostW S} {d : PyData} {q : Addr} {vs : List V} {ds : List PyData} {i : Nat} {k : Int}
/-- s2: as s, but the cell q holds o -/
structure UpC (w : Wl K S) (s s2 : S) (q : Addr) (o : HO) : Prop where
  foot : ∀ a ∈ (w.g s2).foot, a ∈ (w.g s).foot
  cell : ∀ c ∈ w.cells s2, c = (q, o) ∨ (c.1 ≠ q ∧ c ∈ w.cells s)
theorem EnvW.upd {B0 H0 B H : Hp} {σ : L2.St} {s2 : S} {o o' : HO} (E : EnvW (w.g s) B0 H0 B H σ Γ) (hq : (q, o') ∈ w.cells s) (u : UpC w s s2 q o) (r : w.rel s2 B) : EnvW (w.g s2) B0 H0 B (upd H q o) σ Γ := by
  have hm : q ∈ (w.g s).foot := Gd.mem_foot (c := (q, o')) hq
  have hB : B q = none := (E.1.wd.1 _ hq).2
  refine E.world ⟨Ex.rfl', E.1.stp.bh.mut hB, fun a o n h => ?_, fun a o n h z => z, fun a m => .inl (u.foot a m)⟩ ⟨fun c hc => ?_, r⟩
  · rw [upd_ne (fun e => n (by rw [e]; exact hm))]; exact h
  · rcases u.cell c hc with rfl | ⟨n, h⟩
    · exact ⟨upd_same, hB⟩
    · exact ⟨by rw [upd_ne n]; exact (E.1.wd.1 c h).1, (E.1.wd.1 c h).2⟩
theorem ww_capp (hi : Γ[i]? = some (.val (.ref q))) (hc : (q, HO.lst vs) ∈ w.cells s) (h : EvD (w.g s) te Γ d) (hz : vs.length < 100000) (up : V → S) (hu : ∀ v B, w.rel s B → Dp K B v d → UpC w s (up v) q (.lst (vs ++ [v])) ∧ w.rel (up v) B)
    (k : ∀ v, P.nx Γ (up v)) : WpW w W (tDrop (tBM K "list" rAppend (tVar i) (tCons te tNil))) Γ s P := fun B0 H0 B H σ D E M => by
  refine ⟨.ref q, E.1.val hi, .inl ⟨rfl, vs, cell_sl E.1 hc⟩, h B0 H0 B H σ E.1 _ fun v B1 H1 s1 d1 => ?_⟩
  have E1 := E.step s1
  refine ⟨q, vs, v, rfl, rfl, (E1.1.wd.1 _ hc).1, Evl.sz_lt hz, ?_⟩
  exact M.nx _ _ _ _ _ (k v) s1.bb (E1.upd hc (hu v B1 E1.1.wd.2 d1).1 (hu v B1 E1.1.wd.2 d1).2)
theorem ww_cset {k : Int} {j : Nat} (hi : Γ[i]? = some (.val (.ref q))) (hc : (q, HO.lst vs) ∈ w.cells s) (h : EvD (w.g s) te Γ d) (hk : EvD (w.g s) tk Γ (.int k)) (hj : ixN vs.length k = some j) (up : V → S) (hu : ∀ v B, w.rel s B → Dp K B v d → UpC w s (up v) q (.lst (vs.set j v)) ∧ w.rel (up v) B)
    (kk : ∀ v, P.nx Γ (up v)) : WpW w W (tAsg te (gSub (tVar i) tk rSetL)) Γ s P := fun B0 H0 B H σ D E M =>
  h B0 H0 B H σ E.1 _ fun v B1 H1 s1 d1 => by
    have E1 := E.step s1
    refine ⟨.ref q, E1.1.val hi, hk B0 H0 B1 H1 σ E1.1 _ fun u B2 H2 s2 d2 => ?_⟩
    cases d2
    have E2 := E1.step s2
    refine ⟨q, vs, k, j, rfl, rfl, (E2.1.wd.1 _ hc).1, hj, ?_⟩
    exact M.nx _ _ _ _ _ (kk v) (s1.bb.trans s2.bb) (E2.upd hc (hu v B2 E2.1.wd.2 (s2.bb.dp d1)).1 (hu v B2 E2.1.wd.2 (s2.bb.dp d1)).2)
theorem ww_cpop {u : V} {up : S} (hi : Γ[i]? = some (.val (.ref q))) (hc : (q, HO.lst vs) ∈ w.cells s) (hl : vs[vs.length - 1]? = some u) (hu : ∀ B, w.rel s B → UpC w s up q (.lst vs.dropLast) ∧ w.rel up B)
    (k : P.nx Γ up) : WpW w W (tDrop (tBM0 K "list" rPop (tVar i))) Γ s P := fun B0 H0 B H σ D E M => by
  refine ⟨.ref q, E.1.val hi, .inl ⟨rfl, vs, cell_sl E.1 hc⟩, ⟨q, vs, u, rfl, rfl, (E.1.wd.1 _ hc).1, hl, ?_⟩⟩
  exact M.nx _ _ _ _ _ k Ex.rfl' (E.upd hc (hu B E.1.wd.2).1 (hu B E.1.wd.2).2)
/-- a new list, put behind a list in a cell -/
structure UpN (w : Wl K S) (s s2 : S) (q : Addr) (o : HO) (q2 : Addr) (o2 : HO) : Prop where
  foot : ∀ a ∈ (w.g s2).foot, a = q2 ∨ a ∈ (w.g s).foot
  cell : ∀ c ∈ w.cells s2, c = (q, o) ∨ c = (q2, o2) ∨ (c.1 ≠ q ∧ c ∈ w.cells s)
theorem ww_cappF (hi : Γ[i]? = some (.val (.ref q))) (hc : (q, HO.lst vs) ∈ w.cells s) (h : EvF (w.g s) te Γ ds) (hz : vs.length < 100000) (up : Addr → List V → S) (hu : ∀ q2 us B, q2 ∉ (w.g s).foot → w.rel s B → DpAll K B us ds → UpN w s (up q2 us) q (.lst (vs ++ [.ref q2])) q2 (.lst us) ∧ w.rel (up q2 us) B)
    (k : ∀ q2 us, P.nx Γ (up q2 us)) : WpW w W (tDrop (tBM K "list" rAppend (tVar i) (tCons te tNil))) Γ s P := fun B0 H0 B H σ D E M => by
  refine ⟨.ref q, E.1.val hi, .inl ⟨rfl, vs, cell_sl E.1 hc⟩, h B0 H0 B H σ E.1 _ fun q2 us B1 H1 s1 hp d1 => ?_⟩
  have E1 := E.step s1
  have hm : q ∈ (w.g s).foot := Gd.mem_foot (c := (q, HO.lst vs)) hc
  have hq := E1.1.wd.1 _ hc
  have nq : q ≠ q2 := fun e => by
    have z := hq.1
    rw [e] at z
    rw [hp] at z; cases z
  have nf : q2 ∉ (w.g s).foot := fun m => by
    obtain ⟨⟨o, z⟩, _⟩ := E1.1.wd.there m
    rw [hp] at z; cases z
  refine ⟨q, vs, .ref q2, rfl, rfl, by rw [upd_ne nq]; exact hq.1, Evl.sz_lt hz, ?_⟩
  obtain ⟨u, hr⟩ := hu q2 us B1 nf E1.1.wd.2 d1
  refine M.nx _ _ _ _ _ (k q2 us) s1.bb (E1.world ⟨Ex.rfl', ?_, fun a o n h => ?_, fun a o n h z => z, fun a m => ?_⟩ ⟨fun c hc2 => ?_, hr⟩)
  · exact (E1.1.stp.bh.trans (Ex.new hp)).mut hq.2
  · rw [upd_ne (fun e => n (by rw [e]; exact hm)), upd_ne (ne_of_none h hp)]; exact h
  · rcases u.foot a m with rfl | m
    · exact .inr hp
    · exact .inl m
  · rcases u.cell c hc2 with rfl | rfl | ⟨n, h⟩
    · exact ⟨upd_same, hq.2⟩
    · exact ⟨by show upd _ q _ q2 = _; rw [upd_ne (Ne.symm nq)]; exact upd_same, E1.1.stp.bh.back hp⟩
    · have z := E1.1.wd.1 c h
      exact ⟨by rw [upd_ne n, upd_ne (ne_of_none z.1 hp)]; exact z.1, z.2⟩
end
/-! ### a list of lists -/
structure Row where
  q : Addr
  vs : List V
  ds : List PyData
structure Nst where
  p : Addr
  rows : List Row
def nestW (K : PySem.W.Frag) : Wl K (Option Nst) where
  cells
    | none => []
    | some n => (n.p, .lst (n.rows.map fun r => V.ref r.q)) :: n.rows.map fun r => (r.q, HO.lst r.vs)
  rel
    | none, _ => True
    | some n, B => n.p ∉ n.rows.map Row.q ∧ (n.rows.map Row.q).Nodup ∧ ∀ r ∈ n.rows, DpAll K B r.vs r.ds
  rup
    | none, _, _, _, _ => trivial
    | some n, B, B', x, h => ⟨h.1, h.2.1, fun r hr => x.dpa (h.2.2 r hr)⟩
section
variable {K : PySem.W.Frag} {W : WX} {te tk : TE} {Γ : List Ent} {n : Nst} {d : PyData} {ds : List PyData} {i : Nat} {k : Int} {r : Row} {P : PostW (Option Nst)}
theorem nest_top : (n.p, HO.lst (n.rows.map fun r => V.ref r.q)) ∈ ((nestW K).g (some n)).cells := List.mem_cons_self
theorem nest_row (h : r ∈ n.rows) : LsC ((nestW K).g (some n)) r.q r.vs r.ds := ⟨List.mem_cons_of_mem _ (List.mem_map_of_mem h), fun B x => x.2.2 r h⟩
/-- [te], te a new list -/
theorem ew_nest1 (h : EvF ((nestW K).g none) te Γ ds) : EvW (nestW K) (tLst (tCons te tNil)) Γ none fun e s => ∃ p q vs, e = .val (.ref p) ∧ s = some ⟨p, [⟨q, vs, ds⟩]⟩ := fun B0 H0 B H σ E Q k =>
  h B0 H0 B H σ E.1 _ fun q vs B1 H1 s1 hq d1 => by
    refine ⟨show 1 ≤ sizeLine by decide, fun p hp => ?_⟩
    have E1 := E.step s1
    have npq : p ≠ q := fun e => by rw [e, upd_same] at hp; cases hp
    have hp1 : H1 p = none := by rw [upd_ne npq] at hp; exact hp
    refine k (.val (.ref p)) (some ⟨p, [⟨q, vs, ds⟩]⟩) _ B1 _ ⟨p, q, vs, rfl, rfl⟩ s1.bb (E1.world (s2 := some ⟨p, [⟨q, vs, ds⟩]⟩) ⟨Ex.rfl', ?_, fun a o _ h => ?_, fun a o _ h z => z, fun a m => .inr ?_⟩ ⟨fun c hc => ?_, ?_⟩) rfl
    · exact (E1.1.stp.bh.trans (Ex.new hq)).trans (Ex.new hp)
    · rw [upd_ne (ne_of_none h hp1), upd_ne (ne_of_none h hq)]; exact h
    · have : a = p ∨ a = q := by simpa [Gd.foot, nestW] using m
      rcases this with rfl | rfl
      · exact hp1
      · exact hq
    · have : c = (p, HO.lst [V.ref q]) ∨ c = (q, HO.lst vs) := by simpa [nestW] using hc
      rcases this with rfl | rfl
      · exact ⟨upd_same, E1.1.stp.bh.back hp1⟩
      · exact ⟨by show upd _ p _ q = _; rw [upd_ne (Ne.symm npq)]; exact upd_same, E1.1.stp.bh.back hq⟩
    · exact ⟨by simpa using npq, by simp, fun r hr => by simp at hr; subst hr; exact d1⟩
/-- a new list more -/
theorem ww_nest_app (hi : Γ[i]? = some (.val (.ref n.p))) (h : EvF ((nestW K).g (some n)) te Γ ds) (hz : n.rows.length < 100000) (k : ∀ q vs, P.nx Γ (some ⟨n.p, n.rows ++ [(⟨q, vs, ds⟩ : Row)]⟩)) :
    WpW (nestW K) W (tDrop (tBM K "list" rAppend (tVar i) (tCons te tNil))) Γ (some n) P := by
  have mem : ∀ q, q ∉ ((nestW K).g (some n)).foot → q ≠ n.p ∧ q ∉ n.rows.map Row.q := fun q hq => by
    unfold Gd.foot nestW at hq
    simp only [List.map_cons, List.map_map, List.mem_cons, not_or] at hq
    exact ⟨hq.1, fun m => hq.2 (by simpa using m)⟩
  refine ww_cappF hi (nest_top (K := K) (n := n)) h (by rw [List.length_map]; exact hz) (fun q vs => some ⟨n.p, n.rows ++ [(⟨q, vs, ds⟩ : Row)]⟩) (fun q vs B hq hr hd => ?_) k
  obtain ⟨h1, h2, h3⟩ := hr
  obtain ⟨m1, m2⟩ := mem q hq
  refine ⟨⟨fun a m => ?_, fun c hc => ?_⟩, ?_, ?_, fun r hr => ?_⟩
  · unfold Gd.foot nestW at m ⊢
    simp only [List.map_cons, List.map_append, List.map_map, List.mem_cons, List.mem_append, List.map_nil, List.not_mem_nil, or_false] at m ⊢
    rcases m with m | m | m
    · exact .inr (.inl m)
    · exact .inr (.inr m)
    · exact .inl m
  · have hc : c ∈ (n.p, HO.lst ((n.rows ++ [(⟨q, vs, ds⟩ : Row)]).map fun r => V.ref r.q)) :: (n.rows ++ [(⟨q, vs, ds⟩ : Row)]).map fun r => (r.q, HO.lst r.vs) := hc
    rw [List.map_append, List.map_append] at hc
    rcases List.mem_cons.mp hc with rfl | hc
    · exact .inl rfl
    · rcases List.mem_append.mp hc with hc | hc
      · refine .inr (.inr ⟨?_, List.mem_cons_of_mem _ hc⟩)
        obtain ⟨r, hr, rfl⟩ := List.mem_map.mp hc
        exact fun e => h1 (by rw [← e]; exact List.mem_map_of_mem hr)
      · simp at hc; subst hc; exact .inr (.inl rfl)
  · show n.p ∉ (n.rows ++ [(⟨q, vs, ds⟩ : Row)]).map Row.q
    rw [List.map_append]
    intro m
    rcases List.mem_append.mp m with m | m
    · exact h1 m
    · simp at m; exact m1 m.symm
  · show ((n.rows ++ [(⟨q, vs, ds⟩ : Row)]).map Row.q).Nodup
    rw [List.map_append, List.nodup_append]
    refine ⟨h2, by simp, fun a ha b hb => ?_⟩
    simp at hb; subst hb
    exact fun e => m2 (by rw [← e]; exact ha)
  · rcases List.mem_append.mp hr with hr | hr
    · exact h3 r hr
    · simp at hr; subst hr; exact hd
/-- a row is changed -/
def Nst.put (n : Nst) (r : Row) (vs : List V) (ds : List PyData) : Nst := ⟨n.p, n.rows.map fun x => if x.q = r.q then ⟨r.q, vs, ds⟩ else x⟩
theorem put_q (n : Nst) (r : Row) (vs : List V) (ds : List PyData) : (n.put r vs ds).rows.map Row.q = n.rows.map Row.q := by
  unfold Nst.put
  rw [List.map_map]
  exact List.map_congr_left fun x _ => by
    show Row.q (if x.q = r.q then _ else x) = x.q
    split
    · rename_i e; exact e.symm
    · rfl
theorem put_up {r : Row} {B : Hp} {vs : List V} {ds : List PyData} (hr : r ∈ n.rows) (h : (nestW K).rel (some n) B) (hd : DpAll K B vs ds) : UpC (nestW K) (some n) (some (n.put r vs ds)) r.q (.lst vs) ∧ (nestW K).rel (some (n.put r vs ds)) B := by
  obtain ⟨h1, h2, h3⟩ := h
  have e : (n.put r vs ds).rows.map (fun x => V.ref x.q) = n.rows.map fun x => V.ref x.q := by
    have := congrArg (List.map V.ref) (put_q n r vs ds)
    rw [List.map_map, List.map_map] at this
    exact this
  refine ⟨⟨fun a m => ?_, fun c hc => ?_⟩, ?_, ?_, fun x hx => ?_⟩
  · have e2 : ((nestW K).g (some (n.put r vs ds))).foot = ((nestW K).g (some n)).foot := by
      have := put_q n r vs ds
      unfold Gd.foot nestW
      simp only [List.map_cons, List.map_map]
      exact congrArg (List.cons n.p) this
    rw [← e2]; exact m
  · have hc : c ∈ (n.p, HO.lst ((n.put r vs ds).rows.map fun r => V.ref r.q)) :: (n.put r vs ds).rows.map fun r => (r.q, HO.lst r.vs) := hc
    rw [e] at hc
    rcases List.mem_cons.mp hc with rfl | hc
    · exact .inr ⟨fun z => h1 (by rw [show n.p = r.q from z]; exact List.mem_map_of_mem hr), List.mem_cons_self⟩
    · obtain ⟨x, hx, rfl⟩ := List.mem_map.mp hc
      obtain ⟨y, hy, rfl⟩ := List.mem_map.mp hx
      by_cases hq : y.q = r.q
      · rw [if_pos hq]; exact .inl rfl
      · rw [if_neg hq]; exact .inr ⟨hq, List.mem_cons_of_mem _ (List.mem_map_of_mem hy)⟩
  · show n.p ∉ (n.put r vs ds).rows.map Row.q
    rw [put_q]; exact h1
  · rw [put_q]; exact h2
  · obtain ⟨y, hy, rfl⟩ := List.mem_map.mp hx
    by_cases hq : y.q = r.q
    · rw [if_pos hq]; exact hd
    · rw [if_neg hq]; exact h3 y hy
theorem ww_row_app {r : Row} (hi : Γ[i]? = some (.val (.ref r.q))) (hr : r ∈ n.rows) (h : EvD ((nestW K).g (some n)) te Γ d) (hz : r.vs.length < 100000) (k : ∀ v, P.nx Γ (some (n.put r (r.vs ++ [v]) (r.ds ++ [d])))) :
    WpW (nestW K) W (tDrop (tBM K "list" rAppend (tVar i) (tCons te tNil))) Γ (some n) P :=
  ww_capp hi (nest_row (K := K) hr).c h hz (fun v => some (n.put r (r.vs ++ [v]) (r.ds ++ [d]))) (fun v B hB hd => put_up hr hB (dpa_app (hB.2.2 r hr) (.cons hd .nil))) k
theorem ww_row_set {r : Row} {j : Nat} (hi : Γ[i]? = some (.val (.ref r.q))) (hr : r ∈ n.rows) (h : EvD ((nestW K).g (some n)) te Γ d) (hk : EvD ((nestW K).g (some n)) tk Γ (.int k)) (hj : ixN r.vs.length k = some j) (kk : ∀ v, P.nx Γ (some (n.put r (r.vs.set j v) (r.ds.set j d)))) :
    WpW (nestW K) W (tAsg te (gSub (tVar i) tk rSetL)) Γ (some n) P :=
  ww_cset hi (nest_row (K := K) hr).c h hk hj (fun v => some (n.put r (r.vs.set j v) (r.ds.set j d))) (fun v B hB hd => put_up hr hB (dpa_set j (hB.2.2 r hr) hd)) kk
theorem dpa_dropLast {B : Hp} {vs : List V} {ds : List PyData} (h : DpAll K B vs ds) : DpAll K B vs.dropLast ds.dropLast := by
  rw [List.dropLast_eq_take, List.dropLast_eq_take, dpa_len h]
  exact dpa_take _ h
theorem ww_row_pop {r : Row} (hi : Γ[i]? = some (.val (.ref r.q))) (hr : r ∈ n.rows) (hl : r.vs ≠ []) (k : P.nx Γ (some (n.put r r.vs.dropLast r.ds.dropLast))) :
    WpW (nestW K) W (tDrop (tBM0 K "list" rPop (tVar i))) Γ (some n) P :=
  ww_cpop hi (nest_row (K := K) hr).c (u := r.vs[r.vs.length - 1]'(by have := List.length_pos_iff.mpr hl; omega)) (List.getElem?_eq_getElem _) (fun B hB => put_up hr hB (dpa_dropLast (hB.2.2 r hr))) k
end
end Pd

namespace Pd
open PySem L2
/-! ### the law's def, its surroundings changing; in, of any data -/
theorem dpa_entVs {K : PySem.W.Frag} {B : Hp} : ∀ {ds : List PyData} {vs : List V}, DpAll K B vs ds → EntVs K B vs (ds.map .dat)
  | [], _, h => by cases h; exact .nil
  | d :: ds, _, h => by cases h with | cons h1 h2 => exact .cons h1 (dpa_entVs h2)
open PyProof.Rows in
theorem law_okW {P : Program} {wo : World} {K : PySem.W.Frag} {mg : Str → Option Value} {base : Heap} {S : Type} (w : Wl K S) (s0 : S) (h0 : w.cells s0 = []) (hr0 : ∀ B, w.rel s0 B) {x qual p : Str} {st : Stmt} {f : Addr} {fd : FuncData} {N : List Str} {k : Nat} {R : List PyData → PyData → Prop} (F : Fun K x qual st f fd) (Sc : FnScope N [p] (defScope st)) (room : Room (k + 1) callerA)
    (len : ∀ ds d, R ds d → ds.length = 1)
    (hb : ∀ (cdv : Value) (s : Shared) (H : Hp) (E : XK), Room k (callerA.deeper (envOfC qual (defScope st) s.heap.objs.size f cdv)) →
      ∃ t, PSs (cxOf CX0 P wo K mg base N qual (defScope st) f cdv callerA [] s H E).nox (defBody st) t ∧ ∀ ds d, R ds d → WpW w WNo t (entryE N (ds.map .dat)) s0 { nx := fun _ _ => d = .none, rt := fun e _ => e = .dat d }) : LawRun P wo K mg base f fd p (spV K R) := by
  intro s H us vs Q E en bind rv told
  obtain ⟨B, ds, d, e, hd, hR, q⟩ := told
  refine run_at F Sc room en bind rv (by rw [dpa_len hd]; exact len ds d hR) fun cdv hr => ?_
  obtain ⟨t, ht, hw⟩ := hb cdv s H E hr
  have ef : (w.g s0).foot = [] := by
    show (w.cells s0).map _ = []
    rw [h0]; rfl
  have eH : cutH H (w.g s0).foot = H := by rw [ef]; funext a; simp [cutH]
  have hst : ∀ {B2 H2}, Stp B (cutH H (w.g s0).foot) B2 H2 → Stp B H B2 H2 := fun z => by rw [eH] at z; exact z
  have hwd : (w.g s0).Wd B H := by
    refine ⟨fun c hc => ?_, hr0 B⟩
    have hc : c ∈ w.cells s0 := hc
    rw [h0] at hc; cases hc
  refine ⟨t, ht.nox, hw ds d hR B _ B H _ _ (entry_envW e hwd (dpa_entVs hd)) ⟨fun Γ2 s2 B2 H2 σ2 a b c => ?_, fun _ _ _ _ _ a => a.elim, fun _ _ _ _ _ a => a.elim, fun e' s2 v B2 H2 a b st wd hf dv => ?_, fun _ _ _ _ _ _ a => a.elim⟩⟩
  · exact q .non B2 H2 (hst c.1.stp) (by rw [a]; exact .non)
  · subst a
    exact q v B2 H2 (hst st) dv
def rInX (K : PySem.W.Frag) : R2 := fun x y H Q => rInA K x y H Q ∨ L2.rInD K x y H Q
def rNotInX (K : PySem.W.Frag) : R2 := fun x y H Q => rNotInA K x y H Q ∨ L2.rNotInD K x y H Q
theorem ok_inX {X : Cx} {K : PySem.W.Frag} (h : X.K = K) (hu : X.A.units + 66 < cLine) : OpR X (compareOp .In) (rInX K) := h ▸ OpR.or op_inA (L2.op_inD (Nat.lt_of_succ_lt hu))
theorem ok_notInX {X : Cx} {K : PySem.W.Frag} (h : X.K = K) (hu : X.A.units + 66 < cLine) : OpR X (compareOp .NotIn) (rNotInX K) := h ▸ OpR.or op_notInA (L2.op_notInD (Nat.lt_of_succ_lt hu))
section
variable {G : Gd} {x y z : PyData} {ds : List PyData}
theorem ox_in (h : OpD G (rInA G.K) x y z) : OpD G (rInX G.K) x y z := fun B H v w e d1 d2 Q k => .inl (h B H v w e d1 d2 Q k)
theorem ox_notIn (h : OpD G (rNotInA G.K) x y z) : OpD G (rNotInX G.K) x y z := fun B H v w e d1 d2 Q k => .inl (h B H v w e d1 d2 Q k)
theorem oy_in (h1 : SideA (SeqAt.shaped x = true)) (h2 : SideD (SeqAt.shaped (.list ds) = true)) : OpD G (rInX G.K) x (.list ds) (.bool (inD x ds)) := fun B H v w e d1 d2 Q k => .inr ⟨x, ds, e.dp d1, e.dp d2, h1.out, h2.out, k _ B H (Stp.refl e) (.bl _)⟩
theorem oy_notIn (h1 : SideA (SeqAt.shaped x = true)) (h2 : SideD (SeqAt.shaped (.list ds) = true)) : OpD G (rNotInX G.K) x (.list ds) (.bool (!inD x ds)) := fun B H v w e d1 d2 Q k => .inr ⟨x, ds, e.dp d1, e.dp d2, h1.out, h2.out, k _ B H (Stp.refl e) (.bl _)⟩
end
end Pd

namespace Pd
open PySem PySem.Spec PyProof.Rows L2
/-! ### t[::-1] of a tuple -/
section
variable {prog : Program} {w : World} {A : Around} {E : Value → Shared → Prop} {s : Shared}
theorem fm_congr {α β : Type} {f g : α → Option β} : ∀ {l : List α}, (∀ x ∈ l, f x = g x) → l.filterMap f = l.filterMap g
  | [], _ => rfl
  | x :: l, h => by rw [List.filterMap_cons, List.filterMap_cons, h x (by simp), fm_congr (fun y hy => h y (List.mem_cons_of_mem _ hy))]
theorem adjust_rev (n : Nat) : Builtin.Slice.sliceAdjust none none (-1) (n : Int) = ((n : Int) - 1, -1) := by
  unfold Builtin.Slice.sliceAdjust
  simp
theorem places_rev (n : Nat) : Builtin.Slice.slicePlaces ((n : Int) - 1) (-1) (-1) = n := by
  unfold Builtin.Slice.slicePlaces
  simp
  omega
theorem sliceApplied_rev {sl : Addr} {vl vu vs : Value} {n : Nat} {Q : Int × Int × Nat → Shared → Prop} (hs : s.heap.IsSliceOf sl vl vu vs) (pl : IsPart vl none) (pu : IsPart vu none) (ps : IsPart vs (some (-1)))
    (h : Q ((n : Int) - 1, -1, n) s) : wpAny (model prog w) A (Builtin.Slice.sliceApplied (.ref sl) (pure (n : Int))) Q E s := by
  obtain ⟨os, hos, hcs, hds⟩ := id hs
  unfold Builtin.Slice.sliceApplied Builtin.Slice.sliceFields
  refine wpAny_bind (wpAny_bind (wpAny_field hos hds (x := vl) rfl (wpAny_bind (wpAny_field hos hds (x := vu) rfl (wpAny_bind (wpAny_field hos hds (x := vs) rfl (wpAny_pure ?_)))))))
  refine wpAny_bind (HT.slicePart_ ps ?_)
  show wpAny _ _ (if ((-1 : Int) == 0) = true then _ else _) _ _ s
  rw [if_neg (by decide)]
  refine wpAny_bind (HT.slicePart_ pl (wpAny_bind (HT.slicePart_ pu (wpAny_bind (wpAny_pure ?_)))))
  show wpAny _ _ (match Builtin.Slice.sliceAdjust none none (-1) (n : Int) with | (lo, hi) => pure (lo, (-1 : Int), Builtin.Slice.slicePlaces lo hi (-1))) _ _ s
  rw [adjust_rev n]
  show wpAny _ _ (pure ((n : Int) - 1, (-1 : Int), Builtin.Slice.slicePlaces ((n : Int) - 1) (-1) (-1))) _ _ s
  rw [places_rev]
  exact wpAny_pure h
theorem pick_rev (xs : Array Value) : ((List.range xs.size).filterMap fun (m : Nat) => xs[(((xs.size : Int) - 1) + (m : Int) * (-1)).toNat]?).toArray = xs.toList.reverse.toArray := by
  congr 1
  have h := PySem.W.krv_all xs
  have e : ((List.range xs.size).filterMap fun (m : Nat) => xs[(((xs.size : Int) - 1) + (m : Int) * (-1)).toNat]?) = ((List.range xs.size).map fun k => xs.size - 1 - k).filterMap (xs[·]?) := by
    rw [List.filterMap_map]
    apply fm_congr
    intro m hm
    have := List.mem_range.mp hm
    show xs[((xs.size : Int) - 1 + (m : Int) * -1).toNat]? = xs[xs.size - 1 - m]?
    congr 1
    omega
  rw [e, PySem.W.krv_range, List.filterMap_reverse, h]
theorem getItem_tuple_rev {t sl : Addr} {items : Array Value} {vl vu vs : Value} {Q : Value → Shared → Prop} (ht : IsTup s.heap t items) (hs : s.heap.IsSliceOf sl vl vu vs) (pl : IsPart vl none) (pu : IsPart vu none) (ps : IsPart vs (some (-1)))
    (h : Q (.ref s.heap.objs.size) { s with heap := s.heap.push { cls := .type "tuple", data := .seq (items.toList.reverse).toArray } })
    (hsz : items.size ≤ sizeLine) : wpAny (model prog w) A (getItem (.ref t) (.ref sl)) Q E s := by
  have htake : sizeOk (.seq (items.toList.reverse).toArray) := by
    show (items.toList.reverse).toArray.size ≤ sizeLine
    rw [List.size_toArray, List.length_reverse, Array.length_toList]
    exact hsz
  obtain ⟨os, hos, hcs, hds⟩ := id hs
  have hTs : s.TypeIs (.ref sl) "slice" := ⟨os, hos, hcs⟩
  unfold getItem
  try with_reducible refine wpAny_holding ?_
  first | refine wpAny_bind (wpAny_pure ?_) | skip
  refine wpAny_bind (wpAny_sequenceKey ht.typeIs (by decide) ?_)
  refine wpAny_bind (wpAny_callSpecial?_slot (name := Str.ofString "__getitem__") ht.typeIs PyProof.Rows.slot_tuple_getitem
    (wpAny_call_entry PyProof.Rows.slot_tuple_getitem ht.typeIs entry_tuple_getitem ?_ (args_tuple_getitem _ _)))
  show wpAny _ _ (Builtin.Tuple.tupleItemsOf (.ref t) >>= _) _ _ s
  refine wpAny_bind (tupleItemsOf_ ht ?_)
  refine wpAny_bind (wpAny_typeOf hTs ?_)
  rw [if_pos (by decide)]
  refine wpAny_bind (sliceApplied_rev hs pl pu ps ?_)
  have hno : ¬ (((((items.size : Nat) : Int) - 1) == 0 && (-1 : Int) == 1 && items.size == items.size) = true) := by
    intro q
    rw [Bool.and_eq_true, Bool.and_eq_true] at q
    exact absurd q.1.2 (by decide)
  show wpAny _ _ (if ((((items.size : Nat) : Int) - 1) == 0 && (-1 : Int) == 1 && items.size == items.size) = true then _ else _) _ _ s
  rw [if_neg hno, pick_rev]
  first
    | exact wpAny_bind (m := Builtin.Tuple.tupleExact _) (wpAny_newObj_type (wpAny_pure ⟨_, rfl, wpAny_pure h⟩) htake)
    | exact wpAny_bind (m := Builtin.Tuple.tupleExact _) (wpAny_newObj_type (wpAny_bind (wpAny_pure (wpAny_pure ⟨_, rfl, wpAny_pure h⟩))) htake)
end
def tRevT (K : PySem.W.Frag) (te : TE) : TE := fun σ H Q => te σ H fun x H1 => ∃ a xs, x = .ref a ∧ SqT K H1 a xs ∧ ∀ p, H1 p = none → Q (.ref p) (upd H1 p (.tup xs.reverse))
theorem pe_revT {X : Cx} {K : PySem.W.Frag} (hK : X.K = K) {e : Expr} {te : TE} {k : Nat} {p1 p2 p3 pos : Pos} (he : PE X e te) : PE X (.Subscript e (.Slice none none (some (.UnaryOp .USub (.Constant (.int 1) k p1) p2)) p3) pos) (tRevT K te) := by
  subst hK
  refine ⟨fun pins s σ H Q I h => ?_⟩
  refine Subscript_ (thn (he.run pins s σ H _ I h) fun v s1 ⟨x, H1, I1, r1, q1⟩ => ?_)
  obtain ⟨a, xs, ex, hx, q⟩ := q1
  subst ex
  cases r1
  have hst : PO X (some (.UnaryOp .USub (.Constant (.int 1) k p1) p2)) (tPart (tUn (rU fun i => .int (-i)) (tC (.int 1)))) := po_some (pe_un un_neg pe_int)
  refine wpAny_Slice (thn (po_none.run pins s1 σ H1 (fun o H2 => o = none ∧ H2 = H1) I1 ⟨rfl, rfl⟩) fun vl s2 ⟨l, H2, I2, pl, el, e2⟩ => ?_)
  subst el e2
  refine thn (po_none.run pins s2 σ H2 (fun o H3 => o = none ∧ H3 = H2) I2 ⟨rfl, rfl⟩) fun vu s3 ⟨u, H3, I3, pu, eu, e3⟩ => ?_
  subst eu e3
  refine thn (hst.run pins s3 σ H3 (fun o H4 => o = some (-1) ∧ H4 = H3) I3 ⟨1, rfl, -1, rfl, rfl, rfl⟩) fun vs s4 ⟨o, H4, I4, ps, eo, e4⟩ => ?_
  subst eo e4
  have I5 : Inv X pins σ H4 { s4 with heap := s4.heap.push { cls := .type "slice", data := .fields #[vl, vu, vs] } } := I4.kept (t' := s4.toks) fun b ob q => Heap.get?_push_of_some _ q
  obtain ⟨its, r, ht, hz⟩ := I5.tuple hx
  have hlen := r.length
  show wpAny (model X.prog X.w) X.A (subscriptTail e (.Slice none none (some (.UnaryOp .USub (.Constant (.int 1) k p1) p2)) p3) (.ref a) (.ref s4.heap.objs.size)) (EP X pins σ Q) X.xe { s4 with heap := s4.heap.push { cls := .type "slice", data := .fields #[vl, vu, vs] } }
  refine tail_any (ops := [.ref a, .ref s4.heap.objs.size]) ht.typeIs (PyProof.Rows.slot_tuple_getitem.lookup) ?_ (by with_unfolding_all rfl)
  refine getItem_tuple_rev ht (Heap.IsSliceOf.new _ vl vu vs) pl pu ps ?_ (by rw [List.size_toArray]; omega)
  refine ⟨.ref _, _, I5.laid (t' := s4.toks) (o := .tup xs.reverse) (fun b ob q => Heap.get?_push_of_some _ q) (Nat.le_refl _) ?_, rfl, q _ (I5.hok.fresh (Nat.le_refl _))⟩
  exact ⟨by rw [List.length_reverse]; exact hz, _, r.reverse, IsTup.new _ _⟩
/-! ### parts of tuples, the whole one too -/
def rSlX (K : PySem.W.Frag) : V → Option Int → Option Int → Hp → VK → Prop := fun x lo hi H Q => rSlA K x lo hi H Q ∨ L2.rSlA K x lo hi H Q
theorem kl_anyX {X : Cx} {K : PySem.W.Frag} (h : X.K = K) : SlR X (rSlX K) := h ▸ sl_any.or L2.sl_tupA
section
variable {G : Gd} {Γ : List Ent} {ta : TE} {tl th : TO} {lo hi : Option Int} {ds : List PyData}
theorem ev_revT (ha : EvD G ta Γ (.tuple ds)) : EvD G (tRevT G.K ta) Γ (.tuple ds.reverse) := fun B0 H0 B H σ E Q k =>
  ha B0 H0 B H σ E _ fun v B1 H1 s1 d1 => by
    cases d1 with
    | tup g1 a1 => exact ⟨_, _, rfl, s1.bh.st g1, fun p hp => k (.ref p) _ _ (s1.new hp) (.tup (SqT.of upd_same) ((Ex.new (s1.bh.back hp)).dpa (dpa_rev a1)))⟩
theorem ex_sl_tup (ha : EvD G ta Γ (.tuple ds)) (h1 : EvO G tl Γ lo) (h2 : EvO G th Γ hi) : EvD G (tSl (rSlX G.K) ta tl th) Γ (.tuple (cutD ds lo hi)) := fun B0 H0 B H σ E Q k =>
  ha B0 H0 B H σ E _ fun v B1 H1 s1 d1 => h1 B0 H0 B1 H1 σ (E.step s1) _ fun B2 H2 s2 => h2 B0 H0 B2 H2 σ (E.step (s1.trans s2)) _ fun B3 H3 s3 => by
    have d3 := (s2.trans s3).bb.dp d1
    cases d3 with
    | tup g1 a1 =>
      refine .inr ⟨_, _, rfl, s3.bh.st g1, fun hw => ?_, fun _ p hp => ?_⟩
      · rw [dpa_len a1] at hw
        have e : cutD ds lo hi = ds := by
          unfold cutD
          rw [hw.1, hw.2, List.drop_zero, Nat.sub_zero, List.take_length]
        exact k _ _ _ ((s1.trans s2).trans s3) (by rw [e]; exact .tup g1 a1)
      · exact k (.ref p) _ _ (((s1.trans s2).trans s3).new hp) (.tup (SqT.of upd_same) ((Ex.new (s3.bh.back hp)).dpa (dpa_cut a1 lo hi)))
theorem exf_sl_list (ha : EvD G ta Γ (.list ds)) (h1 : EvO G tl Γ lo) (h2 : EvO G th Γ hi) : EvF G (tSl (rSlX G.K) ta tl th) Γ (cutD ds lo hi) := fun B0 H0 B H σ E Q k =>
  ha B0 H0 B H σ E _ fun v B1 H1 s1 d1 => h1 B0 H0 B1 H1 σ (E.step s1) _ fun B2 H2 s2 => h2 B0 H0 B2 H2 σ (E.step (s1.trans s2)) _ fun B3 H3 s3 => by
    have d3 := (s2.trans s3).bb.dp d1
    cases d3 with
    | lst g1 a1 => exact .inl (.inl ⟨_, _, rfl, s3.bh.sl g1, fun p hp => k p _ B3 H3 ((s1.trans s2).trans s3) hp (dpa_cut a1 lo hi)⟩)
end
end Pd

namespace K05
open PySem L2 Pd
def topS (i : Nat) : Stmt := PySem.Challenge.pw_freehour_k05_what_is_a_rule.main.body.getD i (.Pass ⟨0, 0, 0, 0⟩)

def isWhole (d : PyData) : Bool := isInt d && !isBool d
def isBetween (d : PyData) (lo hi : Int) : Bool := match d with
  | .int i => decide (lo ≤ i) && decide (i ≤ hi)
  | _ => false
def MD : List Int := [31, 28, 31, 30, 31, 30, 31, 31, 30, 31, 30, 31]
def monthDays (y m : Int) : Int := if m = 2 ∧ y % 4 = 0 then 29 else MD.getD (m - 1).toNat 0
theorem atI_MD {m : Int} (h1 : 1 ≤ m) (h2 : m ≤ 12) : atI [PyData.int 31, .int 28, .int 31, .int 30, .int 31, .int 30, .int 31, .int 31, .int 30, .int 31, .int 30, .int 31] (m - 1) = some (.int (MD.getD (m - 1).toNat 0)) := atI_ints (ns := MD) (by omega) (by show m - 1 < 12; omega)
def cumT : List Int := [0, 31, 59, 90, 120, 151, 181, 212, 243, 273, 304, 334, 365]
def cum (y m : Int) : Int := cumT.getD (m - 1).toNat 0 + (if 2 < m ∧ y % 4 = 0 then 1 else 0)
theorem months {m : Int} (h1 : 1 ≤ m) (h2 : m ≤ 12) : m = 1 ∨ m = 2 ∨ m = 3 ∨ m = 4 ∨ m = 5 ∨ m = 6 ∨ m = 7 ∨ m = 8 ∨ m = 9 ∨ m = 10 ∨ m = 11 ∨ m = 12 := by omega
theorem cum_step (y : Int) {m : Int} (h1 : 1 ≤ m) (h2 : m ≤ 12) : cum y (m + 1) = cum y m + monthDays y m := by
  by_cases hy : y % 4 = 0 <;> rcases months h1 h2 with h | h | h | h | h | h | h | h | h | h | h | h <;> subst h <;> simp [cum, cumT, monthDays, MD, hy]
theorem cum_one (y : Int) : cum y 1 = 0 := by simp [cum, cumT]
theorem cum_end (y : Int) : cum y 13 = 365 + (if y % 4 = 0 then 1 else 0) := by simp [cum, cumT]
theorem monthDays_pos (y : Int) {m : Int} (h1 : 1 ≤ m) (h2 : m ≤ 12) : 28 ≤ monthDays y m ∧ monthDays y m ≤ 31 := by
  by_cases hy : y % 4 = 0 <;> rcases months h1 h2 with h | h | h | h | h | h | h | h | h | h | h | h <;> subst h <;> simp [monthDays, MD, hy]
theorem cum_le (y : Int) {m : Int} (h1 : 1 ≤ m) : ∀ k : Nat, m + k ≤ 13 → cum y m ≤ cum y (m + k)
  | 0, _ => by simp
  | k + 1, h => by
    have e : m + ((k + 1 : Nat) : Int) = (m + (k : Int)) + 1 := by omega
    have h0 := cum_le y h1 k (by omega)
    have h3 := cum_step y (m := m + (k : Int)) (by omega) (by omega)
    have h4 := monthDays_pos y (m := m + (k : Int)) (by omega) (by omega)
    rw [e]; omega
theorem cum_mono (y : Int) {m n : Int} (h1 : 1 ≤ m) (h : m ≤ n) (h2 : n ≤ 13) : cum y m ≤ cum y n := by
  have := cum_le y h1 (n - m).toNat (by omega)
  have e : m + (((n - m).toNat : Nat) : Int) = n := by omega
  rwa [e] at this
/-- the walk through the months: fuel, year, rest, month -/
def dateGo : Nat → Int → Int → Int → Int × Int
  | 0, _, r, m => (m, r)
  | n + 1, y, r, m => if monthDays y m ≤ r then dateGo n y (r - monthDays y m) (m + 1) else (m, r)
theorem dateGo_spec (y : Int) : ∀ (n : Nat) (r m : Int), m + n = 13 → 1 ≤ m → 0 ≤ r → r + cum y m < cum y 13 →
    1 ≤ (dateGo n y r m).1 ∧ (dateGo n y r m).1 ≤ 12 ∧ 0 ≤ (dateGo n y r m).2 ∧ (dateGo n y r m).2 < monthDays y (dateGo n y r m).1 ∧ (dateGo n y r m).2 + cum y (dateGo n y r m).1 = r + cum y m
  | 0, r, m, e, h1, h2, h3 => by
    have : m = 13 := by omega
    subst this
    omega
  | n + 1, r, m, e, h1, h2, h3 => by
    unfold dateGo
    have hs := cum_step y h1 (by omega)
    by_cases h : monthDays y m ≤ r
    · rw [if_pos h]
      have := dateGo_spec y n (r - monthDays y m) (m + 1) (by omega) (by omega) (by omega) (by omega)
      rw [hs] at this
      omega
    · rw [if_neg h]
      exact ⟨h1, by show m ≤ 12; omega, h2, by show r < monthDays y m; omega, rfl⟩
def yr (d : Int) : Int := if 366 ≤ d % 1461 then d / 1461 * 4 + 1 + (d % 1461 - 366) / 365 else d / 1461 * 4
def yd (d : Int) : Int := if 366 ≤ d % 1461 then (d % 1461 - 366) % 365 else d % 1461
def mn (d : Int) : Int := (dateGo 12 (yr d) (yd d) 1).1
def dn (d : Int) : Int := (dateGo 12 (yr d) (yd d) 1).2 + 1
def ybase (y : Int) : Int := y / 4 * 1461 + y % 4 * 365 + (if 0 < y % 4 then 1 else 0)
def dayOf (y m n : Int) : Int := ybase y + cum y m + n - 1
theorem yd_spec (d : Int) : 0 ≤ yd d ∧ yd d < cum (yr d) 13 ∧ ybase (yr d) + yd d = d := by
  rw [cum_end]
  unfold yd yr ybase
  by_cases h : 366 ≤ d % 1461
  · simp only [if_pos h]
    have h4 : (d / 1461 * 4 + 1 + (d % 1461 - 366) / 365) % 4 = 1 + (d % 1461 - 366) / 365 := by omega
    have h5 : (d / 1461 * 4 + 1 + (d % 1461 - 366) / 365) / 4 = d / 1461 := by omega
    rw [h4, h5]
    have : ¬ (1 + (d % 1461 - 366) / 365 = 0) := by omega
    rw [if_neg this, if_pos (by omega)]
    omega
  · simp only [if_neg h]
    have h4 : d / 1461 * 4 % 4 = 0 := by omega
    have h5 : d / 1461 * 4 / 4 = d / 1461 := by omega
    rw [h4, h5]
    simp
    omega
theorem yr_of {y k : Int} (h0 : 0 ≤ k) (h1 : k < cum y 13) : yr (ybase y + k) = y ∧ yd (ybase y + k) = k := by
  rw [cum_end] at h1
  by_cases h : y % 4 = 0
  · have hb : ybase y = y / 4 * 1461 := by unfold ybase; rw [h]; simp
    rw [hb]
    rw [if_pos h] at h1
    have e1 : (y / 4 * 1461 + k) % 1461 = k := by omega
    have e2 : (y / 4 * 1461 + k) / 1461 = y / 4 := by omega
    unfold yr yd
    rw [e1, e2]
    have : ¬ 366 ≤ k := by omega
    rw [if_neg this, if_neg this]
    omega
  · have hb : ybase y = y / 4 * 1461 + y % 4 * 365 + 1 := by unfold ybase; rw [if_pos (by omega)]
    rw [hb]
    rw [if_neg h] at h1
    have e1 : (y / 4 * 1461 + y % 4 * 365 + 1 + k) % 1461 = y % 4 * 365 + 1 + k := by omega
    have e2 : (y / 4 * 1461 + y % 4 * 365 + 1 + k) / 1461 = y / 4 := by omega
    unfold yr yd
    rw [e1, e2, if_pos (by omega), if_pos (by omega)]
    omega
theorem mn_spec (d : Int) : 1 ≤ mn d ∧ mn d ≤ 12 ∧ 1 ≤ dn d ∧ dn d ≤ monthDays (yr d) (mn d) ∧ dn d - 1 + cum (yr d) (mn d) = yd d := by
  have h := yd_spec d
  have := dateGo_spec (yr d) 12 (yd d) 1 (by omega) (by omega) h.1 (by rw [cum_one]; omega)
  rw [cum_one] at this
  unfold mn dn
  omega
theorem dayOf_date (d : Int) : dayOf (yr d) (mn d) (dn d) = d := by
  have h1 := yd_spec d
  have h2 := mn_spec d
  unfold dayOf
  omega
theorem mn_unique {y m m' k : Int} (h1 : 1 ≤ m) (h2 : m ≤ 12) (h1' : 1 ≤ m') (h2' : m' ≤ 12) (a : cum y m ≤ k) (b : k < cum y (m + 1)) (a' : cum y m' ≤ k) (b' : k < cum y (m' + 1)) : m = m' := by
  rcases Int.lt_trichotomy m m' with h | h | h
  · have := cum_mono y (m := m + 1) (n := m') (by omega) (by omega) (by omega); omega
  · exact h
  · have := cum_mono y (m := m' + 1) (n := m) (by omega) (by omega) (by omega); omega
theorem date_dayOf {y m n : Int} (h1 : 1 ≤ m) (h2 : m ≤ 12) (h3 : 1 ≤ n) (h4 : n ≤ monthDays y m) : yr (dayOf y m n) = y ∧ mn (dayOf y m n) = m ∧ dn (dayOf y m n) = n := by
  have e : dayOf y m n = ybase y + (cum y m + n - 1) := by unfold dayOf; omega
  have hs := cum_step y h1 h2
  have c1 := cum_mono y (m := 1) (n := m) (by omega) h1 (by omega)
  have c2 := cum_mono y (m := m + 1) (n := 13) (by omega) (by omega) (by omega)
  rw [cum_one] at c1
  obtain ⟨e1, e2⟩ := yr_of (y := y) (k := cum y m + n - 1) (by omega) (by omega)
  rw [← e] at e1 e2
  have sp := mn_spec (dayOf y m n)
  rw [e1, e2] at sp
  have hs' := cum_step y sp.1 sp.2.1
  have em : mn (dayOf y m n) = m := mn_unique (y := y) sp.1 sp.2.1 h1 h2 (k := cum y m + n - 1) (by omega) (by omega) (by omega) (by omega)
  refine ⟨e1, em, ?_⟩
  rw [em] at sp
  omega

def cell (ns : List Int) (k : Int) : Int := ns.getD k.toNat 0

theorem ybase_succ (y : Int) : ybase (y + 1) = ybase y + cum y 13 := by
  rw [cum_end]; unfold ybase
  split <;> split <;> split <;> omega
/-- the place in the month, by walking four years -/
theorem inMonth_step {y m r : Int} (h1 : 1 ≤ m) (h2 : m ≤ 12) : dayOf (y + m / 12) (m % 12 + 1) (r - monthDays y m + 1) = dayOf y m (r + 1) := by
  have hs := cum_step y h1 h2
  rcases Int.lt_or_le m 12 with h | h
  · have e1 : m / 12 = 0 := by omega
    have e2 : m % 12 = m := by omega
    rw [e1, e2, Int.add_zero]
    unfold dayOf; rw [hs]; omega
  · obtain rfl : m = 12 := by omega
    have hb := ybase_succ y
    have h1 := cum_one (y + 1)
    show dayOf (y + 1) 1 (r - monthDays y 12 + 1) = _
    unfold dayOf
    rw [hb, h1]
    have e : (12 : Int) + 1 = 13 := rfl
    rw [e] at hs; rw [hs]; omega
theorem monthDays_shift (y q m : Int) : monthDays (y + 4 * q) m = monthDays y m := by
  have : (y + 4 * q) % 4 = y % 4 := by omega
  unfold monthDays; rw [this]
theorem cum_shift (y q m : Int) : cum (y + 4 * q) m = cum y m := by
  have : (y + 4 * q) % 4 = y % 4 := by omega
  unfold cum; rw [this]
theorem dayOf_shift (y q m n : Int) : dayOf (y + 4 * q) m n = dayOf y m n + 1461 * q := by
  unfold dayOf ybase
  rw [cum_shift]
  have h1 : (y + 4 * q) / 4 = y / 4 + q := by omega
  have h2 : (y + 4 * q) % 4 = y % 4 := by omega
  rw [h1, h2]
  omega
theorem inMonth_end {d y m r : Int} (h1 : 1 ≤ m) (h2 : m ≤ 12) (h3 : 0 ≤ r) (h4 : r < monthDays y m) (h : dayOf y m (r + 1) = d % 1461) : r + 1 = dn d ∧ r - monthDays y m = dn d - 1 - monthDays (yr d) (mn d) := by
  have e : d = dayOf (y + 4 * (d / 1461)) m (r + 1) := by rw [dayOf_shift, h]; omega
  obtain ⟨b1, b2, b3⟩ := date_dayOf (y := y + 4 * (d / 1461)) (m := m) (n := r + 1) h1 h2 (by omega) (by rw [monthDays_shift]; omega)
  rw [← e] at b1 b2 b3
  rw [b1, b2, b3, monthDays_shift]
  omega

inductive Rule where
  | once (h n : Int) | every (h n s : Int) | week (ds : List Int) (h n : Int) | month (d h n : Int)
  | fr (t : Int) (r : Rule) | un (t : Int) (r : Rule) | al (t : Int) (r : Rule) | bu (ds : List Int) (r : Rule)
@[simp, reducible] def toD : Rule → PyData
  | .once h n => .tuple [.str "once", .int h, .int n]
  | .every h n s => .tuple [.str "every", .int h, .int n, .int s]
  | .week ds h n => .tuple [.str "week", .tuple (ds.map .int), .int h, .int n]
  | .month d h n => .tuple [.str "month", .int d, .int h, .int n]
  | .fr t r => .tuple [.str "from", .int t, toD r]
  | .un t r => .tuple [.str "until", .int t, toD r]
  | .al t r => .tuple [.str "also", .int t, toD r]
  | .bu ds r => .tuple [.str "but", .tuple (ds.map .int), toD r]
@[simp] def depth : Rule → Nat
  | .fr _ r => depth r + 1 | .un _ r => depth r + 1 | .al _ r => depth r + 1 | .bu _ r => depth r + 1 | _ => 0
@[simp] def core : Rule → Rule
  | .fr _ r => core r | .un _ r => core r | .al _ r => core r | .bu _ r => core r | r => r
@[simp] def plain : Rule → Bool
  | .fr _ _ => false | .un _ _ => false | .al _ _ => false | .bu _ _ => false | _ => true
@[simp] def size : Rule → Int
  | .once _ n => n | .every _ n _ => n | .week _ _ n => n | .month _ _ n => n
  | .fr _ r => size r | .un _ r => size r | .al _ r => size r | .bu _ r => size r
@[simp] def Ok : Rule → Prop
  | .every _ _ s => 0 < s
  | .fr _ r => Ok r | .un _ r => Ok r | .al _ r => Ok r | .bu _ r => Ok r | _ => True
theorem plain_core : ∀ r, plain (core r) = true
  | .once .. => rfl | .every .. => rfl | .week .. => rfl | .month .. => rfl
  | .fr _ r => plain_core r | .un _ r => plain_core r | .al _ r => plain_core r | .bu _ r => plain_core r
theorem size_core : ∀ r, size (core r) = size r
  | .once .. => rfl | .every .. => rfl | .week .. => rfl | .month .. => rfl
  | .fr _ r => size_core r | .un _ r => size_core r | .al _ r => size_core r | .bu _ r => size_core r
/-- whether a span begins (the hour is from 0 on) -/
@[simp] def beg : Rule → Int → Bool
  | .once h _, x => decide (x = h)
  | .every h _ s, x => decide (h ≤ x) && decide ((x - h) % s = 0)
  | .week ds h _, x => decide (x % 24 = h) && decide (x / 24 % 7 ∈ ds)
  | .month d h _, x => decide (x % 24 = h) && (decide (d = dn (x / 24)) || decide (d = dn (x / 24) - 1 - monthDays (yr (x / 24)) (mn (x / 24))))
  | .fr t r, x => beg r x && decide (t ≤ x)
  | .un t r, x => beg r x && decide (x < t)
  | .al t r, x => beg r x || decide (x = t)
  | .bu ds r, x => beg r x && !decide (x / 24 ∈ ds)
def begins (r : Rule) (x : Int) : Bool := decide (0 ≤ x) && beg r x
theorem dn_sides (d : Int) : 1 ≤ dn d ∧ dn d - 1 - monthDays (yr d) (mn d) < 0 := by
  have := mn_spec d; omega
theorem beq_comm_int (a b : Int) : decide (a = b) = decide (b = a) := decide_eq_decide.mpr ⟨Eq.symm, Eq.symm⟩

def wstep (s : List Int × Int) (k : Nat) : List Int × Int := if s.2 % 2 = 1 then (s.1 ++ [(k : Int)], s.2 / 2) else (s.1, s.2 / 2)
def wd (b : Int) : List Int := ((List.range 7).foldl wstep ([], b)).1
theorem wd_ne {b : Int} (h1 : 1 ≤ b) (h2 : b ≤ 127) : wd b ≠ [] := by
  have h : ∀ n : Fin 127, wd (1 + (n.1 : Int)) ≠ [] := by decide +kernel
  have := h ⟨(b - 1).toNat, by omega⟩
  rwa [show (1 : Int) + (((b - 1).toNat : Nat) : Int) = b by omega] at this
def monthDay (c : Int) : Int :=
  let d := if c / 62 % 2 = 1 then ([-1, 0, 30, 29, 28, -31, -30, -29, -28, 27] : List Int).getD (c / 124 % 10).toNat 0 else c % 62 - 31
  d + (if decide (0 ≤ d) = true then 1 else 0)
def plainBy (c0 c1 c2 far most : Int) : Rule :=
  if c0 % 4 = 0 then .once (far + c1 % 60) (1 + c0 / 4 % most)
  else if c0 % 4 = 1 then .every (far + c1 % 60) (1 + c0 / 4 % most) (1 + c2 % 30)
  else if c0 % 4 = 2 then .week (wd (1 + c2 % 127)) (c1 % 24) (1 + c0 / 4 % most)
  else .month (monthDay c2) (c1 % 24) (1 + c0 / 4 % most)
/-- what is asked of the rules that are built here -/
@[simp] def Fine : Rule → Prop
  | .every _ _ s => 0 < s
  | .week ds _ _ => ds ≠ []
  | .fr _ r => Fine r | .un _ r => Fine r | .al _ r => Fine r | .bu ds r => ds ≠ [] ∧ Fine r | _ => True
theorem Fine.ok : ∀ {r : Rule}, Fine r → Ok r
  | .once .., h => trivial | .every .., h => h | .week .., h => trivial | .month .., h => trivial
  | .fr _ r, h => Fine.ok (r := r) h | .un _ r, h => Fine.ok (r := r) h | .al _ r, h => Fine.ok (r := r) h | .bu _ r, h => Fine.ok (r := r) h.2
theorem Fine.core : ∀ {r : Rule}, Fine r → Fine (core r)
  | .once .., h => trivial | .every .., h => h | .week .., h => h | .month .., h => trivial
  | .fr _ r, h => Fine.core (r := r) h | .un _ r, h => Fine.core (r := r) h | .al _ r, h => Fine.core (r := r) h | .bu _ r, h => Fine.core (r := r) h.2
theorem plainBy_fine (c0 c1 c2 far most : Int) : Fine (plainBy c0 c1 c2 far most) := by
  unfold plainBy
  split
  · trivial
  split
  · show 0 < 1 + c2 % 30; omega
  split
  · exact wd_ne (by omega) (by omega)
  · trivial
theorem plainBy_plain (c0 c1 c2 far most : Int) : plain (plainBy c0 c1 c2 far most) = true := by
  unfold plainBy; split <;> (try split) <;> (try split) <;> rfl
theorem plainBy_size (c0 c1 c2 far most : Int) : size (plainBy c0 c1 c2 far most) = 1 + c0 / 4 % most := by
  unfold plainBy; split <;> (try split) <;> (try split) <;> rfl

@[simp] def heads : Rule → List Rule
  | .fr t r => .fr t r :: heads r | .un t r => .un t r :: heads r | .al t r => .al t r :: heads r | .bu ds r => .bu ds r :: heads r | r => [r]
theorem heads_ne : ∀ r, heads r ≠ []
  | .once .. | .every .. | .week .. | .month .. | .fr .. | .un .. | .al .. | .bu .. => by simp
theorem heads_last : ∀ r, (heads r).getLast? = some (core r)
  | .once .. | .every .. | .week .. | .month .. => by simp
  | .fr _ r => by have := heads_last r; have := heads_ne r; simp_all [List.getLast?_cons]
  | .un _ r => by have := heads_last r; have := heads_ne r; simp_all [List.getLast?_cons]
  | .al _ r => by have := heads_last r; have := heads_ne r; simp_all [List.getLast?_cons]
  | .bu _ r => by have := heads_last r; have := heads_ne r; simp_all [List.getLast?_cons]
theorem heads_len : ∀ r, (heads r).length = depth r + 1
  | .once .. | .every .. | .week .. | .month .. => by simp
  | .fr _ r | .un _ r | .al _ r | .bu _ r => by simp [heads_len r]
/-- what one that bears lets by -/
def lets (x : Int) (b : Bool) : Rule → Bool
  | .fr t _ => b && decide (t ≤ x)
  | .un t _ => b && decide (x < t)
  | .al t _ => b || decide (x = t)
  | .bu ds _ => b && !decide (x / 24 ∈ ds)
  | _ => b
theorem begun_fold (x : Int) : ∀ r, (heads r).dropLast.reverse.foldl (lets x) (beg (core r) x) = beg r x
  | .once .. | .every .. | .week .. | .month .. => by simp
  | .fr _ r | .un _ r | .al _ r | .bu _ r => by
    have h := begun_fold x r
    simp [List.dropLast_cons_of_ne_nil (heads_ne r), List.foldl_append, h, lets]
theorem heads_bear : ∀ r, ∀ q ∈ (heads r).dropLast, plain q = false
  | .once .. | .every .. | .week .. | .month .. => by simp
  | .fr _ r | .un _ r | .al _ r | .bu _ r => by
    have h := heads_bear r
    simp [List.dropLast_cons_of_ne_nil (heads_ne r)]
    exact h
theorem Ok.core : ∀ {r : Rule}, Ok r → Ok (core r)
  | .once .., h => trivial | .every .., h => h | .week .., h => trivial | .month .., h => trivial
  | .fr _ r, h => Ok.core (r := r) h | .un _ r, h => Ok.core (r := r) h | .al _ r, h => Ok.core (r := r) h | .bu _ r, h => Ok.core (r := r) h
theorem atI_last {xs : List Rule} {q : Rule} (h : xs.getLast? = some q) : atI (xs.map toD) (-1) = some (toD q) := by
  obtain ⟨ys, rfl⟩ := List.getLast?_eq_some_iff.mp h
  unfold atI
  rw [List.length_map, List.length_append, List.length_singleton]
  have e : ixN (ys.length + 1) (-1) = some ys.length := by unfold ixN; simp; omega
  rw [e]; simp

@[simp] def isT : Rule → Bool
  | .once .. => true | .every .. => true | .fr .. => true | .un .. => true | .al .. => true | _ => false
@[simp] def tOf : Rule → Int
  | .once h _ => h | .every h _ _ => h | .fr t _ => t | .un t _ => t | .al t _ => t | _ => 0

def isTime (x : PyData) : Bool := isBetween x 0 (1000000000000 - 1)
def isLen (x : PyData) : Bool := isBetween x 1 48
theorem isBetween_int {x : PyData} {lo hi : Int} (h : isBetween x lo hi = true) : ∃ i, x = .int i ∧ lo ≤ i ∧ i ≤ hi := by
  cases x <;> simp [isBetween] at h
  exact ⟨_, rfl, h⟩
def intOf : PyData → Int
  | .int i => i
  | _ => 0
def rowGo (below : Int) : Int → List PyData → Bool
  | _, [] => true
  | last, x :: xs => isBetween x (last + 1) (below - 1) && rowGo below (intOf x) xs
def rowB (x : PyData) (below most : Int) : Bool := match x with
  | .tuple ds => decide (1 ≤ (ds.length : Int)) && decide ((ds.length : Int) ≤ most) && rowGo below (-1) ds
  | _ => false
def plainB (w : Str) (a b : PyData) : List PyData → Bool
  | [] => decide (w = "once") && (isTime a && isLen b)
  | [c] => if w = "once" then false else if w = "every" then isTime a && (isLen b && isBetween c 1 1000000)
      else if isBetween b 0 23 && isLen c then (if w = "week" then rowB a 7 7 else decide (w = "month") && (isBetween a (-31) 31 && !decide (intOf a = 0))) else false
  | _ => false
def BEARD : List PyData := [.str "from", .str "until", .str "also", .str "but"]
def ruleB : Nat → PyData → Bool
  | n + 1, .tuple (.str w :: a :: b :: rest) => if inD (.str w) BEARD = true then (match rest with
      | [] => (if w = "but" then rowB a 100000000000 20 else isTime a) && ruleB n b
      | _ => false) else plainB w a b rest
  | _, _ => false

def isDig (c : Nat) : Bool := decide (48 ≤ c) && decide (c ≤ 57)
def figsOk (f : List Nat) : Bool := decide (1 ≤ f.length) && decide (f.length ≤ 13) && !(decide (f.head? = some 48) && decide (1 < f.length)) && f.all isDig
/-- the figures of a word -/
def figs (l : List Nat) : List Nat := match l with
  | [] => []
  | c :: r => if c = 45 ∧ ¬ r = [48] then r else c :: r
def numOf (l : List Nat) : Option Int :=
  if figsOk (figs l) = true then some (if figs l = l then ((NumText.digitsVal (figs l) : Nat) : Int) else 0 - ((NumText.digitsVal (figs l) : Nat) : Int)) else none
def numR (C : Addr) (l : List Nat) : Res := match numOf l with
  | some i => .ok (.int i)
  | none => .err C
theorem numR_ok {C : Addr} {l : List Nat} {i : Int} (h : numOf l = some i) : numR C l = .ok (.int i) := by unfold numR; rw [h]
theorem numR_err {C : Addr} {l : List Nat} (h : figsOk (figs l) = false) : numR C l = .err C := by unfold numR numOf; rw [h]; rfl
theorem fig_mem {c : Nat} : c ∈ ("0123456789" : Str).cps.toList ↔ isDig c = true := by
  have e : ("0123456789" : Str).cps.toList = [48, 49, 50, 51, 52, 53, 54, 55, 56, 57] := by decide +kernel
  rw [e]
  simp [isDig]
  omega
theorem minus_eq {c : Nat} : ((⟨#[c]⟩ : Str) = "-") ↔ c = 45 := by
  have e : ("-" : Str) = ⟨#[45]⟩ := by decide +kernel
  rw [e]; exact sign_eq
theorem zero_eq {c : Nat} : ((⟨#[c]⟩ : Str) = "0") ↔ c = 48 := by
  have e : ("0" : Str) = ⟨#[48]⟩ := by decide +kernel
  rw [e]; exact sign_eq
theorem mzero_eq {l : List Nat} : ((⟨l.toArray⟩ : Str) = "-0") ↔ l = [45, 48] := by
  have e : ("-0" : Str) = ⟨[45, 48].toArray⟩ := by decide +kernel
  rw [e]
  constructor
  · intro h
    have := congrArg (fun x : Str => x.cps.toList) h
    simpa using this
  · intro h; rw [h]
theorem arr_eq {l m : List Nat} : ((⟨l.toArray⟩ : Str) = ⟨m.toArray⟩) ↔ l = m := ⟨fun h => by have := congrArg (fun x : Str => x.cps.toList) h; simpa using this, fun h => by rw [h]⟩
theorem figsOk_cons {c : Nat} {r : List Nat} : figsOk (c :: r) = true ↔ r.length + 1 ≤ 13 ∧ ¬ (c = 48 ∧ 1 < r.length + 1) ∧ (c :: r).all isDig = true := by
  unfold figsOk
  rw [List.length_cons]
  simp only [Bool.and_eq_true, decide_eq_true_eq, Bool.not_eq_true', decide_eq_false_iff_not, List.head?_cons, Option.some.injEq]
  constructor
  · rintro ⟨⟨⟨h1, h2⟩, h3⟩, h4⟩; exact ⟨h2, (fun z => (by rw [decide_eq_true z.1, decide_eq_true z.2] at h3; cases h3)), h4⟩
  · rintro ⟨h2, h3, h4⟩; exact ⟨⟨⟨by omega, h2⟩, by rw [← Bool.decide_and]; exact decide_eq_false h3⟩, h4⟩
theorem fig_int {f : List Nat} (h : figsOk f = true) : PySem.intText? ⟨f.toArray⟩ = some ((NumText.digitsVal f : Nat) : Int) ∧ f.length ≤ 13 := by
  unfold figsOk at h
  simp only [Bool.and_eq_true, decide_eq_true_eq] at h
  obtain ⟨⟨⟨h1, h2⟩, -⟩, h4⟩ := h
  refine ⟨?_, h2⟩
  have hd : NumText.AllDigits f := fun c hc => by
    have := List.all_eq_true.mp h4 c hc
    unfold isDig at this
    simpa using this
  have := intText_digits (x := ⟨f.toArray⟩) (by simpa using hd) (by intro z; simp at z; rw [z] at h1; simp at h1) (by show f.toArray.size ≤ 4300; simp; omega)
  simpa using this
open TL in
theorem tl_neg (n : Nat) : tl (Str.ofString (toString (Int.negSucc n))) = 45 :: numL (n + 1) := by
  have h := tl_num (n + 1)
  have e2 : toString (((n + 1 : Nat)) : Int) = Nat.repr (n + 1) := rfl
  rw [e2] at h
  have e : toString (Int.negSucc n) = "-" ++ Nat.repr (n + 1) := rfl
  rw [e, ← h, tl_ofString, tl_ofString, String.toList_append]
  rfl
open TL in
theorem numL_head (n : Nat) : 0 < n → (numL n).head? ≠ some 48 := by
  induction n using Nat.strongRecOn with
  | ind n ih =>
    intro h0
    by_cases h : n < 10
    · rw [numL_lt h]; simp; omega
    · rw [numL_step (by omega)]
      have h1 := ih (n / 10) (by omega) (by omega)
      rw [List.head?_append]
      cases hh : (numL (n / 10)).head? with
      | none => exact absurd (List.head?_eq_none_iff.mp hh) (numL_ne _)
      | some c => rw [hh] at h1; simpa using h1
open TL in
theorem figsOk_num {n : Nat} (h : n < 10 ^ 13) : figsOk (numL n) = true := by
  have hl := numL_len (k := 13) (by decide) h
  have hd : (numL n).all isDig = true := List.all_eq_true.mpr fun c hc => by
    have := numL_digits n c hc
    simp [isDig]; omega
  cases hn : numL n with
  | nil => exact absurd hn (numL_ne n)
  | cons c r =>
    rw [hn] at hl hd
    refine figsOk_cons.mpr ⟨hl, fun z => ?_, hd⟩
    rcases Nat.eq_zero_or_pos n with h0 | h0
    · subst h0
      rw [numL_lt (by decide)] at hn
      cases hn
      exact absurd z.2 (by decide)
    · have := numL_head n h0
      rw [hn] at this
      exact this (by rw [List.head?_cons, z.1])
open TL in
theorem figs_dig {l : List Nat} (h : ∀ c ∈ l, c ≠ 45) : figs l = l := by
  cases l with
  | nil => rfl
  | cons c r => exact if_neg fun z => h c List.mem_cons_self z.1
open TL in
theorem numOf_num {i : Int} (h1 : -(10 ^ 13) < i) (h2 : i < 10 ^ 13) : numOf (tl (Str.ofString (toString i))) = some i := by
  cases i with
  | ofNat n =>
    have h2 : n < 10 ^ 13 := by have := h2; simp at this; omega
    have e : tl (Str.ofString (toString (Int.ofNat n))) = numL n := tl_num n
    rw [e]
    have hf : figs (numL n) = numL n := figs_dig fun c hc => by have := numL_digits n c hc; omega
    unfold numOf
    rw [hf, if_pos (figsOk_num h2), if_pos rfl, numL_val]
    rfl
  | negSucc n =>
    have h1 : n + 1 < 10 ^ 13 := by have := h1; rw [Int.negSucc_eq] at this; simp at this; omega
    rw [tl_neg]
    have hz : ¬ numL (n + 1) = [48] := fun z => by
      have := numL_head (n + 1) (by omega)
      rw [z] at this; exact this rfl
    have hf : figs (45 :: numL (n + 1)) = numL (n + 1) := if_pos ⟨rfl, hz⟩
    unfold numOf
    rw [hf, if_pos (figsOk_num h1), if_neg (fun z => by have := congrArg List.length z; simp at this), numL_val, Int.negSucc_eq]
    congr 1
@[reducible] def numS (i : Int) : Str := Str.ofString (toString i)
def Small (i : Int) : Prop := -(10 ^ 13) < i ∧ i < 10 ^ 13
theorem Small.log {i : Int} (h : Small i) : i.natAbs.log2 < 1920 := by
  have h1 : i.natAbs < 2 ^ 1920 := Nat.lt_of_lt_of_le (m := 10 ^ 13) (by have := h.1; have := h.2; omega) (Nat.le_trans (show 10 ^ 13 ≤ 2 ^ 64 by decide) (Nat.pow_le_pow_right (by decide) (by decide)))
  by_cases h0 : i.natAbs = 0
  · rw [h0]; decide
  · exact (Nat.log2_lt h0).mpr h1
theorem numS_of {i : Int} (h : Small i) : numOf (TL.tl (numS i)) = some i := numOf_num h.1 h.2
theorem numS_len {i : Int} (h : Small i) : (numS i).length ≤ 14 := by
  rw [TL.len_tl]
  cases i with
  | ofNat n =>
    have e : TL.tl (numS (Int.ofNat n)) = TL.numL n := TL.tl_num n
    rw [e]
    exact Nat.le_trans (TL.numL_len (k := 13) (by decide) (by have := h.2; simp at this; omega)) (by decide)
  | negSucc n =>
    have e : TL.tl (numS (Int.negSucc n)) = 45 :: TL.numL (n + 1) := tl_neg n
    rw [e, List.length_cons]
    have := TL.numL_len (n := n + 1) (k := 13) (by decide) (by have := h.1; rw [Int.negSucc_eq] at this; simp at this; omega)
    omega
theorem sum_len : ∀ {l : List Int}, (∀ i ∈ l, Small i) → ((l.map numS).map (·.length)).sum ≤ 14 * l.length
  | [], _ => by simp
  | i :: l, h => by
    have h1 := numS_len (h i List.mem_cons_self)
    have h2 := sum_len (l := l) fun j hj => h j (List.mem_cons_of_mem _ hj)
    simp only [List.map_cons, List.sum_cons, List.length_cons]
    omega
/-- a part of a rule -/
@[reducible] def toP : Int ⊕ List Int → PyData
  | .inl i => .int i
  | .inr ds => .tuple (ds.map .int)
def daysS (ds : List Int) : Str := Txt.join "," (ds.map numS)
@[reducible] def partS : Int ⊕ List Int → Str
  | .inl i => numS i
  | .inr ds => daysS ds
def PartOk : Int ⊕ List Int → Prop
  | .inl i => Small i
  | .inr ds => (∀ d ∈ ds, Small d) ∧ ds.length ≤ 100
theorem numS_free {i : Int} {s : Nat} (h : s < 45 ∨ 57 < s) : s ∉ TL.tl (numS i) := by
  cases i with
  | ofNat n =>
    have e : TL.tl (numS (Int.ofNat n)) = TL.numL n := TL.tl_num n
    rw [e]; exact TL.numL_free (by omega)
  | negSucc n =>
    have e : TL.tl (numS (Int.negSucc n)) = 45 :: TL.numL (n + 1) := tl_neg n
    rw [e]
    intro z
    rcases List.mem_cons.mp z with z | z
    · omega
    · exact TL.numL_free (by omega) z
theorem joinL_len (S : List Nat) : ∀ ps : List (List Nat), (TL.joinL S ps).length ≤ (ps.map (·.length)).sum + ps.length * S.length
  | [] => by simp [TL.joinL]
  | [p] => by simp [TL.joinL]
  | p :: q :: r => by
    have h := joinL_len S (q :: r)
    have e : TL.joinL S (p :: q :: r) = p ++ S ++ TL.joinL S (q :: r) := by simp [TL.joinL]
    rw [e]
    simp only [List.length_append, List.map_cons, List.sum_cons, List.length_cons] at *
    rw [Nat.add_mul (r.length + 1) 1]
    omega
theorem join_len (y : Str) (parts : List Str) : (Txt.join y parts).length ≤ (parts.map (·.length)).sum + parts.length * y.length := by
  rw [TL.join_eq, TL.len_tl, TL.tl_join, TL.len_tl y]
  have := joinL_len (TL.tl y) (parts.map TL.tl)
  rw [List.map_map, List.length_map] at this
  have e : (parts.map ((·.length) ∘ TL.tl)) = parts.map (·.length) := List.map_congr_left fun x _ => (TL.len_tl x).symm
  rw [e] at this
  exact this
theorem daysS_split {ds : List Int} (h : ds ≠ []) : Txt.split (daysS ds) "," = ds.map numS :=
  TL.split_join (s := 44) (S := []) (by decide +kernel) (by decide +kernel) (fun z => h (List.map_eq_nil_iff.mp z)) fun p hp => by
    obtain ⟨d, -, rfl⟩ := List.mem_map.mp hp
    exact numS_free (by omega)
theorem daysS_len {ds : List Int} (h : ∀ d ∈ ds, Small d) (hl : ds.length ≤ 100) : (daysS ds).length ≤ 1500 := by
  have h1 := sum_len h
  have h2 := join_len "," (ds.map numS)
  rw [List.length_map] at h2
  have e : ("," : Str).length = 1 := by decide +kernel
  rw [e] at h2
  unfold daysS
  omega
theorem mk_tl' (x : Str) : (⟨(TL.tl x).toArray⟩ : Str) = x := by cases x; rfl
def DaysOk (ds : List Int) : Prop := ds ≠ [] ∧ (∀ d ∈ ds, Small d) ∧ ds.length ≤ 100
def SmallR : Rule → Prop
  | .once h n => Small h ∧ Small n
  | .every h n s => Small h ∧ Small n ∧ Small s
  | .week ds h n => DaysOk ds ∧ Small h ∧ Small n
  | .month d h n => Small d ∧ Small h ∧ Small n
  | .fr t r => Small t ∧ SmallR r | .un t r => Small t ∧ SmallR r | .al t r => Small t ∧ SmallR r | .bu ds r => DaysOk ds ∧ SmallR r
def wordsOf : Rule → List Str
  | .once h n => ["once", numS h, numS n]
  | .every h n s => ["every", numS h, numS n, numS s]
  | .week ds h n => ["week", daysS ds, numS h, numS n]
  | .month d h n => ["month", numS d, numS h, numS n]
  | .fr t r => "from" :: numS t :: wordsOf r
  | .un t r => "until" :: numS t :: wordsOf r
  | .al t r => "also" :: numS t :: wordsOf r
  | .bu ds r => "but" :: daysS ds :: wordsOf r
def textOf (r : Rule) : Str := Txt.join " " (wordsOf r)
theorem wordsOf_ne : ∀ r, wordsOf r ≠ []
  | .once .. | .every .. | .week .. | .month .. | .fr .. | .un .. | .al .. | .bu .. => by simp [wordsOf]
theorem daysS_free {ds : List Int} (h : ds ≠ []) : 32 ∉ TL.tl (daysS ds) := by
  have key : ∀ ps : List (List Nat), (∀ p ∈ ps, 32 ∉ p) → 32 ∉ TL.joinL [44] ps := by
    intro ps
    induction ps with
    | nil => intro _; simp [TL.joinL]
    | cons p r ih =>
      intro hp
      cases r with
      | nil => simpa [TL.joinL] using hp p List.mem_cons_self
      | cons q r =>
        have h1 := hp p List.mem_cons_self
        have h2 := ih fun z hz => hp z (List.mem_cons_of_mem _ hz)
        simp [TL.joinL, h1, h2]
  have e : TL.tl ("," : Str) = [44] := by decide +kernel
  unfold daysS
  rw [TL.join_eq, TL.tl_join, e]
  refine key _ fun p hp => ?_
  obtain ⟨x, hx, rfl⟩ := List.mem_map.mp hp
  obtain ⟨d, -, rfl⟩ := List.mem_map.mp hx
  exact numS_free (by omega)
theorem words_free : ∀ r, SmallR r → ∀ p ∈ wordsOf r, 32 ∉ TL.tl p
  | .once h n, _ => by
    intro p hp; simp [wordsOf] at hp
    rcases hp with rfl | rfl | rfl
    · decide +kernel
    all_goals exact numS_free (by omega)
  | .every h n s, _ => by
    intro p hp; simp [wordsOf] at hp
    rcases hp with rfl | rfl | rfl | rfl
    · decide +kernel
    all_goals exact numS_free (by omega)
  | .week ds h n, hs => by
    intro p hp; simp [wordsOf] at hp
    rcases hp with rfl | rfl | rfl | rfl
    · decide +kernel
    · exact daysS_free hs.1.1
    all_goals exact numS_free (by omega)
  | .month d h n, _ => by
    intro p hp; simp [wordsOf] at hp
    rcases hp with rfl | rfl | rfl | rfl
    · decide +kernel
    all_goals exact numS_free (by omega)
  | .fr t r, hs => by
    intro p hp; simp [wordsOf] at hp
    rcases hp with rfl | rfl | hp
    · decide +kernel
    · exact numS_free (by omega)
    · exact words_free r hs.2 p hp
  | .un t r, hs => by
    intro p hp; simp [wordsOf] at hp
    rcases hp with rfl | rfl | hp
    · decide +kernel
    · exact numS_free (by omega)
    · exact words_free r hs.2 p hp
  | .al t r, hs => by
    intro p hp; simp [wordsOf] at hp
    rcases hp with rfl | rfl | hp
    · decide +kernel
    · exact numS_free (by omega)
    · exact words_free r hs.2 p hp
  | .bu ds r, hs => by
    intro p hp; simp [wordsOf] at hp
    rcases hp with rfl | rfl | hp
    · decide +kernel
    · exact daysS_free hs.1.1
    · exact words_free r hs.2 p hp
theorem text_split {r : Rule} (h : SmallR r) : Txt.split (textOf r) " " = wordsOf r :=
  TL.split_join (s := 32) (S := []) (by decide +kernel) (by decide +kernel) (wordsOf_ne r) (words_free r h)
theorem words_len : ∀ r, SmallR r → ((wordsOf r).map (·.length)).sum ≤ 1600 * (depth r + 1) ∧ (wordsOf r).length ≤ 2 * depth r + 4
  | .once h n, hs => by
    have := numS_len hs.1; have := numS_len hs.2
    have e : ("once" : Str).length = 4 := by decide +kernel
    simp [wordsOf, e]; omega
  | .every h n s, hs => by
    have := numS_len hs.1; have := numS_len hs.2.1; have := numS_len hs.2.2
    have e : ("every" : Str).length = 5 := by decide +kernel
    simp [wordsOf, e]; omega
  | .week ds h n, hs => by
    have := daysS_len hs.1.2.1 hs.1.2.2; have := numS_len hs.2.1; have := numS_len hs.2.2
    have e : ("week" : Str).length = 4 := by decide +kernel
    simp [wordsOf, e]; omega
  | .month d h n, hs => by
    have := numS_len hs.1; have := numS_len hs.2.1; have := numS_len hs.2.2
    have e : ("month" : Str).length = 5 := by decide +kernel
    simp [wordsOf, e]; omega
  | .fr t r, hs => by
    have := numS_len hs.1; have h2 := words_len r hs.2
    have e : ("from" : Str).length = 4 := by decide +kernel
    simp [wordsOf, e]; omega
  | .un t r, hs => by
    have := numS_len hs.1; have h2 := words_len r hs.2
    have e : ("until" : Str).length = 5 := by decide +kernel
    simp [wordsOf, e]; omega
  | .al t r, hs => by
    have := numS_len hs.1; have h2 := words_len r hs.2
    have e : ("also" : Str).length = 4 := by decide +kernel
    simp [wordsOf, e]; omega
  | .bu ds r, hs => by
    have := daysS_len hs.1.2.1 hs.1.2.2; have h2 := words_len r hs.2
    have e : ("but" : Str).length = 3 := by decide +kernel
    simp [wordsOf, e]; omega
abbrev Part3 := Str ⊕ (Int ⊕ List Int)
/-- a part as the law takes it -/
@[reducible] def toP3 : Str ⊕ (Int ⊕ List Int) → PyData
  | .inl x => .str x
  | .inr q => toP q
@[reducible] def partS3 : Str ⊕ (Int ⊕ List Int) → Str
  | .inl x => x
  | .inr q => partS q
def PartOk3 : Str ⊕ (Int ⊕ List Int) → Prop
  | .inl _ => True
  | .inr q => PartOk q
/-- of one that bears, its own words -/
def partsOf : Rule → List (Str ⊕ (Int ⊕ List Int))
  | .once h n => [.inl "once", .inr (.inl h), .inr (.inl n)]
  | .every h n s => [.inl "every", .inr (.inl h), .inr (.inl n), .inr (.inl s)]
  | .week ds h n => [.inl "week", .inr (.inr ds), .inr (.inl h), .inr (.inl n)]
  | .month d h n => [.inl "month", .inr (.inl d), .inr (.inl h), .inr (.inl n)]
  | .fr t _ => [.inl "from", .inr (.inl t)] | .un t _ => [.inl "until", .inr (.inl t)] | .al t _ => [.inl "also", .inr (.inl t)] | .bu ds _ => [.inl "but", .inr (.inr ds)]
theorem parts_ok : ∀ r, SmallR r → ∀ p ∈ partsOf r, PartOk3 p
  | .once .., h => by intro p hp; simp [partsOf] at hp; rcases hp with rfl | rfl | rfl <;> first | exact trivial | exact h.1 | exact h.2
  | .every .., h => by intro p hp; simp [partsOf] at hp; rcases hp with rfl | rfl | rfl | rfl <;> first | exact trivial | exact h.1 | exact h.2.1 | exact h.2.2
  | .week .., h => by intro p hp; simp [partsOf] at hp; rcases hp with rfl | rfl | rfl | rfl <;> first | exact trivial | exact h.1.2 | exact h.2.1 | exact h.2.2
  | .month .., h => by intro p hp; simp [partsOf] at hp; rcases hp with rfl | rfl | rfl | rfl <;> first | exact trivial | exact h.1 | exact h.2.1 | exact h.2.2
  | .fr .., h => by intro p hp; simp [partsOf] at hp; rcases hp with rfl | rfl <;> first | exact trivial | exact h.1
  | .un .., h => by intro p hp; simp [partsOf] at hp; rcases hp with rfl | rfl <;> first | exact trivial | exact h.1
  | .al .., h => by intro p hp; simp [partsOf] at hp; rcases hp with rfl | rfl <;> first | exact trivial | exact h.1
  | .bu .., h => by intro p hp; simp [partsOf] at hp; rcases hp with rfl | rfl <;> first | exact trivial | exact h.1.2
def headW (q : Rule) : List Str := (partsOf q).map partS3
theorem heads_words : ∀ r, (heads r).flatMap headW = wordsOf r
  | .once .. | .every .. | .week .. | .month .. => by simp [heads, headW, partsOf, wordsOf]
  | .fr _ r | .un _ r | .al _ r | .bu _ r => by simp [heads, headW, partsOf, wordsOf, heads_words r]
theorem heads_small : ∀ r, SmallR r → ∀ q ∈ heads r, SmallR q
  | .once .., h | .every .., h | .week .., h | .month .., h => by simpa [heads] using h
  | .fr _ r, h | .un _ r, h | .al _ r, h | .bu _ r, h => by
    simp only [heads, List.mem_cons, forall_eq_or_imp]
    exact ⟨h, heads_small r h.2⟩
def rebuild (hs : List (Str × PyData)) (x : PyData) : PyData := hs.foldr (fun h acc => .tuple [.str h.1, h.2, acc]) x

theorem rep_int {i : Int} (h : Small i) : PyData.showable (.int i) = true ∧ (PyData.shown (.int i)).length ≤ 14 := by
  refine ⟨by simp only [PyData.showable]; exact decide_eq_true h.log, ?_⟩
  have : PyData.shown (.int i) = numS i := by simp only [PyData.shown]
  rw [this]; exact numS_len h
theorem rep_ints : ∀ {ds : List Int}, (∀ d ∈ ds, Small d) → PyData.showableAll (ds.map .int) = true ∧ PyData.hasDictAll (ds.map .int) = false ∧ piled (PyData.shownAll (ds.map .int)) ≤ 16 * ds.length
  | [], _ => by simp [PyData.showableAll, PyData.hasDictAll, PyData.shownAll, piled_nil]
  | i :: l, h => by
    have h1 := rep_int (h i List.mem_cons_self)
    obtain ⟨a, b, c⟩ := rep_ints (ds := l) fun j hj => h j (List.mem_cons_of_mem _ hj)
    refine ⟨?_, ?_, ?_⟩
    · simp only [List.map_cons, PyData.showableAll, h1.1, a, Bool.and_self]
    · simp only [List.map_cons, PyData.hasDictAll, PyData.hasDict, b, Bool.or_self]
    · simp only [List.map_cons, PyData.shownAll, piled_cons, List.length_cons]; have := h1.2; omega
theorem rep_days {ds : List Int} (h : DaysOk ds) : PyData.showable (.tuple (ds.map .int)) = true ∧ PyData.hasDict (.tuple (ds.map .int)) = false ∧ PyData.depth (.tuple (ds.map .int)) ≤ 1 + 1 ∧ (PyData.shown (.tuple (ds.map .int))).length ≤ 1603 := by
  obtain ⟨a, b, c⟩ := rep_ints h.2.1
  have hd := depth_ints ds
  refine ⟨by simpa only [PyData.showable] using a, by simpa only [PyData.hasDict] using b, by simp only [PyData.depth]; omega, ?_⟩
  have e : PyData.shown (.tuple (ds.map .int)) = tupleText (PyData.shownAll (ds.map .int)) := by simp only [PyData.shown]
  rw [e]
  have := tup_len (PyData.shownAll (ds.map .int)); have := h.2.2; omega
def Rep (x : PyData) (n d : Nat) : Prop := PyData.showable x = true ∧ PyData.hasDict x = false ∧ PyData.depth x ≤ d ∧ (PyData.shown x).length ≤ n
theorem Rep.int {i : Int} (h : Small i) (d : Nat) : Rep (.int i) 14 d := ⟨(rep_int h).1, by simp only [PyData.hasDict], by simp [PyData.depth], (rep_int h).2⟩
theorem Rep.word {w : Str} (h : (PyData.shown (.str w)).length ≤ 14) (d : Nat) : Rep (.str w) 14 d := ⟨by simp only [PyData.showable], by simp only [PyData.hasDict], by simp [PyData.depth], h⟩
theorem Rep.days {ds : List Int} (h : DaysOk ds) {d : Nat} (hd : 2 ≤ d) : Rep (.tuple (ds.map .int)) 1603 d := ⟨(rep_days h).1, (rep_days h).2.1, Nat.le_trans (rep_days h).2.2.1 hd, (rep_days h).2.2.2⟩
theorem Rep.tup3 {a b c : PyData} {n1 n2 n3 d : Nat} (h1 : Rep a n1 d) (h2 : Rep b n2 d) (h3 : Rep c n3 d) : Rep (.tuple [a, b, c]) (n1 + n2 + n3 + 9) (d + 1) := by
  obtain ⟨p1, p2, p3, p4⟩ := h1
  obtain ⟨q1, q2, q3, q4⟩ := h2
  obtain ⟨r1, r2, r3, r4⟩ := h3
  refine ⟨by simp only [PyData.showable, PyData.showableAll, p1, q1, r1, Bool.and_self], by simp only [PyData.hasDict, PyData.hasDictAll, p2, q2, r2, Bool.or_self], by simp only [PyData.depth, PyData.depthAll]; omega, ?_⟩
  have e : PyData.shown (.tuple [a, b, c]) = tupleText [a.shown, b.shown, c.shown] := by simp only [PyData.shown, PyData.shownAll]
  rw [e]
  have := tup_len [a.shown, b.shown, c.shown]
  simp only [piled_cons, piled_nil] at this
  omega
theorem Rep.tup4 {a b c f : PyData} {n1 n2 n3 n4 d : Nat} (h1 : Rep a n1 d) (h2 : Rep b n2 d) (h3 : Rep c n3 d) (h4 : Rep f n4 d) : Rep (.tuple [a, b, c, f]) (n1 + n2 + n3 + n4 + 11) (d + 1) := by
  obtain ⟨p1, p2, p3, p4⟩ := h1
  obtain ⟨q1, q2, q3, q4⟩ := h2
  obtain ⟨r1, r2, r3, r4⟩ := h3
  obtain ⟨s1, s2, s3, s4⟩ := h4
  refine ⟨by simp only [PyData.showable, PyData.showableAll, p1, q1, r1, s1, Bool.and_self], by simp only [PyData.hasDict, PyData.hasDictAll, p2, q2, r2, s2, Bool.or_self], by simp only [PyData.depth, PyData.depthAll]; omega, ?_⟩
  have e : PyData.shown (.tuple [a, b, c, f]) = tupleText [a.shown, b.shown, c.shown, f.shown] := by simp only [PyData.shown, PyData.shownAll]
  rw [e]
  have := tup_len [a.shown, b.shown, c.shown, f.shown]
  simp only [piled_cons, piled_nil] at this
  omega
theorem Rep.le {x : PyData} {n m d e : Nat} (h : Rep x n d) (h1 : n ≤ m) (h2 : d ≤ e) : Rep x m e := ⟨h.1, h.2.1, Nat.le_trans h.2.2.1 h2, Nat.le_trans h.2.2.2 h1⟩
theorem rep_ok : ∀ r, SmallR r → Rep (toD r) (2000 * (depth r + 1)) (depth r + 3)
  | .once h n, hs => (Rep.tup3 (d := 2) (Rep.word (by decide +kernel) _) (Rep.int hs.1 _) (Rep.int hs.2 _)).le (by simp [depth]) (by simp [depth])
  | .every h n s, hs => (Rep.tup4 (d := 2) (Rep.word (by decide +kernel) _) (Rep.int hs.1 _) (Rep.int hs.2.1 _) (Rep.int hs.2.2 _)).le (by simp [depth]) (by simp [depth])
  | .week ds h n, hs => (Rep.tup4 (d := 2) (Rep.word (by decide +kernel) _) (Rep.days hs.1 (Nat.le_refl _)) (Rep.int hs.2.1 _) (Rep.int hs.2.2 _)).le (by simp [depth]) (by simp [depth])
  | .month d h n, hs => (Rep.tup4 (d := 2) (Rep.word (by decide +kernel) _) (Rep.int hs.1 _) (Rep.int hs.2.1 _) (Rep.int hs.2.2 _)).le (by simp [depth]) (by simp [depth])
  | .fr t r, hs => (Rep.tup3 (Rep.word (by decide +kernel) _) (Rep.int hs.1 _) (rep_ok r hs.2)).le (by simp [depth]; omega) (by simp [depth])
  | .un t r, hs => (Rep.tup3 (Rep.word (by decide +kernel) _) (Rep.int hs.1 _) (rep_ok r hs.2)).le (by simp [depth]; omega) (by simp [depth])
  | .al t r, hs => (Rep.tup3 (Rep.word (by decide +kernel) _) (Rep.int hs.1 _) (rep_ok r hs.2)).le (by simp [depth]; omega) (by simp [depth])
  | .bu ds r, hs => (Rep.tup3 (Rep.word (by decide +kernel) _) (Rep.days hs.1 (by omega)) (rep_ok r hs.2)).le (by simp [depth]; omega) (by simp [depth])

def timeOf (c : Int) : Int := ([c / 3 % 200, c / 3 % 1000000000000, 1000000000000 - 1 - c / 3 % 3] : List Int).getD (c % 3).toNat 0
theorem timeOf_in (c : Int) : 0 ≤ timeOf c ∧ timeOf c < 1000000000000 := by
  have h3 : c % 3 = 0 ∨ c % 3 = 1 ∨ c % 3 = 2 := by omega
  unfold timeOf
  rcases h3 with h | h | h <;> rw [h] <;> simp <;> omega
def InT (i : Int) : Prop := 0 ≤ i ∧ i < 1000000000000
def InL (n : Int) : Prop := 1 ≤ n ∧ n ≤ 48
/-- within the bounds -/
def GoodR : Rule → Prop
  | .once h n => InT h ∧ InL n
  | .every h n s => InT h ∧ InL n ∧ 1 ≤ s ∧ s ≤ 1000000
  | .week ds h n => (rowB (.tuple (ds.map .int)) 7 7 = true ∧ DaysOk ds) ∧ (0 ≤ h ∧ h ≤ 23) ∧ InL n
  | .month d h n => ((-31 ≤ d ∧ d ≤ 31) ∧ d ≠ 0) ∧ (0 ≤ h ∧ h ≤ 23) ∧ InL n
  | .fr t r => InT t ∧ GoodR r | .un t r => InT t ∧ GoodR r | .al t r => InT t ∧ GoodR r
  | .bu ds r => (rowB (.tuple (ds.map .int)) 100000000000 20 = true ∧ DaysOk ds) ∧ GoodR r
theorem small_of {i : Int} (h1 : -1000000000000 ≤ i) (h2 : i ≤ 1000000000000) : Small i := ⟨by show -(10000000000000 : Int) < i; omega, by show i < (10000000000000 : Int); omega⟩
theorem GoodR.small : ∀ {r : Rule}, GoodR r → SmallR r
  | .once .., h => ⟨small_of (by have := h.1.1; omega) (by have := h.1.2; omega), small_of (by have := h.2.1; omega) (by have := h.2.2; omega)⟩
  | .every .., h => ⟨small_of (by have := h.1.1; omega) (by have := h.1.2; omega), small_of (by have := h.2.1.1; omega) (by have := h.2.1.2; omega), small_of (by have := h.2.2.1; omega) (by have := h.2.2.2; omega)⟩
  | .week .., h => ⟨h.1.2, small_of (by have := h.2.1.1; omega) (by have := h.2.1.2; omega), small_of (by have := h.2.2.1; omega) (by have := h.2.2.2; omega)⟩
  | .month .., h => ⟨small_of (by have := h.1.1.1; omega) (by have := h.1.1.2; omega), small_of (by have := h.2.1.1; omega) (by have := h.2.1.2; omega), small_of (by have := h.2.2.1; omega) (by have := h.2.2.2; omega)⟩
  | .fr .., h | .un .., h | .al .., h => ⟨small_of (by have := h.1.1; omega) (by have := h.1.2; omega), GoodR.small h.2⟩
  | .bu .., h => ⟨h.1.2, GoodR.small h.2⟩
theorem bearW (w : Str) (h : inD (.str w) BEARD = true) (n : Nat) (a b : PyData) : ruleB (n + 1) (.tuple [.str w, a, b]) = ((if w = "but" then rowB a 100000000000 20 else isTime a) && ruleB n b) := by
  show (if inD (.str w) BEARD = true then _ else _) = _
  rw [if_pos h]
theorem plainW (w : Str) (h : ¬ inD (.str w) BEARD = true) (n : Nat) (a b : PyData) (rest : List PyData) : ruleB (n + 1) (.tuple (.str w :: a :: b :: rest)) = plainB w a b rest := by
  show (if inD (.str w) BEARD = true then _ else _) = _
  rw [if_neg h]
theorem time_ok {i : Int} (h : InT i) : isTime (.int i) = true := by simp only [isTime, isBetween]; rw [← Bool.decide_and]; exact decide_eq_true ⟨h.1, by have := h.2; omega⟩
theorem len_ok {i : Int} (h : InL i) : isLen (.int i) = true := by simp only [isLen, isBetween]; rw [← Bool.decide_and]; exact decide_eq_true ⟨h.1, h.2⟩
theorem betw_ok {i lo hi : Int} (h1 : lo ≤ i) (h2 : i ≤ hi) : isBetween (.int i) lo hi = true := by simp only [isBetween]; rw [← Bool.decide_and]; exact decide_eq_true ⟨h1, h2⟩
theorem ruleB_good : ∀ {r : Rule} (n : Nat), GoodR r → depth r < n → ruleB n (toD r) = true
  | .once h m, n + 1, g, _ => by
    show ruleB (n + 1) (.tuple (.str "once" :: .int h :: .int m :: [])) = true
    rw [plainW "once" (by decide +kernel)]
    simp [plainB, time_ok g.1, len_ok g.2]
  | .every h m s, n + 1, g, _ => by
    show ruleB (n + 1) (.tuple (.str "every" :: .int h :: .int m :: [.int s])) = true
    rw [plainW "every" (by decide +kernel)]
    have e : ¬ ("every" : Str) = "once" := by decide +kernel
    simp [plainB, time_ok g.1, len_ok g.2.1, betw_ok g.2.2.1 g.2.2.2, e]
  | .week ds h m, n + 1, g, _ => by
    show ruleB (n + 1) (.tuple (.str "week" :: .tuple (ds.map .int) :: .int h :: [.int m])) = true
    rw [plainW "week" (by decide +kernel)]
    have e : ¬ ("week" : Str) = "once" := by decide +kernel
    have e2 : ¬ ("week" : Str) = "every" := by decide +kernel
    simp [plainB, g.1.1, len_ok g.2.2, betw_ok g.2.1.1 g.2.1.2, e, e2]
  | .month d h m, n + 1, g, _ => by
    show ruleB (n + 1) (.tuple (.str "month" :: .int d :: .int h :: [.int m])) = true
    rw [plainW "month" (by decide +kernel)]
    have e : ¬ ("month" : Str) = "once" := by decide +kernel
    have e2 : ¬ ("month" : Str) = "every" := by decide +kernel
    have e3 : ¬ ("month" : Str) = "week" := by decide +kernel
    simp [plainB, len_ok g.2.2, betw_ok g.2.1.1 g.2.1.2, betw_ok g.1.1.1 g.1.1.2, e, e2, e3, intOf, g.1.2]
  | .fr t r, n + 1, g, hd => by
    have e : ¬ ("from" : Str) = "but" := by decide +kernel
    have hd : depth r < n := Nat.lt_of_succ_lt_succ hd
    rw [show toD (.fr t r) = .tuple [.str "from", .int t, toD r] from rfl, bearW "from" (by decide +kernel), if_neg e, time_ok g.1, ruleB_good n g.2 hd]; rfl
  | .un t r, n + 1, g, hd => by
    have e : ¬ ("until" : Str) = "but" := by decide +kernel
    have hd : depth r < n := Nat.lt_of_succ_lt_succ hd
    rw [show toD (.un t r) = .tuple [.str "until", .int t, toD r] from rfl, bearW "until" (by decide +kernel), if_neg e, time_ok g.1, ruleB_good n g.2 hd]; rfl
  | .al t r, n + 1, g, hd => by
    have e : ¬ ("also" : Str) = "but" := by decide +kernel
    have hd : depth r < n := Nat.lt_of_succ_lt_succ hd
    rw [show toD (.al t r) = .tuple [.str "also", .int t, toD r] from rfl, bearW "also" (by decide +kernel), if_neg e, time_ok g.1, ruleB_good n g.2 hd]; rfl
  | .bu ds r, n + 1, g, hd => by
    have hd : depth r < n := Nat.lt_of_succ_lt_succ hd
    rw [show toD (.bu ds r) = .tuple [.str "but", .tuple (ds.map .int), toD r] from rfl, bearW "but" (by decide +kernel), if_pos rfl, g.1.1, ruleB_good n g.2 hd]; rfl
theorem wd_good {b : Int} (h1 : 1 ≤ b) (h2 : b ≤ 127) : rowB (.tuple ((wd b).map .int)) 7 7 = true ∧ (∀ d ∈ wd b, 0 ≤ d ∧ d ≤ 6) ∧ (wd b).length ≤ 7 := by
  have h : ∀ n : Fin 127, rowB (.tuple ((wd (1 + (n.1 : Int))).map .int)) 7 7 = true ∧ (∀ d ∈ wd (1 + (n.1 : Int)), 0 ≤ d ∧ d ≤ 6) ∧ (wd (1 + (n.1 : Int))).length ≤ 7 := by decide +kernel
  have := h ⟨(b - 1).toNat, by omega⟩
  rwa [show (1 : Int) + (((b - 1).toNat : Nat) : Int) = b by omega] at this
theorem rowGo_steps (below s : Int) (hs : 1 ≤ s) : ∀ (m : Nat) (d last : Int), last < d → d + (m : Int) * s ≤ below → rowGo below last (((List.range m).map fun k : Nat => d + (0 + (k : Int)) * s).map .int) = true
  | 0, _, _, _, _ => rfl
  | m + 1, d, last, h1, h2 => by
    have h2 : d + ((m : Int) + 1) * s ≤ below := by simpa using h2
    rw [Int.add_mul, Int.one_mul] at h2
    have hm : 0 ≤ (m : Int) * s := Int.mul_nonneg (by omega) (by omega)
    have ih := rowGo_steps below s hs m (d + s) d (by omega) (by omega)
    rw [List.range_succ_eq_map, List.map_cons, List.map_map (l := List.range m), List.map_cons]
    have e : ((fun k : Nat => d + (0 + (k : Int)) * s) ∘ Nat.succ) = fun k : Nat => (d + s) + (0 + (k : Int)) * s := by
      funext k
      show d + (0 + ((k + 1 : Nat) : Int)) * s = _
      rw [show (0 + ((k + 1 : Nat) : Int)) = (0 + (k : Int)) + 1 by omega, Int.add_mul]; omega
    rw [e]
    have e0 : d + (0 + ((0 : Nat) : Int)) * s = d := by simp
    rw [e0]
    show (isBetween (.int d) (last + 1) (below - 1) && rowGo below (intOf (.int d)) _) = true
    rw [betw_ok (by omega) (by omega)]
    exact ih

/-! reading of any text -/
def allO {α β : Type} (f : α → Option β) : List α → Option (List β)
  | [] => some []
  | x :: xs => match f x, allO f xs with
    | some y, some ys => some (y :: ys)
    | _, _ => none
theorem allO_some {α β : Type} {f : α → Option β} : ∀ {xs : List α} {ys : List β}, allO f xs = some ys → xs.map f = ys.map some
  | [], ys, h => by cases h; rfl
  | x :: xs, ys, h => by
    unfold allO at h
    split at h
    · rename_i y zs h1 h2
      cases h
      rw [List.map_cons, List.map_cons, h1, allO_some h2]
    · cases h
theorem allO_none {α β : Type} {f : α → Option β} : ∀ {xs : List α}, allO f xs = none → ∃ n y0, xs[n]? = some y0 ∧ f y0 = none ∧ ∀ y ∈ xs.take n, ∃ z, f y = some z
  | [], h => by cases h
  | x :: xs, h => by
    cases h1 : f x with
    | none => exact ⟨0, x, rfl, h1, by simp⟩
    | some y =>
      have h2 : allO f xs = none := by
        unfold allO at h
        rw [h1] at h
        cases h2 : allO f xs with
        | none => rfl
        | some ys => rw [h2] at h; cases h
      obtain ⟨n, y0, e1, e2, e3⟩ := allO_none h2
      refine ⟨n + 1, y0, by simpa using e1, e2, ?_⟩
      intro z hz
      rw [List.take_succ_cons] at hz
      rcases List.mem_cons.mp hz with rfl | hz
      · exact ⟨y, h1⟩
      · exact e3 z hz
def numO (w : Str) : Option Int := numOf (TL.tl w)
def daysO (w : Str) : Option (List Int) := allO numO (Txt.split w ",")
def daysR (C : Addr) (w : Str) : Res := match daysO w with
  | some ds => .ok (.tuple (ds.map .int))
  | none => .err C
def partO (w : Str) (k : Nat) (x : Str) : Option PyData := if w = "week" ∧ k = 0 then (daysO x).map (fun ds => .tuple (ds.map .int)) else (numO x).map .int
def restO (w : Str) : Nat → List Str → Option (List PyData)
  | _, [] => some []
  | k, x :: xs => match partO w k x, restO w (k + 1) xs with
    | some y, some ys => some (y :: ys)
    | _, _ => none
theorem restO_snoc (w x : Str) : ∀ (xs : List Str) (k : Nat), restO w k (xs ++ [x]) = (match restO w k xs, partO w (k + xs.length) x with
    | some ys, some y => some (ys ++ [y])
    | _, _ => none)
  | [], k => by
    show (match partO w k x, some [] with | some y, some ys => some (y :: ys) | _, _ => none) = _
    cases h : partO w k x <;> simp [restO, h]
  | z :: xs, k => by
    have ih := restO_snoc w x xs (k + 1)
    rw [List.cons_append]
    unfold restO
    rw [ih, List.length_cons, show k + 1 + xs.length = k + (xs.length + 1) by omega]
    cases partO w k z <;> cases restO w (k + 1) xs <;> cases partO w (k + (xs.length + 1)) x <;> simp
theorem restO_app {w : Str} {ys : List Str} : ∀ {xs : List Str} {k : Nat}, restO w k xs = none → restO w k (xs ++ ys) = none
  | [], k, h => by cases h
  | x :: xs, k, h => by
    rw [List.cons_append]
    unfold restO at h ⊢
    cases h1 : partO w k x with
    | none => rfl
    | some y =>
      rw [h1] at h
      have h2 : restO w (k + 1) xs = none := by
        cases h2 : restO w (k + 1) xs with
        | none => rfl
        | some ys => rw [h2] at h; cases h
      rw [restO_app h2]
theorem restO_len {w : Str} : ∀ {xs : List Str} {k : Nat} {ds : List PyData}, restO w k xs = some ds → ds.length = xs.length
  | [], k, ds, h => by cases h; rfl
  | x :: xs, k, ds, h => by
    unfold restO at h
    split at h
    · rename_i y ys h1 h2
      cases h
      rw [List.length_cons, List.length_cons, restO_len h2]
    · cases h
def plainO : List Str → Option PyData
  | [] => none
  | w :: r => (restO w 0 r).map fun ds => .tuple (.str w :: ds)
def plainR (C : Addr) (ws : List Str) : Res := match plainO ws with
  | some d => .ok d
  | none => .err C
def headO (w x : Str) : Option PyData := if w = "but" then (daysO x).map (fun ds => .tuple (ds.map .int)) else (numO x).map .int
def readO : List Str → Option PyData
  | w :: x :: y :: r => if inD (.str w) BEARD = true then (match headO w x, readO (y :: r) with
      | some p, some d => some (.tuple [.str w, p, d])
      | _, _ => none) else plainO (w :: x :: y :: r)
  | ws => plainO ws
theorem readO_bear {w x y : Str} {r : List Str} (h : inD (.str w) BEARD = true) : readO (w :: x :: y :: r) = (match headO w x, readO (y :: r) with
      | some p, some d => some (.tuple [.str w, p, d])
      | _, _ => none) := by
  rw [readO, if_pos h]
theorem readO_plain {w x y : Str} {r : List Str} (h : ¬ inD (.str w) BEARD = true) : readO (w :: x :: y :: r) = plainO (w :: x :: y :: r) := by
  rw [readO, if_neg h]
def readR (C : Addr) (t : Str) : Res := match readO (Txt.split t " ") with
  | some d => if ruleB 8 d = true then .ok d else .err C
  | none => .err C
theorem readR_none {C : Addr} {t : Str} (h : readO (Txt.split t " ") = none) : readR C t = .err C := by unfold readR; rw [h]
theorem readR_some {C : Addr} {t : Str} {d : PyData} (h : readO (Txt.split t " ") = some d) : readR C t = if ruleB 8 d = true then .ok d else .err C := by unfold readR; rw [h]
theorem numR_err' {C : Addr} {l : List Nat} (h : numOf l = none) : numR C l = .err C := by unfold numR; rw [h]
theorem spl_facts (S : List Nat) : ∀ (r : List Nat) (k : Nat) (acc : List Nat), TL.spl S k acc r ≠ [] ∧ (TL.spl S k acc r).length ≤ r.length + 1 ∧ ∀ p ∈ TL.spl S k acc r, p.length ≤ acc.length + r.length
  | [], k, acc => by rw [TL.spl_nil]; simp
  | c :: r, 0, acc => by
    by_cases h : TL.pre S (c :: r) = true
    · rw [TL.spl_hit h]
      obtain ⟨h1, h2, h3⟩ := spl_facts S r (S.length - 1) []
      refine ⟨by simp, by simp; omega, fun p hp => ?_⟩
      rcases List.mem_cons.mp hp with rfl | hp
      · omega
      · have := h3 p hp; simp at this ⊢; omega
    · have e : TL.spl S 0 acc (c :: r) = TL.spl S 0 (acc ++ [c]) r := if_neg h
      rw [e]
      obtain ⟨h1, h2, h3⟩ := spl_facts S r 0 (acc ++ [c])
      refine ⟨h1, by simp; omega, fun p hp => ?_⟩
      have := h3 p hp; simp at this ⊢; omega
  | c :: r, k + 1, acc => by
    have e : TL.spl S (k + 1) acc (c :: r) = TL.spl S k acc r := rfl
    rw [e]
    obtain ⟨h1, h2, h3⟩ := spl_facts S r k acc
    exact ⟨h1, by simp; omega, fun p hp => by have := h3 p hp; simp; omega⟩
theorem split_facts {y : Str} (x : Str) (hy : TL.tl y ≠ []) (hk : y.cps.all (· < 256) = true) : Txt.split x y ≠ [] ∧ (Txt.split x y).length ≤ x.length + 1 ∧ ∀ p ∈ Txt.split x y, p.length ≤ x.length := by
  have h := TL.split_spl x y hy (TL.kind_ok hk)
  obtain ⟨h1, h2, h3⟩ := spl_facts (TL.tl y) (TL.tl x) 0 []
  rw [← h] at h1 h2 h3
  refine ⟨fun z => h1 (by rw [z]; rfl), by rw [List.length_map, ← TL.len_tl] at h2; exact h2, fun p hp => ?_⟩
  have := h3 (TL.tl p) (List.mem_map_of_mem hp)
  rw [TL.len_tl, TL.len_tl x]
  simpa using this
theorem split_comma (x : Str) : Txt.split x "," ≠ [] ∧ (Txt.split x ",").length ≤ x.length + 1 ∧ ∀ p ∈ Txt.split x ",", p.length ≤ x.length := split_facts x (by decide +kernel) (by decide +kernel)
theorem split_blank (x : Str) : Txt.split x " " ≠ [] ∧ (Txt.split x " ").length ≤ x.length + 1 ∧ ∀ p ∈ Txt.split x " ", p.length ≤ x.length := split_facts x (by decide +kernel) (by decide +kernel)

/-! the law's own reading -/
def nf (l : List Nat) : List Nat := match l with
  | [] => []
  | c :: r => if c = 45 then r else c :: r
theorem nf_len (l : List Nat) : (nf l).length ≤ l.length := by
  cases l with
  | nil => exact Nat.le_refl _
  | cons c r => show (if c = 45 then r else c :: r).length ≤ _; split <;> simp
def lawNum (l : List Nat) : PyData :=
  if nf l = [] ∨ 40 < (nf l).length ∨ (nf l).all isDig = false then .none
  else if (nf l).head? = some 48 ∧ ¬ l = [48] then .none else .int (((NumText.digitsVal (nf l) : Nat) : Int) * (1 - 2 * (if ¬ nf l = l then 1 else 0)))
def lawN (w : Str) : PyData := lawNum (TL.tl w)
def badN : PyData → Prop
  | .none => True
  | .int i => 10000000000000 ≤ i ∨ i ≤ -10000000000000
  | _ => False
theorem fold_big : ∀ (r : List Nat) (a : Nat), a * 10 ^ r.length ≤ r.foldl (fun acc c => acc * 10 + (c - 48)) a
  | [], a => by simp
  | c :: r, a => by
    rw [List.foldl_cons, List.length_cons, Nat.pow_succ]
    refine Nat.le_trans ?_ (fold_big r (a * 10 + (c - 48)))
    rw [Nat.add_mul, Nat.mul_comm (10 ^ r.length) 10, ← Nat.mul_assoc]
    exact Nat.le_add_right _ _
theorem digits_big {c : Nat} {r : List Nat} (h1 : 49 ≤ c) (h2 : 13 ≤ r.length) : 10 ^ 13 ≤ NumText.digitsVal (c :: r) := by
  have h : (0 * 10 + (c - 48)) * 10 ^ r.length ≤ NumText.digitsVal (c :: r) := fold_big r (0 * 10 + (c - 48))
  refine Nat.le_trans (Nat.pow_le_pow_right (by decide) h2) (Nat.le_trans ?_ h)
  exact Nat.le_mul_of_pos_left _ (by omega)
theorem figs_nf {l : List Nat} (h : ¬ l = [45, 48]) : figs l = nf l := by
  cases l with
  | nil => rfl
  | cons c r =>
    show (if c = 45 ∧ ¬ r = [48] then r else c :: r) = if c = 45 then r else c :: r
    by_cases hc : c = 45
    · have hr : ¬ r = [48] := fun z => h (by rw [hc, z])
      rw [if_pos ⟨hc, hr⟩, if_pos hc]
    · rw [if_neg fun z => hc z.1, if_neg hc]
theorem figsOk_iff {f : List Nat} : figsOk f = true ↔ (f ≠ [] ∧ f.length ≤ 13 ∧ f.all isDig = true ∧ ¬ (f.head? = some 48 ∧ 1 < f.length)) := by
  unfold figsOk
  simp only [Bool.and_eq_true, decide_eq_true_eq, Bool.not_eq_true', decide_eq_false_iff_not]
  constructor
  · rintro ⟨⟨⟨h1, h2⟩, h3⟩, h4⟩
    refine ⟨fun z => by rw [z] at h1; simp at h1, h2, h4, fun z => ?_⟩
    rw [decide_eq_true z.1, decide_eq_true z.2] at h3; cases h3
  · rintro ⟨h1, h2, h3, h4⟩
    refine ⟨⟨⟨List.length_pos_iff.mpr h1, h2⟩, ?_⟩, h3⟩
    rw [← Bool.decide_and]; exact decide_eq_false h4
theorem zero_one {l : List Nat} : ((nf l).head? = some 48 ∧ ¬ l = [48]) ↔ ((nf l).head? = some 48 ∧ (1 < (nf l).length ∨ l.head? = some 45)) := by
  refine and_congr_right fun h => ?_
  cases l with
  | nil => cases h
  | cons c r =>
    by_cases hc : c = 45
    · subst hc; simp
    · have e : nf (c :: r) = c :: r := if_neg hc
      rw [e] at h ⊢
      simp at h
      subst h
      simp
      exact List.length_pos_iff.symm
theorem neg_nf {l : List Nat} : ¬ nf l = l ↔ l.head? = some 45 := by
  cases l with
  | nil => simp [nf]
  | cons c r =>
    by_cases hc : c = 45
    · subst hc
      have e : nf (45 :: r) = r := by simp [nf]
      rw [e]; simp
    · have e : nf (c :: r) = c :: r := if_neg hc
      rw [e]; simp [hc]
theorem law_num_some {l : List Nat} {i : Int} (h : numOf l = some i) : lawNum l = .int i := by
  unfold numOf at h
  split at h
  · rename_i hk
    have hl : ¬ l = [45, 48] := fun z => by subst z; revert hk; decide
    rw [figs_nf hl] at h hk
    have h := Option.some.inj h
    obtain ⟨k1, k2, k3, k4⟩ := figsOk_iff.mp hk
    have hz : ¬ ((nf l).head? = some 48 ∧ ¬ l = [48]) := fun z => by
      obtain ⟨z1, z2⟩ := zero_one.mp z
      rcases z2 with z2 | z2
      · exact k4 ⟨z1, z2⟩
      · have k5 : (nf l).length = 1 := by
          have := List.length_pos_iff.mpr k1
          have : ¬ 1 < (nf l).length := fun q => k4 ⟨z1, q⟩
          omega
        cases l with
        | nil => cases z2
        | cons c r =>
          simp at z2
          subst z2
          have e : nf (45 :: r) = r := by simp [nf]
          rw [e] at z1 k5
          cases r with
          | nil => cases z1
          | cons a b =>
            simp at z1 k5
            subst z1 k5
            exact hl rfl
    unfold lawNum
    rw [if_neg (by intro z; rcases z with z | z | z; exact k1 z; omega; rw [k3] at z; cases z), if_neg hz]
    congr 1
    rw [← h]
    by_cases e : nf l = l
    · rw [if_pos e, if_neg (fun z => z e)]; omega
    · rw [if_neg e, if_pos e]; omega
  · cases h
theorem law_num_none {l : List Nat} (h : numOf l = none) : badN (lawNum l) := by
  unfold numOf at h
  split at h
  · cases h
  · rename_i hk
    unfold lawNum
    split
    · trivial
    · rename_i h1
      split
      · trivial
      · rename_i h2
        have k1 : ¬ nf l = [] := fun z => h1 (.inl z)
        have k2 : (nf l).all isDig = true := by
          cases q : (nf l).all isDig with
          | true => rfl
          | false => exact absurd (.inr (.inr q)) h1
        have hl : ¬ l = [45, 48] := fun z => by subst z; exact h2 (by decide)
        rw [figs_nf hl, figsOk_iff] at hk
        cases hn : nf l with
        | nil => exact absurd hn k1
        | cons c r =>
          rw [hn] at k2 hk
          rw [zero_one, hn] at h2
          simp only [List.head?_cons, Option.some.injEq] at h2 hk
          have hbig : 13 ≤ r.length ∧ 49 ≤ c := by
            have hc : isDig c = true := by have := k2; simp at this; exact this.1
            unfold isDig at hc
            simp at hc
            by_cases h48 : c = 48
            · exfalso
              refine hk ⟨by simp, ?_, k2, ?_⟩
              · have : ¬ 1 < (c :: r).length := fun z => h2 ⟨h48, .inl z⟩
                omega
              · rintro ⟨-, z⟩
                exact h2 ⟨h48, .inl z⟩
            · refine ⟨?_, by omega⟩
              apply Classical.byContradiction
              intro z
              exact hk ⟨by simp, by simp; omega, k2, fun y => h48 y.1⟩
          have hb := digits_big hbig.2 hbig.1
          show _ ∨ _
          split <;> omega
def lawDays (w : Str) : PyData := .tuple ((Txt.split w ",").map lawN)
def lawHead (w x : Str) : PyData := if w = "but" then lawDays x else lawN x
def lawRest (w : Str) : List Str → List PyData
  | [] => []
  | x :: r => (if w = "week" then lawDays x else lawN x) :: r.map lawN
def meantL : List Str → List PyData
  | [] => []
  | w :: x :: y :: r => if inD (.str w) BEARD = true then [.str w, lawHead w x] else .str w :: lawRest w (x :: y :: r)
  | w :: r => .str w :: lawRest w r
def lawRule : List Str → PyData
  | w :: x :: y :: r => if inD (.str w) BEARD = true then .tuple [.str w, lawHead w x, lawRule (y :: r)] else .tuple (.str w :: lawRest w (x :: y :: r))
  | w :: r => .tuple (.str w :: lawRest w r)
  | [] => .none
theorem lawRule_bear {w x y : Str} {r : List Str} (h : inD (.str w) BEARD = true) : lawRule (w :: x :: y :: r) = .tuple [.str w, lawHead w x, lawRule (y :: r)] := by rw [lawRule, if_pos h]
theorem lawRule_plain {w x y : Str} {r : List Str} (h : ¬ inD (.str w) BEARD = true) : lawRule (w :: x :: y :: r) = .tuple (.str w :: lawRest w (x :: y :: r)) := by rw [lawRule, if_neg h]
/-- days, some of them unreadable -/
theorem law_days_some {w : Str} {ds : List Int} (h : daysO w = some ds) : lawDays w = .tuple (ds.map .int) := by
  unfold lawDays
  have key : ∀ {xs : List Str} {ds : List Int}, allO numO xs = some ds → xs.map lawN = ds.map .int := by
    intro xs
    induction xs with
    | nil => intro ds h; cases h; rfl
    | cons x xs ih =>
      intro ds h
      unfold allO at h
      split at h
      · rename_i y ys h1 h2
        cases h
        rw [List.map_cons, List.map_cons, ih h2]
        congr 1
        exact law_num_some h1
      · cases h
  rw [key h]
theorem law_days_none {w : Str} (h : daysO w = none) : ∃ x ∈ (Txt.split w ",").map lawN, badN x := by
  obtain ⟨n, y0, h1, h2, -⟩ := allO_none h
  exact ⟨lawN y0, List.mem_map_of_mem (List.mem_of_getElem? h1), law_num_none h2⟩
theorem bad_between {x : PyData} (h : badN x) {lo hi : Int} (h1 : -10000000000000 < lo) (h2 : hi < 10000000000000) : isBetween x lo hi = false := by
  cases x with
  | none => rfl
  | int i =>
    show (decide (lo ≤ i) && decide (i ≤ hi)) = false
    rw [← Bool.decide_and]
    refine decide_eq_false fun z => ?_
    rcases (show _ ∨ _ from h) with q | q <;> omega
  | _ => exact h.elim
theorem bad_go {x : PyData} (h : badN x) {below : Int} (h2 : below < 10000000000000) : ∀ {ds : List PyData} {last : Int}, -1 ≤ last → x ∈ ds → rowGo below last ds = false
  | [], _, _, hm => by cases hm
  | y :: ds, last, hl, hm => by
    show (isBetween y (last + 1) (below - 1) && rowGo below (intOf y) ds) = false
    cases hb : isBetween y (last + 1) (below - 1) with
    | false => rfl
    | true =>
      obtain ⟨i, rfl, h3, h4⟩ := isBetween_int hb
      rcases List.mem_cons.mp hm with rfl | hm
      · rw [bad_between h (by omega) (by omega)] at hb; cases hb
      · rw [bad_go h h2 (show -1 ≤ intOf (.int i) by show -1 ≤ i; omega) hm]; rfl
theorem bad_row {x : PyData} (h : badN x) {below most : Int} (h2 : below < 10000000000000) {ds : List PyData} (hm : x ∈ ds) : rowB (.tuple ds) below most = false := by
  show (decide _ && decide _ && rowGo below (-1) ds) = false
  rw [bad_go h h2 (Int.le_refl _) hm, Bool.and_false]
theorem bad_none_row {x : PyData} (h : badN x) (below most : Int) : rowB x below most = false := by
  cases x <;> first | rfl | exact h.elim
/-- what the program reads, the law reads -/
theorem rest_some {w : Str} : ∀ {r : List Str} {k : Nat} {ds : List PyData}, restO w (k + 1) r = some ds → r.map lawN = ds
  | [], k, ds, h => by cases h; rfl
  | x :: r, k, ds, h => by
    unfold restO at h
    split at h
    · rename_i y ys h1 h2
      cases h
      rw [List.map_cons, rest_some h2]
      congr 1
      have e : partO w (k + 1) x = (numO x).map .int := if_neg (by omega)
      rw [e] at h1
      cases hn : numO x with
      | none => rw [hn] at h1; cases h1
      | some i => rw [hn] at h1; cases h1; exact law_num_some hn
    · cases h
theorem rest0_some {w : Str} {r : List Str} {ds : List PyData} (h : restO w 0 r = some ds) : lawRest w r = ds := by
  cases r with
  | nil => cases h; rfl
  | cons x r =>
    unfold restO at h
    split at h
    · rename_i y ys h1 h2
      cases h
      show _ :: _ = _
      rw [rest_some h2]
      congr 1
      by_cases hw : w = "week"
      · have e : partO w 0 x = (daysO x).map (fun ds => .tuple (ds.map .int)) := if_pos ⟨hw, rfl⟩
        rw [if_pos hw]
        rw [e] at h1
        cases hn : daysO x with
        | none => rw [hn] at h1; cases h1
        | some i => rw [hn] at h1; cases h1; exact law_days_some hn
      · have e : partO w 0 x = (numO x).map .int := if_neg fun z => hw z.1
        rw [if_neg hw]
        rw [e] at h1
        cases hn : numO x with
        | none => rw [hn] at h1; cases h1
        | some i => rw [hn] at h1; cases h1; exact law_num_some hn
    · cases h
theorem plain_some {ws : List Str} {d : PyData} (h : plainO ws = some d) : ∃ w r, ws = w :: r ∧ d = .tuple (.str w :: lawRest w r) := by
  cases ws with
  | nil => cases h
  | cons w r =>
    have h : (restO w 0 r).map (fun ds => PyData.tuple (.str w :: ds)) = some d := h
    cases hr : restO w 0 r with
    | none => rw [hr] at h; cases h
    | some ds => rw [hr] at h; cases h; exact ⟨w, r, rfl, by rw [rest0_some hr]⟩
theorem read_some : ∀ {ws : List Str} {d : PyData}, readO ws = some d → lawRule ws = d
  | [], d, h => by cases h
  | [w], d, h => by
    obtain ⟨w', r, e, rfl⟩ := plain_some (ws := [w]) h
    cases e; rfl
  | [w, x], d, h => by
    obtain ⟨w', r, e, rfl⟩ := plain_some (ws := [w, x]) h
    cases e; rfl
  | w :: x :: y :: r, d, h => by
    by_cases hb : inD (.str w) BEARD = true
    · rw [readO_bear hb] at h
      rw [lawRule_bear hb]
      split at h
      · rename_i p e h1 h2
        cases h
        rw [read_some h2]
        have : lawHead w x = p := by
          unfold lawHead
          unfold headO at h1
          by_cases hw : w = "but"
          · rw [if_pos hw] at h1 ⊢
            cases hn : daysO x with
            | none => rw [hn] at h1; cases h1
            | some i => rw [hn] at h1; cases h1; exact law_days_some hn
          · rw [if_neg hw] at h1 ⊢
            cases hn : numO x with
            | none => rw [hn] at h1; cases h1
            | some i => rw [hn] at h1; cases h1; exact law_num_some hn
        rw [this]
      · cases h
    · rw [readO_plain hb] at h
      rw [lawRule_plain hb]
      obtain ⟨w', r', e, rfl⟩ := plain_some h
      cases e; rfl
theorem rest_none {w : Str} : ∀ {r : List Str} {k : Nat}, restO w (k + 1) r = none → ∃ x ∈ r.map lawN, badN x
  | [], k, h => by cases h
  | x :: r, k, h => by
    have e : partO w (k + 1) x = (numO x).map .int := if_neg (by omega)
    cases hn : numO x with
    | none => exact ⟨lawN x, by simp, law_num_none hn⟩
    | some i =>
      have h2 : restO w (k + 1 + 1) r = none := by
        unfold restO at h
        rw [e, hn] at h
        cases h2 : restO w (k + 1 + 1) r with
        | none => rfl
        | some ys => rw [h2] at h; cases h
      obtain ⟨z, hz, hb⟩ := rest_none h2
      exact ⟨z, by rw [List.map_cons]; exact List.mem_cons_of_mem _ hz, hb⟩
theorem plainB_bad0 {w : Str} {a b : PyData} {rest : List PyData} (h : badN a) : plainB w a b rest = false := by
  have h1 : isTime a = false := bad_between h (by decide) (by decide)
  have h2 : isBetween a (-31) 31 = false := bad_between h (by decide) (by decide)
  have h3 : rowB a 7 7 = false := bad_none_row h 7 7
  rcases rest with _ | ⟨c, _ | ⟨c2, rest⟩⟩ <;> simp [plainB, h1, h2, h3]
theorem plainB_badw {a b : PyData} {rest : List PyData} (h : rowB a 7 7 = false) : plainB "week" a b rest = false := by
  have e1 : ¬ ("week" : Str) = "once" := by decide +kernel
  have e2 : ¬ ("week" : Str) = "every" := by decide +kernel
  rcases rest with _ | ⟨c, _ | ⟨c2, rest⟩⟩ <;> simp [plainB, h, e1, e2]
theorem plainB_bad1 {w : Str} {a b : PyData} {rest : List PyData} (h : badN b) : plainB w a b rest = false := by
  have h1 : isLen b = false := bad_between h (by decide) (by decide)
  have h2 : isBetween b 0 23 = false := bad_between h (by decide) (by decide)
  rcases rest with _ | ⟨c, _ | ⟨c2, rest⟩⟩ <;> simp [plainB, h1, h2]
theorem plainB_bad2 {w : Str} {a b : PyData} {rest : List PyData} {x : PyData} (hm : x ∈ rest) (h : badN x) : plainB w a b rest = false := by
  rcases rest with _ | ⟨c, _ | ⟨c2, rest⟩⟩
  · cases hm
  · have : x = c := by simpa using hm
    subst this
    have h1 : isLen x = false := bad_between h (by decide) (by decide)
    have h2 : isBetween x 1 1000000 = false := bad_between h (by decide) (by decide)
    simp [plainB, h1, h2]
  · rfl
/-- as the end of a rule -/
def endB (w : Str) : List PyData → Bool
  | a :: b :: rest => if inD (.str w) BEARD = true then false else plainB w a b rest
  | _ => false
theorem ruleB_end {n : Nat} {w : Str} {ps : List PyData} (h : ¬ (ps.length = 2 ∧ inD (.str w) BEARD = true)) : ruleB (n + 1) (.tuple (.str w :: ps)) = endB w ps := by
  rcases ps with _ | ⟨a, _ | ⟨b, rest⟩⟩
  · rfl
  · rfl
  · by_cases hb : inD (.str w) BEARD = true
    · rcases rest with _ | ⟨c, rest⟩
      · exact absurd ⟨rfl, hb⟩ h
      · have e1 : ruleB (n + 1) (.tuple (.str w :: a :: b :: c :: rest)) = false := by
          show (if inD (.str w) BEARD = true then false else plainB w a b (c :: rest)) = false
          exact if_pos hb
        have e2 : endB w (a :: b :: c :: rest) = false := if_pos hb
        rw [e1, e2]
    · have e1 : ruleB (n + 1) (.tuple (.str w :: a :: b :: rest)) = plainB w a b rest := plainW w hb n a b rest
      have e2 : endB w (a :: b :: rest) = plainB w a b rest := if_neg hb
      rw [e1, e2]
theorem ruleB_zero (x : PyData) : ruleB 0 x = false := by cases x <;> rfl
theorem end_none {w : Str} {r : List Str} (h : restO w 0 r = none) : endB w (lawRest w r) = false := by
  rcases r with _ | ⟨x, _ | ⟨y, r⟩⟩
  · rfl
  · rfl
  · by_cases hb : inD (.str w) BEARD = true
    · exact if_pos hb
    · show (if inD (.str w) BEARD = true then false else plainB w (if w = "week" then lawDays x else lawN x) (lawN y) (r.map lawN)) = false
      rw [if_neg hb]
      have hcase : partO w 0 x = none ∨ restO w 1 (y :: r) = none := by
        unfold restO at h
        cases h1 : partO w 0 x with
        | none => exact .inl rfl
        | some p =>
          rw [h1] at h
          cases h2 : restO w (0 + 1) (y :: r) with
          | none => exact .inr rfl
          | some ys => rw [h2] at h; cases h
      rcases hcase with h1 | h2
      · by_cases hw : w = "week"
        · have e : partO w 0 x = (daysO x).map (fun ds => .tuple (ds.map .int)) := if_pos ⟨hw, rfl⟩
          rw [e] at h1
          rw [if_pos hw, hw]
          cases hn : daysO x with
          | some i => rw [hn] at h1; cases h1
          | none =>
            obtain ⟨z, hz, hbad⟩ := law_days_none hn
            exact plainB_badw (bad_row hbad (by decide) hz)
        · have e : partO w 0 x = (numO x).map .int := if_neg fun z => hw z.1
          rw [e] at h1
          rw [if_neg hw]
          cases hn : numO x with
          | some i => rw [hn] at h1; cases h1
          | none => exact plainB_bad0 (law_num_none hn)
      · obtain ⟨z, hz, hbad⟩ := rest_none (k := 0) h2
        rw [List.map_cons] at hz
        rcases List.mem_cons.mp hz with rfl | hz
        · exact plainB_bad1 hbad
        · exact plainB_bad2 hz hbad
theorem read_none : ∀ {ws : List Str} (n : Nat), ws ≠ [] → readO ws = none → ruleB n (lawRule ws) = false
  | _, 0, _, _ => ruleB_zero _
  | [], _, h, _ => absurd rfl h
  | [w], n + 1, _, h => rfl
  | [w, x], n + 1, _, h => rfl
  | w :: x :: y :: r, n + 1, _, h => by
    by_cases hb : inD (.str w) BEARD = true
    · rw [readO_bear hb] at h
      rw [lawRule_bear hb, bearW w hb]
      cases h1 : headO w x with
      | some p =>
        rw [h1] at h
        have h2 : readO (y :: r) = none := by
          cases h2 : readO (y :: r) with
          | none => rfl
          | some d => rw [h2] at h; cases h
        rw [read_none n (by simp) h2, Bool.and_false]
      | none =>
        have : (if w = "but" then rowB (lawHead w x) 100000000000 20 else isTime (lawHead w x)) = false := by
          unfold headO at h1
          unfold lawHead
          by_cases hw : w = "but"
          · rw [if_pos hw] at h1 ⊢
            rw [if_pos hw]
            cases hn : daysO x with
            | some i => rw [hn] at h1; cases h1
            | none =>
              obtain ⟨z, hz, hbad⟩ := law_days_none hn
              exact bad_row hbad (by decide) hz
          · rw [if_neg hw] at h1 ⊢
            rw [if_neg hw]
            cases hn : numO x with
            | some i => rw [hn] at h1; cases h1
            | none => exact bad_between (law_num_none hn) (by decide) (by decide)
        rw [this, Bool.false_and]
    · rw [readO_plain hb] at h
      rw [lawRule_plain hb]
      have h : (restO w 0 (x :: y :: r)).map (fun ds => PyData.tuple (.str w :: ds)) = none := h
      have h : restO w 0 (x :: y :: r) = none := by
        cases hr : restO w 0 (x :: y :: r) with
        | none => rfl
        | some ds => rw [hr] at h; cases h
      rw [ruleB_end (fun z => hb z.2)]
      exact end_none h
/-- heads and end -/
theorem law_shape : ∀ (ws : List Str), ws ≠ [] → ∃ hs w ps, lawRule ws = rebuild hs (.tuple (.str w :: ps)) ∧ (∀ h ∈ hs, inD (.str h.1) BEARD = true) ∧ ¬ (ps.length = 2 ∧ inD (.str w) BEARD = true)
  | [], h => absurd rfl h
  | [w], _ => ⟨[], w, _, rfl, by simp, by simp [lawRest]⟩
  | [w, x], _ => ⟨[], w, _, rfl, by simp, by simp [lawRest]⟩
  | w :: x :: y :: r, _ => by
    by_cases hb : inD (.str w) BEARD = true
    · obtain ⟨hs, w', ps, e, h1, h2⟩ := law_shape (y :: r) (by simp)
      refine ⟨(w, lawHead w x) :: hs, w', ps, ?_, ?_, h2⟩
      · rw [lawRule_bear hb, e]; rfl
      · intro h hh
        rcases List.mem_cons.mp hh with rfl | hh
        · exact hb
        · exact h1 h hh
    · exact ⟨[], w, _, lawRule_plain hb, by simp, fun z => hb z.2⟩
/-- a good rule is short -/
theorem rowGo_ints {below : Int} (hb : below ≤ 100000000000) : ∀ {ds : List PyData} {last : Int}, -1 ≤ last → rowGo below last ds = true → ∃ ns : List Int, ds = ns.map .int ∧ ∀ n ∈ ns, Small n
  | [], _, _, _ => ⟨[], rfl, by simp⟩
  | x :: ds, last, hl, h => by
    have h : (isBetween x (last + 1) (below - 1) && rowGo below (intOf x) ds) = true := h
    rw [Bool.and_eq_true] at h
    obtain ⟨i, rfl, h1, h2⟩ := isBetween_int h.1
    obtain ⟨ns, rfl, h3⟩ := rowGo_ints hb (show -1 ≤ intOf (.int i) by show -1 ≤ i; omega) h.2
    refine ⟨i :: ns, rfl, fun n hn => ?_⟩
    rcases List.mem_cons.mp hn with rfl | hn
    · exact small_of (by omega) (by omega)
    · exact h3 n hn
theorem rep_row {x : PyData} {below most : Int} (hb : below ≤ 100000000000) (hm : most ≤ 100) (h : rowB x below most = true) {d : Nat} (hd : 2 ≤ d) : Rep x 1603 d := by
  cases x with
  | tuple ds =>
    have h : (decide (1 ≤ (ds.length : Int)) && decide ((ds.length : Int) ≤ most) && rowGo below (-1) ds) = true := h
    simp only [Bool.and_eq_true, decide_eq_true_eq] at h
    obtain ⟨ns, rfl, h3⟩ := rowGo_ints hb (by decide) h.2
    rw [List.length_map] at h
    exact Rep.days ⟨fun z => by subst z; simp at h, h3, by omega⟩ hd
  | _ => cases h
theorem rep_between {x : PyData} {lo hi : Int} (h : isBetween x lo hi = true) (h1 : -1000000000000 ≤ lo) (h2 : hi ≤ 1000000000000) (d : Nat) : Rep x 14 d := by
  obtain ⟨i, rfl, h3, h4⟩ := isBetween_int h
  exact Rep.int (small_of (by omega) (by omega)) d
theorem bear_words {w : Str} (h : inD (.str w) BEARD = true) : w = "from" ∨ w = "until" ∨ w = "also" ∨ w = "but" := by
  unfold inD BEARD at h
  simp [PyData.eqv] at h
  rcases h with h | h | h | h
  · exact .inl h.symm
  · exact .inr (.inl h.symm)
  · exact .inr (.inr (.inl h.symm))
  · exact .inr (.inr (.inr h.symm))
theorem rep_good : ∀ (n : Nat) (x : PyData), ruleB n x = true → Rep x (2000 * (n + 1)) (n + 3)
  | 0, x, h => by rw [ruleB_zero] at h; cases h
  | n + 1, x, h => by
    cases x with
    | tuple ds =>
      rcases ds with _ | ⟨a, _ | ⟨b, _ | ⟨c, rest⟩⟩⟩
      · cases h
      · cases a <;> cases h
      · cases a <;> cases h
      · cases a with
        | str w =>
          by_cases hb : inD (.str w) BEARD = true
          · rcases rest with _ | ⟨c2, rest⟩
            · rw [bearW w hb, Bool.and_eq_true] at h
              have ih := rep_good n c h.2
              have hw : Rep (.str w) 14 (n + 3) := by
                rcases bear_words hb with rfl | rfl | rfl | rfl <;> exact Rep.word (by decide +kernel) _
              have hp : Rep b 1603 (n + 3) := by
                have h1 := h.1
                split at h1
                · exact rep_row (by decide) (by decide) h1 (by omega)
                · exact (rep_between h1 (by decide) (by decide) _).le (by decide) (Nat.le_refl _)
              exact (Rep.tup3 hw hp ih).le (by omega) (by omega)
            · have h : (if inD (.str w) BEARD = true then false else _) = true := h
              rw [if_pos hb] at h; cases h
          · rw [plainW w hb] at h
            rcases rest with _ | ⟨c2, _ | ⟨c3, rest⟩⟩
            · simp only [plainB, Bool.and_eq_true, decide_eq_true_eq] at h
              obtain ⟨rfl, h1, h2⟩ := h
              exact (Rep.tup3 (d := 2) (Rep.word (by decide +kernel) _) (rep_between h1 (by decide) (by decide) _) (rep_between h2 (by decide) (by decide) _)).le (by omega) (by omega)
            · simp only [plainB] at h
              split at h
              · cases h
              · split at h
                · rename_i e
                  subst e
                  simp only [Bool.and_eq_true] at h
                  exact (Rep.tup4 (d := 2) (Rep.word (by decide +kernel) _) (rep_between h.1 (by decide) (by decide) _) (rep_between h.2.1 (by decide) (by decide) _) (rep_between h.2.2 (by decide) (by decide) _)).le (by omega) (by omega)
                · split at h
                  · rename_i e
                    simp only [Bool.and_eq_true] at e
                    split at h
                    · rename_i e2
                      subst e2
                      exact (Rep.tup4 (d := 2) (Rep.word (by decide +kernel) _) (rep_row (by decide) (by decide) h (by omega)) (rep_between e.1 (by decide) (by decide) _) (rep_between e.2 (by decide) (by decide) _)).le (by omega) (by omega)
                    · simp only [Bool.and_eq_true, decide_eq_true_eq] at h
                      obtain ⟨rfl, h1, -⟩ := h
                      exact (Rep.tup4 (d := 2) (Rep.word (by decide +kernel) _) (rep_between h1 (by decide) (by decide) _) (rep_between e.1 (by decide) (by decide) _) (rep_between e.2 (by decide) (by decide) _)).le (by omega) (by omega)
                  · cases h
            · cases h
        | _ => cases h
    | _ => cases h

theorem all_ints {below : Int} : ∀ {ds : List PyData}, ds.all (fun d => isBetween d 0 (below - 1)) = true → ∃ ns : List Int, ds = ns.map .int ∧ ∀ n ∈ ns, 0 ≤ n ∧ n ≤ below - 1
  | [], _ => ⟨[], rfl, by simp⟩
  | x :: ds, h => by
    rw [List.all_cons, Bool.and_eq_true] at h
    obtain ⟨i, rfl, h1, h2⟩ := isBetween_int h.1
    obtain ⟨ns, rfl, h3⟩ := all_ints h.2
    refine ⟨i :: ns, rfl, fun n hn => ?_⟩
    rcases List.mem_cons.mp hn with rfl | hn
    · exact ⟨h1, h2⟩
    · exact h3 n hn
theorem go_rising {below : Int} : ∀ (ns : List Int) (n last : Int), (∀ m ∈ n :: ns, 0 ≤ m ∧ m ≤ below - 1) → last < n → rowGo below last ((n :: ns).map .int) = ((n :: ns).zip ns).all fun z => decide (z.1 < z.2)
  | [], n, last, h, hl => by
    have := h n (by simp)
    show (isBetween (.int n) (last + 1) (below - 1) && true) = true
    rw [betw_ok (by omega) this.2]; rfl
  | m :: ns, n, last, h, hl => by
    have h1 := h n (by simp)
    have h2 := h m (by simp)
    show (isBetween (.int n) (last + 1) (below - 1) && rowGo below n ((m :: ns).map .int)) = (decide (n < m) && ((m :: ns).zip ns).all fun z => decide (z.1 < z.2))
    rw [betw_ok (by omega) h1.2, Bool.true_and]
    by_cases hm : n < m
    · rw [decide_eq_true hm, Bool.true_and]
      exact go_rising ns m n (fun k hk => h k (List.mem_cons_of_mem _ hk)) hm
    · rw [decide_eq_false hm, Bool.false_and]
      show (isBetween (.int m) (n + 1) (below - 1) && _) = false
      have : isBetween (.int m) (n + 1) (below - 1) = false := by
        show (decide (n + 1 ≤ m) && decide (m ≤ below - 1)) = false
        rw [decide_eq_false (by omega)]; rfl
      rw [this]; rfl
theorem go_bad {below : Int} : ∀ {ds : List PyData} {last : Int}, -1 ≤ last → ds.all (fun d => isBetween d 0 (below - 1)) = false → rowGo below last ds = false
  | [], _, _, h => by cases h
  | x :: ds, last, hl, h => by
    show (isBetween x (last + 1) (below - 1) && rowGo below (intOf x) ds) = false
    cases hb : isBetween x (last + 1) (below - 1) with
    | false => rfl
    | true =>
      obtain ⟨i, rfl, h1, h2⟩ := isBetween_int hb
      rw [List.all_cons, betw_ok (by omega) h2, Bool.true_and] at h
      rw [go_bad (show -1 ≤ intOf (.int i) by show -1 ≤ i; omega) h]; rfl
theorem end_once (a b : PyData) : endB "once" [a, b] = (isBetween a 0 (1000000000000 - 1) && isBetween b 1 48) := by
  have hb : ¬ inD (.str "once") BEARD = true := by decide +kernel
  simp [endB, plainB, hb, isTime, isLen]
theorem end_once3 (a b c : PyData) : endB "once" [a, b, c] = false := by
  simp [endB, plainB]
theorem end_every (a b c : PyData) : endB "every" [a, b, c] = (isBetween a 0 (1000000000000 - 1) && (isBetween b 1 48 && isBetween c 1 1000000)) := by
  have hb : ¬ inD (.str "every") BEARD = true := by decide +kernel
  have e1 : ¬ ("every" : Str) = "once" := by decide +kernel
  simp [endB, plainB, hb, e1, isTime, isLen]
theorem end_week (a b c : PyData) : endB "week" [a, b, c] = ((isBetween b 0 23 && isBetween c 1 48) && rowB a 7 7) := by
  have hb : ¬ inD (.str "week") BEARD = true := by decide +kernel
  have e1 : ¬ ("week" : Str) = "once" := by decide +kernel
  have e2 : ¬ ("week" : Str) = "every" := by decide +kernel
  cases h1 : isBetween b 0 23 <;> cases h2 : isBetween c 1 48 <;> simp [endB, plainB, hb, e1, e2, isLen, h1, h2]
theorem month_split (a : PyData) : (isBetween a (-31) 31 && !decide (intOf a = 0)) = (isBetween a 1 31 || isBetween a (-31) (-1)) := by
  cases a with
  | int i =>
    show ((decide (-31 ≤ i) && decide (i ≤ 31)) && !decide (i = 0)) = ((decide (1 ≤ i) && decide (i ≤ 31)) || (decide (-31 ≤ i) && decide (i ≤ -1)))
    rw [Bool.eq_iff_iff]
    simp
    omega
  | _ => rfl
theorem end_month (a b c : PyData) : endB "month" [a, b, c] = ((isBetween b 0 23 && isBetween c 1 48) && (isBetween a 1 31 || isBetween a (-31) (-1))) := by
  have hb : ¬ inD (.str "month") BEARD = true := by decide +kernel
  have e1 : ¬ ("month" : Str) = "once" := by decide +kernel
  have e2 : ¬ ("month" : Str) = "every" := by decide +kernel
  have e3 : ¬ ("month" : Str) = "week" := by decide +kernel
  rw [← month_split]
  cases h1 : isBetween b 0 23 <;> cases h2 : isBetween c 1 48 <;> simp [endB, plainB, hb, e1, e2, e3, isLen, h1, h2]
theorem end_two {w : Str} (h : ¬ w = "once") (a b : PyData) : endB w [a, b] = false := by simp [endB, plainB, h]
theorem end_four (w : Str) (a b c d : PyData) (rest : List PyData) : endB w (a :: b :: c :: d :: rest) = false := by simp [endB, plainB]
theorem end_other {w : Str} (h1 : ¬ w = "once") (h2 : ¬ w = "every") (h3 : ¬ w = "week") (h4 : ¬ w = "month") (a b c : PyData) : endB w [a, b, c] = false := by
  simp [endB, plainB, h1, h2, h3, h4]
theorem end_zero (w : Str) : endB w [] = false := rfl
theorem end_ein (w : Str) (a : PyData) : endB w [a] = false := rfl
theorem two_not {w a b : Str} (h1 : ¬ w = a) (h2 : ¬ w = b) : inD (.str w) [.str a, .str b] = false := by
  simp [inD, PyData.eqv]; exact ⟨fun e => h1 e.symm, fun e => h2 e.symm⟩
theorem fig_bool (y : Nat) : decide (y ∈ ("0123456789" : Str).cps.toList) = isDig y := by rw [Bool.eq_iff_iff, decide_eq_true_iff]; exact fig_mem
abbrev Hds := List (Str × PyData)
def ODD : List Str := ["", " ", "once", "once 5", "once 5 2 ", " once 5 2", "once  5 2", "once 05 2", "once 5 02", "once +5 2", "month -0 9 8", "month 0 9 8", "month -1 9 8", "week 0,,1 9 8", "week , 9 8", "week 1, 9 8", "week 6 9 8", "Once 5 2", "but 3 once 5 2", "but -3 once 5 2", "from 5 2", "from 5", "once 5 --2", "every 5 2 24 1"]
theorem odd_len : ∀ s ∈ ODD, s.length ≤ 100 := by decide +kernel
def S94 : Str := " !\"#$&'()*+,-./0123456789:;<=>?@ABCDEFGHIJKLMNOPQRSTUVWXYZ[\\]^_`" ++ "abcdefghijklmnopqrstuvwxyz{|}~"
def S13 : Str := "0123456789,- "
theorem s94_len : S94.cps.toList.length = 94 := by decide +kernel
theorem s13_len : S13.cps.toList.length = 13 := by decide +kernel
def signOf (c : Int) : Str := ⟨#[if c % 3 = 0 then S13.cps.toList.getD (c / 3 % 13).toNat 0 else S94.cps.toList.getD (c / 3 % 94).toNat 0]⟩
theorem text_len {r : Rule} (hs : SmallR r) (hd : depth r ≤ 20) : (textOf r).length ≤ 1600 * (depth r + 1) + 2 * depth r + 4 := by
  have h1 := words_len r hs
  have h2 := join_len " " (wordsOf r)
  have e : (" " : Str).length = 1 := by decide +kernel
  rw [e] at h2
  unfold textOf
  omega

/-! what a thing may be -/
theorem textFrom_le : ∀ (ts : List Str) (k : Nat) (acc : Str), (textFrom k acc ts).length ≤ acc.length + piled ts
  | [], k, acc => by show acc.length ≤ _; omega
  | t :: ts, k, acc => by
    have h := textFrom_le ts (k + 1) (acc ++ (if k > 0 then ", " else "" : String) ++ t)
    have e : (acc ++ (if k > 0 then ", " else "" : String) ++ t).length ≤ acc.length + 2 + t.length := by
      rw [Str.length_append, Str.length_append]
      split
      · exact Nat.le_refl _
      · show acc.length + 0 + t.length ≤ _; omega
    rw [piled_cons]
    show (textFrom (k + 1) _ ts).length ≤ _
    omega
theorem lst_len (ts : List Str) : (listText ts).length ≤ piled ts + 3 := by
  unfold listText
  rw [Str.length_append]
  have h := textFrom_le ts 0 "["
  have e1 : (("[" : String) : Str).length = 1 := rfl
  have e2 : (("]" : String) : Str).length = 1 := rfl
  rw [e1] at h
  rw [e2]; omega
def Th (d : PyData) (n k : Nat) : Prop := PyData.canLay0 d = true ∧ Rep d n k
def ThOk (d : PyData) : Prop := Th d 4000 4
theorem Th.le {x : PyData} {n m d e : Nat} (h : Th x n d) (h1 : n ≤ m) (h2 : d ≤ e) : Th x m e := ⟨h.1, h.2.le h1 h2⟩
def thB (d : PyData) : Bool := d.canLay0 && d.showable && !d.hasDict && decide (d.depth ≤ 4) && decide (d.shown.length ≤ 4000)
theorem th_of {d : PyData} (h : thB d = true) : ThOk d := by
  unfold thB at h
  simp only [Bool.and_eq_true, Bool.not_eq_true', decide_eq_true_eq] at h
  exact ⟨h.1.1.1.1, h.1.1.1.2, h.1.1.2, h.1.2, h.2⟩
/-- a row's facts: all of it, and how long it is shown -/
def Ths (es : List PyData) (n k : Nat) : Prop := PyData.canLayAll0 es = true ∧ PyData.showableAll es = true ∧ PyData.hasDictAll es = false ∧ PyData.depthAll es ≤ k ∧ piled (PyData.shownAll es) ≤ n
theorem Ths.nil {k : Nat} : Ths [] 0 k := by simp [Ths, PyData.canLayAll0, PyData.showableAll, PyData.hasDictAll, PyData.depthAll, PyData.shownAll, piled_nil]
theorem Ths.cons {e : PyData} {es : List PyData} {n m k : Nat} (h : Th e n k) (hs : Ths es m k) : Ths (e :: es) (n + 2 + m) k := by
  obtain ⟨a0, a1, a2, a3, a4⟩ := h
  obtain ⟨b0, b1, b2, b3, b4⟩ := hs
  refine ⟨by simp [PyData.canLayAll0, a0, b0], by simp [PyData.showableAll, a1, b1], by simp [PyData.hasDictAll, a2, b2], by simp only [PyData.depthAll]; omega, ?_⟩
  simp only [PyData.shownAll, piled_cons]; omega
theorem Ths.all {n k : Nat} : ∀ {es : List PyData}, (∀ e ∈ es, Th e n k) → Ths es (es.length * (n + 2)) k
  | [], _ => by simpa using Ths.nil
  | e :: es, h => by
    have h2 := Ths.all (es := es) fun x hx => h x (List.mem_cons_of_mem _ hx)
    have := Ths.cons (h e List.mem_cons_self) h2
    rw [List.length_cons, Nat.add_mul, Nat.one_mul, Nat.add_comm]; exact this
theorem Ths.app {es fs : List PyData} {n m k : Nat} : Ths es n k → Ths fs m k → Ths (es ++ fs) (n + m) k := by
  induction es generalizing n with
  | nil => intro _ h; exact ⟨h.1, h.2.1, h.2.2.1, h.2.2.2.1, Nat.le_trans h.2.2.2.2 (Nat.le_add_left _ _)⟩
  | cons e es ih =>
    rintro ⟨a0, a1, a2, a3, a4⟩ h
    simp only [PyData.canLayAll0, PyData.showableAll, PyData.hasDictAll, PyData.depthAll, PyData.shownAll, piled_cons, Bool.and_eq_true, Bool.or_eq_false_iff] at a0 a1 a2 a3 a4
    have := ih (n := piled (PyData.shownAll es)) ⟨a0.2, a1.2, a2.2, by omega, Nat.le_refl _⟩ h
    obtain ⟨b0, b1, b2, b3, b4⟩ := this
    refine ⟨by simp [PyData.canLayAll0, a0.1, b0], by simp [PyData.showableAll, a1.1, b1], by simp [PyData.hasDictAll, a2.1, b2], by simp only [List.cons_append, PyData.depthAll]; omega, ?_⟩
    simp only [List.cons_append, PyData.shownAll, piled_cons]; omega
theorem Ths.tup {es : List PyData} {n k : Nat} (h : Ths es n k) : Th (.tuple es) (n + 3) (k + 1) := by
  obtain ⟨a0, a1, a2, a3, a4⟩ := h
  refine ⟨by simpa only [PyData.canLay0] using a0, by simpa only [PyData.showable] using a1, by simpa only [PyData.hasDict] using a2, by simp only [PyData.depth]; omega, ?_⟩
  have e : PyData.shown (.tuple es) = tupleText (PyData.shownAll es) := by simp only [PyData.shown]
  rw [e]
  have := tup_len (PyData.shownAll es); omega
theorem Ths.lst {es : List PyData} {n k : Nat} (h : Ths es n k) : Th (.list es) (n + 3) (k + 1) := by
  obtain ⟨a0, a1, a2, a3, a4⟩ := h
  refine ⟨by simpa only [PyData.canLay0] using a0, by simpa only [PyData.showable] using a1, by simpa only [PyData.hasDict] using a2, by simp only [PyData.depth]; omega, ?_⟩
  have e : PyData.shown (.list es) = listText (PyData.shownAll es) := by simp only [PyData.shown]
  rw [e]
  have := lst_len (PyData.shownAll es); omega
theorem Th.int {i : Int} (h : Small i) (k : Nat) : Th (.int i) 14 k := ⟨rfl, Rep.int h k⟩
theorem Th.ints {ns : List Int} (h : ∀ n ∈ ns, Small n) (k : Nat) : Ths (ns.map .int) (ns.length * 16) k := by
  have := Ths.all (es := ns.map .int) (n := 14) (k := k) fun e he => by
    obtain ⟨i, hi, rfl⟩ := List.mem_map.mp he
    exact Th.int (h i hi) k
  rwa [List.length_map] at this
theorem Th.days {ns : List Int} (h : ∀ n ∈ ns, Small n) (hl : ns.length ≤ 60) : ThOk (.tuple (ns.map .int)) := (Th.ints h 0).tup.le (by omega) (by decide)
theorem lay_mem {a : PyData} : ∀ {ds : List PyData}, PyData.canLayAll0 ds = true → a ∈ ds → PyData.canLay0 a = true
  | [], _, h => by cases h
  | d :: ds, h, hm => by
    simp only [PyData.canLayAll0, Bool.and_eq_true] at h
    rcases List.mem_cons.mp hm with rfl | hm
    · exact h.1
    · exact lay_mem h.2 hm
theorem depth_mem {a : PyData} : ∀ {ds : List PyData}, a ∈ ds → PyData.depth a ≤ PyData.depthAll ds
  | [], h => by cases h
  | d :: ds, hm => by
    simp only [PyData.depthAll]
    rcases List.mem_cons.mp hm with rfl | hm
    · omega
    · have := depth_mem hm; omega
def LayD (x : PyData) : Prop := PyData.canLay0 x = true ∧ PyData.depth x ≤ 60
theorem LayD.mem {ds : List PyData} {a : PyData} (h : LayD (.tuple ds)) (hm : a ∈ ds) : LayD a ∧ PyData.depth a < PyData.depth (.tuple ds) := by
  have h1 : PyData.canLayAll0 ds = true := by simpa only [PyData.canLay0] using h.1
  have h2 : PyData.depthAll ds + 1 ≤ 60 := by simpa only [PyData.depth] using h.2
  have h3 := depth_mem hm
  refine ⟨⟨lay_mem h1 hm, by omega⟩, by simp only [PyData.depth]; omega⟩
theorem LayD.shaped {x : PyData} (h : LayD x) : SeqAt.shaped x = true := by
  unfold SeqAt.shaped
  rw [h.1, decide_eq_true (Nat.le_trans h.2 (by decide))]; rfl
def endA : PyData → List PyData → Bool
  | .str w, ps => endB w ps
  | _, _ => false
def endY : PyData → Bool
  | .tuple (a :: ps) => endA a ps
  | _ => false
theorem inD_nostr {a : PyData} (h : isStr a = false) (x y : Str) : inD a [.str x, .str y] = false := by
  cases a <;> first | (cases h; done) | simp [inD, PyData.eqv]
theorem inD_nostr4 {a : PyData} (h : isStr a = false) (x y z t : Str) : inD a [.str x, .str y, .str z, .str t] = false := by
  cases a <;> first | (cases h; done) | simp [inD, PyData.eqv]

def ODDL : List PyData := [.bool true, .bool false, .none, .str "5", .str "", .int (-1), .int 0, .int 1, .int 6, .int 7, .int 23, .int 24, .int 31, .int 32, .int (-31), .int (-32), .int 48, .int 49, .int 1000000, .int (1000000 + 1),
  .int (1000000000000 - 1), .int 1000000000000, .int 1000000000000000000000000000000, .tuple [], .tuple [.int 0, .int 7], .tuple [.int 3, .int 3], .tuple [.int 4, .int 2], .list [.int 0], .tuple [.bool true], .tuple [.int 100000000000],
  .tuple ((List.range 21).map fun k : Nat => .int (0 + (k : Int))), .tuple [.str "once", .int 5, .int 1], .int (-1000000000000000000000000000000)]
def oddOf (c : Int) : PyData := ODDL.getD (c % 33).toNat .none
theorem odd_th (c : Int) : ThOk (oddOf c) := by
  have h : ∀ d ∈ ODDL, thB d = true := by decide +kernel
  exact th_of (h _ (getD_mem (by omega) (by show c % 33 < 33; omega)))
def wDays (c : Int) : List Int := (List.range (1 + c / 4 % 20).toNat).map fun k : Nat => ([c / 80 % 100, c / 80 % (100000000000 - 200), 100000000000 - (1 + c / 4 % 20) * 3] : List Int).getD (c / 7 % 3).toNat 0 + (0 + (k : Int)) * (1 + c / 11 % 3)
theorem wDays_ok (c : Int) : DaysOk (wDays c) ∧ (wDays c).length ≤ 20 := by
  have hD : 0 ≤ ([c / 80 % 100, c / 80 % (100000000000 - 200), 100000000000 - (1 + c / 4 % 20) * 3] : List Int).getD (c / 7 % 3).toNat 0 ∧ ([c / 80 % 100, c / 80 % (100000000000 - 200), 100000000000 - (1 + c / 4 % 20) * 3] : List Int).getD (c / 7 % 3).toNat 0 ≤ 100000000000 := by
    have h3 : c / 7 % 3 = 0 ∨ c / 7 % 3 = 1 ∨ c / 7 % 3 = 2 := by omega
    rcases h3 with h | h | h <;> rw [h] <;> simp <;> omega
  have hl : (wDays c).length = (1 + c / 4 % 20).toNat := by unfold wDays; rw [List.length_map, List.length_range]
  refine ⟨⟨fun z => ?_, fun d hd => ?_, by omega⟩, by omega⟩
  · have := congrArg List.length z
    rw [hl] at this; simp at this; omega
  · obtain ⟨k, hk, rfl⟩ := List.mem_map.mp hd
    have hk := List.mem_range.mp hk
    generalize ([c / 80 % 100, c / 80 % (100000000000 - 200), 100000000000 - (1 + c / 4 % 20) * 3] : List Int).getD (c / 7 % 3).toNat 0 = D at *
    have hS : 1 + c / 11 % 3 = 1 ∨ 1 + c / 11 % 3 = 2 ∨ 1 + c / 11 % 3 = 3 := by omega
    rcases hS with h | h | h <;> rw [h] <;> exact small_of (by omega) (by omega)
def wHead (c : Int) (r : Rule) : Rule := if c % 4 = 0 then .fr (timeOf (c / 4)) r else if c % 4 = 1 then .un (timeOf (c / 4)) r else if c % 4 = 2 then .al (timeOf (c / 4)) r else .bu (wDays c) r
/-- a row as the levels have it, and as it is left -/
def RowIn (ds : List PyData) : Prop := ds.length ≤ 4 ∧ (∀ d ∈ ds, ThOk d) ∧ ∃ w x rest, ds = .str w :: x :: rest ∧ ((∃ i, x = .int i) ∨ ∃ ns : List Int, x = .tuple (ns.map .int) ∧ DaysOk ns ∧ ns.length ≤ 20)
def RowOut (ds : List PyData) : Prop := ds.length ≤ 6 ∧ ∀ d ∈ ds, ThOk d
theorem RowIn.out {ds : List PyData} (h : RowIn ds) : RowOut ds := ⟨by have := h.1; omega, h.2.1⟩
theorem th_int {i : Int} (h : Small i) : ThOk (.int i) := (Th.int h 4).le (by decide) (Nat.le_refl _)
theorem th_days {ns : List Int} (h : DaysOk ns) (hl : ns.length ≤ 60) : ThOk (.tuple (ns.map .int)) := Th.days h.2.1 hl
theorem th_word {w : Str} (h : thB (.str w) = true) : ThOk (.str w) := th_of h
theorem all3 {P : PyData → Prop} {a b c : PyData} (h1 : P a) (h2 : P b) (h3 : P c) : ∀ d ∈ [a, b, c], P d := by
  intro d hd; simp at hd; rcases hd with rfl | rfl | rfl <;> assumption
theorem all4 {P : PyData → Prop} {a b c e : PyData} (h1 : P a) (h2 : P b) (h3 : P c) (h4 : P e) : ∀ d ∈ [a, b, c, e], P d := by
  intro d hd; simp at hd; rcases hd with rfl | rfl | rfl | rfl <;> assumption
theorem all2 {P : PyData → Prop} {a b : PyData} (h1 : P a) (h2 : P b) : ∀ d ∈ [a, b], P d := by
  intro d hd; simp at hd; rcases hd with rfl | rfl <;> assumption
/-- the row of a rule that bears no other one -/
theorem plain_row {q : Rule} (hp : plain q = true) (hg : GoodR q) : ∃ ds, toD q = .tuple ds ∧ RowIn ds := by
  have hs := hg.small
  cases q with
  | once h n => exact ⟨_, rfl, show 3 ≤ 4 by decide, all3 (th_word (by decide +kernel)) (th_int hs.1) (th_int hs.2), _, _, _, rfl, .inl ⟨_, rfl⟩⟩
  | every h n s => exact ⟨_, rfl, show 4 ≤ 4 by decide, all4 (th_word (by decide +kernel)) (th_int hs.1) (th_int hs.2.1) (th_int hs.2.2), _, _, _, rfl, .inl ⟨_, rfl⟩⟩
  | week ds h n =>
    have hl : ds.length ≤ 20 := by
      have h1 := hg.1.1
      have h1 : (decide (1 ≤ ((ds.map PyData.int).length : Int)) && decide (((ds.map PyData.int).length : Int) ≤ 7) && rowGo 7 (-1) (ds.map .int)) = true := h1
      simp only [Bool.and_eq_true, decide_eq_true_eq, List.length_map] at h1
      omega
    exact ⟨_, rfl, show 4 ≤ 4 by decide, all4 (th_word (by decide +kernel)) (th_days hs.1 (by omega)) (th_int hs.2.1) (th_int hs.2.2), _, _, _, rfl, .inr ⟨ds, rfl, hs.1, hl⟩⟩
  | month d h n => exact ⟨_, rfl, show 4 ≤ 4 by decide, all4 (th_word (by decide +kernel)) (th_int hs.1) (th_int hs.2.1) (th_int hs.2.2), _, _, _, rfl, .inl ⟨_, rfl⟩⟩
  | fr t r => cases hp
  | un t r => cases hp
  | al t r => cases hp
  | bu ds r => cases hp
theorem cut_pre2 {a b c : PyData} : cutD [a, b, c] none (some 2) = [a, b] := by
  have e : HT.sIx 3 3 (some 2) = 2 := HT.sIx_nat 3 3 2
  show ([a, b, c].drop (HT.sIx 3 0 none)).take (HT.sIx 3 3 (some 2) - HT.sIx 3 0 none) = _
  rw [e, HT.sIx_none]; rfl
theorem head_row (c : Int) (r : Rule) : ∃ a b, toD (wHead c r) = .tuple [a, b, toD r] ∧ RowIn [a, b] := by
  have ht := timeOf_in (c / 4)
  have hs : Small (timeOf (c / 4)) := small_of (by omega) (by omega)
  obtain ⟨hd, hl⟩ := wDays_ok c
  unfold wHead
  split
  · exact ⟨_, _, rfl, show 2 ≤ 4 by decide, all2 (th_word (by decide +kernel)) (th_int hs), _, _, _, rfl, .inl ⟨_, rfl⟩⟩
  · split
    · exact ⟨_, _, rfl, show 2 ≤ 4 by decide, all2 (th_word (by decide +kernel)) (th_int hs), _, _, _, rfl, .inl ⟨_, rfl⟩⟩
    · split
      · exact ⟨_, _, rfl, show 2 ≤ 4 by decide, all2 (th_word (by decide +kernel)) (th_int hs), _, _, _, rfl, .inl ⟨_, rfl⟩⟩
      · exact ⟨_, _, rfl, show 2 ≤ 4 by decide, all2 (th_word (by decide +kernel)) (th_days hd (by omega)), _, _, _, rfl, .inr ⟨_, rfl, hd, hl⟩⟩
theorem put_rows {n : Nst} {r : Row} {vs : List V} {ds : List PyData} {P : List PyData → Prop} (h : ∀ x ∈ n.rows, P x.ds) (hd : P ds) : ∀ x ∈ (n.put r vs ds).rows, P x.ds := by
  intro x hx
  obtain ⟨y, hy, rfl⟩ := List.mem_map.mp hx
  by_cases hq : y.q = r.q
  · rw [if_pos hq]; exact hd
  · rw [if_neg hq]; exact h y hy
theorem put_len {n : Nst} {r : Row} {vs : List V} {ds : List PyData} : (n.put r vs ds).rows.length = n.rows.length := List.length_map _
theorem set_mem {α : Type} {P : α → Prop} : ∀ {l : List α} {j : Nat} {a : α}, (∀ x ∈ l, P x) → P a → ∀ x ∈ l.set j a, P x
  | [], _, _, _, _ => by simp
  | y :: l, 0, a, h, ha => by
    intro x hx
    rcases List.mem_cons.mp hx with rfl | hx
    · exact ha
    · exact h x (List.mem_cons_of_mem _ hx)
  | y :: l, j + 1, a, h, ha => by
    intro x hx
    rcases List.mem_cons.mp hx with rfl | hx
    · exact h _ List.mem_cons_self
    · exact set_mem (fun z hz => h z (List.mem_cons_of_mem _ hz)) ha x hx
theorem RowOut.set {ds : List PyData} (h : RowOut ds) {j : Nat} {d : PyData} (hd : ThOk d) : RowOut (ds.set j d) := ⟨by rw [List.length_set]; exact h.1, set_mem h.2 hd⟩
def W14 : List PyData := [.str "Once", .str "every ", .str "weeks", .str "", .str "day", .str "untill", .str "alsO", .str "once", .str "every", .str "from", .str "but", .none, .int 5, .tuple [.str "once"]]
theorem w14_th (c : Int) : ThOk (W14.getD (c / 9 % 14).toNat .none) := by
  have h : ∀ d ∈ W14, thB d = true := by decide +kernel
  exact th_of (h _ (getD_mem (by omega) (by show c / 9 % 14 < 14; omega)))
theorem th_atoms {es : List PyData} (h : ∀ e ∈ es, Th e 14 3) (hl : es.length ≤ 60) : ThOk (.tuple es) ∧ ThOk (.list es) := ⟨(Ths.all h).tup.le (by omega) (by decide), (Ths.all h).lst.le (by omega) (by decide)⟩
theorem cut_sub {ds : List PyData} {lo hi : Option Int} : ∀ e ∈ cutD ds lo hi, e ∈ ds := fun e he => List.mem_of_mem_drop (List.mem_of_mem_take he)
theorem cut_len {ds : List PyData} {lo hi : Option Int} : (cutD ds lo hi).length ≤ ds.length := by
  unfold cutD
  rw [List.length_take, List.length_drop]; omega
theorem cut_first {ds : List PyData} (h : ds ≠ []) : cutD ds none (some 1) ≠ [] := by
  cases ds with
  | nil => exact absurd rfl h
  | cons a r =>
    have e : HT.sIx (r.length + 1) (r.length + 1) (some 1) = 1 := by
      have := HT.sIx_nat (r.length + 1) (r.length + 1) 1
      rw [show ((1 : Nat) : Int) = 1 from rfl] at this
      rw [this]; omega
    simp [cutD, HT.sIx_none, e]
def spoilt8 (D : List PyData) : List PyData := [.tuple (D ++ cutD D (some (-1)) none), .tuple (cutD D none (some 1) ++ D), .tuple D.reverse, .tuple (D ++ [.int 6, .int 7]), .list D, .tuple [], .tuple ([.int (-1)] ++ D), .tuple (D ++ [.bool true])]
theorem th_small {i : Int} (h : Small i) : Th (.int i) 14 3 := Th.int h 3
theorem spoilt8_th {D : List PyData} (h : ∀ e ∈ D, Th e 14 3) (hl : D.length ≤ 20) (c : Int) : ThOk ((spoilt8 D).getD (c / 9 % 8).toNat .none) := by
  have app : ∀ {A B : List PyData}, (∀ e ∈ A, Th e 14 3) → (∀ e ∈ B, Th e 14 3) → ∀ e ∈ A ++ B, Th e 14 3 := fun ha hb e he => by
    rcases List.mem_append.mp he with he | he
    · exact ha e he
    · exact hb e he
  have hc : ∀ {lo hi}, ∀ e ∈ cutD D lo hi, Th e 14 3 := fun e he => h e (cut_sub e he)
  have hcl : ∀ lo hi, (cutD D lo hi).length ≤ 20 := fun lo hi => Nat.le_trans cut_len hl
  have key : ∀ d ∈ spoilt8 D, ThOk d := by
    intro d hd
    unfold spoilt8 at hd
    simp only [List.mem_cons, List.not_mem_nil, or_false] at hd
    rcases hd with rfl | rfl | rfl | rfl | rfl | rfl | rfl | rfl
    · exact (th_atoms (app h hc) (by rw [List.length_append]; have := hcl (some (-1)) none; omega)).1
    · exact (th_atoms (app hc h) (by rw [List.length_append]; have := hcl none (some 1); omega)).1
    · exact (th_atoms (fun e he => h e (List.mem_reverse.mp he)) (by rw [List.length_reverse]; omega)).1
    · exact (th_atoms (app h (all2 (th_small (small_of (by decide) (by decide))) (th_small (small_of (by decide) (by decide))))) (by rw [List.length_append]; simp; omega)).1
    · exact (th_atoms h (by omega)).2
    · exact (th_atoms (es := []) (by simp) (by decide)).1
    · exact (th_atoms (app (fun e he => by simp at he; subst he; exact th_small (small_of (by decide) (by decide))) h) (by rw [List.length_append]; simp; omega)).1
    · exact (th_atoms (app h (fun e he => by simp at he; subst he; exact ⟨rfl, rfl, rfl, by decide, by decide +kernel⟩)) (by rw [List.length_append]; simp; omega)).1
  exact key _ (getD_mem (by omega) (by show c / 9 % 8 < 8; omega))
def W12 : List PyData := [.none, .bool true, .int 5, .str "once", .list [], .tuple [], .tuple [.str "once"], .tuple [.str "once", .int 5], .list [.str "once", .int 5, .int 2], .list [.tuple [.str "once", .int 5, .int 2]], .tuple [.str ""], .tuple [.tuple [.str "once", .int 5, .int 2]]]
theorem w12_th (c : Int) : ThOk (W12.getD (c % 12).toNat .none) := by
  have h : ∀ d ∈ W12, thB d = true := by decide +kernel
  exact th_of (h _ (getD_mem (by omega) (by show c % 12 < 12; omega)))
theorem ixN_of {n j : Nat} (h : j < n) : ixN n (j : Int) = some j := by
  unfold ixN
  have h1 : ¬ ((j : Int) < 0) := by omega
  simp [h1]
  omega
theorem th_seq {ds : List PyData} (h : ∀ d ∈ ds, ThOk d) : Ths ds (ds.length * 4002) 4 := Ths.all h

abbrev s_is_whole : Stmt := topS 1
abbrev s_is_between : Stmt := topS 2
abbrev s_is_time : Stmt := topS 10
abbrev s_is_length : Stmt := topS 11
abbrev s_is_row : Stmt := topS 12
abbrev s_is_plain : Stmt := topS 13
abbrev s_is_rule : Stmt := topS 14
abbrev s__law_cell_at : Stmt := topS 16
abbrev s__law_whole : Stmt := topS 17
abbrev s__law_weekdays : Stmt := topS 18
abbrev s__law_time : Stmt := topS 19
abbrev s__law_wide_plain : Stmt := topS 20
abbrev s__law_wide_head : Stmt := topS 21
abbrev s__law_between : Stmt := topS 22
abbrev s__law_good_days : Stmt := topS 23
abbrev s__law_good_plain : Stmt := topS 24
abbrev s__law_good : Stmt := topS 25
abbrev s__law_odd : Stmt := topS 26
abbrev s__law_levels : Stmt := topS 27
abbrev s__law_spoilt : Stmt := topS 28
abbrev s__law_built : Stmt := topS 29
abbrev s_law : Stmt := topS 30
theorem sc_is_whole : FnScope ["thing"] ["thing"] (defScope s_is_whole) := ⟨rfl, rfl, rfl, by decide +kernel, rfl, by decide +kernel, by decide +kernel⟩
theorem sc_is_between : FnScope ["thing", "low", "high"] ["thing", "low", "high"] (defScope s_is_between) := ⟨rfl, rfl, rfl, by decide +kernel, rfl, by decide +kernel, by decide +kernel⟩
theorem sc_is_time : FnScope ["thing"] ["thing"] (defScope s_is_time) := ⟨rfl, rfl, rfl, by decide +kernel, rfl, by decide +kernel, by decide +kernel⟩
theorem sc_is_length : FnScope ["thing"] ["thing"] (defScope s_is_length) := ⟨rfl, rfl, rfl, by decide +kernel, rfl, by decide +kernel, by decide +kernel⟩
theorem sc_is_row : FnScope ["thing", "below", "most", "last", "one"] ["thing", "below", "most"] (defScope s_is_row) := ⟨rfl, rfl, rfl, by decide +kernel, rfl, by decide +kernel, by decide +kernel⟩
theorem sc_is_plain : FnScope ["thing", "word"] ["thing"] (defScope s_is_plain) := ⟨rfl, rfl, rfl, by decide +kernel, rfl, by decide +kernel, by decide +kernel⟩
theorem sc_is_rule : FnScope ["thing", "turn"] ["thing"] (defScope s_is_rule) := ⟨rfl, rfl, rfl, by decide +kernel, rfl, by decide +kernel, by decide +kernel⟩
theorem sc__law_cell_at : FnScope ["_law_script", "_law_k"] ["_law_script", "_law_k"] (defScope s__law_cell_at) := ⟨rfl, rfl, rfl, by decide +kernel, rfl, by decide +kernel, by decide +kernel⟩
theorem sc__law_whole : FnScope ["_law_found"] ["_law_found"] (defScope s__law_whole) := ⟨rfl, rfl, rfl, by decide +kernel, rfl, by decide +kernel, by decide +kernel⟩
theorem sc__law_weekdays : FnScope ["_law_bits", "_law_days", "_law_k"] ["_law_bits"] (defScope s__law_weekdays) := ⟨rfl, rfl, rfl, by decide +kernel, rfl, by decide +kernel, by decide +kernel⟩
theorem sc__law_time : FnScope ["_law_cell"] ["_law_cell"] (defScope s__law_time) := ⟨rfl, rfl, rfl, by decide +kernel, rfl, by decide +kernel, by decide +kernel⟩
theorem sc__law_wide_plain : FnScope ["_law_cells", "_law_kind", "_law_size", "_law_day"] ["_law_cells"] (defScope s__law_wide_plain) := ⟨rfl, rfl, rfl, by decide +kernel, rfl, by decide +kernel, by decide +kernel⟩
theorem sc__law_wide_head : FnScope ["_law_cell", "_law_rule", "_law_word", "_law_many", "_law_day", "_law_k"] ["_law_cell", "_law_rule"] (defScope s__law_wide_head) := ⟨rfl, rfl, rfl, by decide +kernel, rfl, by decide +kernel, by decide +kernel⟩
theorem sc__law_between : FnScope ["_law_thing", "_law_low", "_law_high"] ["_law_thing", "_law_low", "_law_high"] (defScope s__law_between) := ⟨rfl, rfl, rfl, by decide +kernel, rfl, by decide +kernel, by decide +kernel⟩
theorem sc__law_good_days : FnScope ["_law_thing", "_law_below", "_law_most", "_law_one", "_law_two"] ["_law_thing", "_law_below", "_law_most"] (defScope s__law_good_days) := ⟨rfl, rfl, rfl, by decide +kernel, rfl, by decide +kernel, by decide +kernel⟩
theorem sc__law_good_plain : FnScope ["_law_thing", "_law_parts", "_law_step"] ["_law_thing"] (defScope s__law_good_plain) := ⟨rfl, rfl, rfl, by decide +kernel, rfl, by decide +kernel, by decide +kernel⟩
theorem sc__law_good : FnScope ["_law_thing", "_law_deep"] ["_law_thing"] (defScope s__law_good) := ⟨rfl, rfl, rfl, by decide +kernel, rfl, by decide +kernel, by decide +kernel⟩
theorem sc__law_odd : FnScope ["_law_cell", "_law_some", "_law_k"] ["_law_cell"] (defScope s__law_odd) := ⟨rfl, rfl, rfl, by decide +kernel, rfl, by decide +kernel, by decide +kernel⟩
theorem sc__law_levels : FnScope ["_law_script", "_law_rule", "_law_levels_here", "_law_k"] ["_law_script"] (defScope s__law_levels) := ⟨rfl, rfl, rfl, by decide +kernel, rfl, by decide +kernel, by decide +kernel⟩
theorem sc__law_spoilt : FnScope ["_law_levels_here", "_law_way", "_law_cell", "_law_level", "_law_days", "_law_some"] ["_law_levels_here", "_law_way", "_law_cell"] (defScope s__law_spoilt) := ⟨rfl, rfl, rfl, by decide +kernel, rfl, by decide +kernel, by decide +kernel⟩
theorem sc__law_built : FnScope ["_law_levels_here", "_law_at", "_law_rule", "_law_k", "_law_row"] ["_law_levels_here", "_law_at"] (defScope s__law_built) := ⟨rfl, rfl, rfl, by decide +kernel, rfl, by decide +kernel, by decide +kernel⟩
theorem sc_law : FnScope ["_law_script", "_law_way", "_law_cell", "_law_levels_here", "_law_at", "_law_thing", "_law_ahead", "_law_found", "_law_some"] ["_law_script"] (defScope s_law) := ⟨rfl, rfl, rfl, by decide +kernel, rfl, by decide +kernel, by decide +kernel⟩
def R_is_whole : List PyData → PyData → Prop := fun ds d => ∃ (x : PyData), True ∧ ds = [x] ∧ d = .bool (isWhole x)
theorem v_is_whole {G : Gd} {Γ : List Ent} {ta : TA} {E : XK} {x : PyData} (h : EvA G ta Γ [x]) (hp : Side (True)) : EvD G (tCall (spV G.K R_is_whole) [] E ta) Γ (.bool (isWhole x)) := ev_call h ⟨x, hp.out, rfl, rfl⟩
def R_is_between : List PyData → PyData → Prop := fun ds d => ∃ (x : PyData) (lo hi : Int), True ∧ ds = [x, .int lo, .int hi] ∧ d = .bool (isBetween x lo hi)
theorem v_is_between {G : Gd} {Γ : List Ent} {ta : TA} {E : XK} {x : PyData} {lo hi : Int} (h : EvA G ta Γ [x, .int lo, .int hi]) (hp : Side (True)) : EvD G (tCall (spV G.K R_is_between) [] E ta) Γ (.bool (isBetween x lo hi)) := ev_call h ⟨x, lo, hi, hp.out, rfl, rfl⟩
def R_is_time : List PyData → PyData → Prop := fun ds d => ∃ (x : PyData), True ∧ ds = [x] ∧ d = .bool (isTime x)
theorem v_is_time {G : Gd} {Γ : List Ent} {ta : TA} {E : XK} {x : PyData} (h : EvA G ta Γ [x]) (hp : Side (True)) : EvD G (tCall (spV G.K R_is_time) [] E ta) Γ (.bool (isTime x)) := ev_call h ⟨x, hp.out, rfl, rfl⟩
def R_is_length : List PyData → PyData → Prop := fun ds d => ∃ (x : PyData), True ∧ ds = [x] ∧ d = .bool (isLen x)
theorem v_is_length {G : Gd} {Γ : List Ent} {ta : TA} {E : XK} {x : PyData} (h : EvA G ta Γ [x]) (hp : Side (True)) : EvD G (tCall (spV G.K R_is_length) [] E ta) Γ (.bool (isLen x)) := ev_call h ⟨x, hp.out, rfl, rfl⟩
def R_is_row : List PyData → PyData → Prop := fun ds d => ∃ (x : PyData) (below most : Int), True ∧ ds = [x, .int below, .int most] ∧ d = .bool (rowB x below most)
theorem v_is_row {G : Gd} {Γ : List Ent} {ta : TA} {E : XK} {x : PyData} {below most : Int} (h : EvA G ta Γ [x, .int below, .int most]) (hp : Side (True)) : EvD G (tCall (spV G.K R_is_row) [] E ta) Γ (.bool (rowB x below most)) := ev_call h ⟨x, below, most, hp.out, rfl, rfl⟩
def R_is_plain : List PyData → PyData → Prop := fun ds d => ∃ (w : Str) (a b : PyData) (rest : List PyData), True ∧ ds = [.tuple (.str w :: a :: b :: rest)] ∧ d = .bool (plainB w a b rest)
theorem v_is_plain {G : Gd} {Γ : List Ent} {ta : TA} {E : XK} {w : Str} {a b : PyData} {rest : List PyData} (h : EvA G ta Γ [.tuple (.str w :: a :: b :: rest)]) (hp : Side (True)) : EvD G (tCall (spV G.K R_is_plain) [] E ta) Γ (.bool (plainB w a b rest)) := ev_call h ⟨w, a, b, rest, hp.out, rfl, rfl⟩
def R_is_rule : List PyData → PyData → Prop := fun ds d => ∃ (x : PyData), True ∧ ds = [x] ∧ d = .bool (ruleB 8 x)
theorem v_is_rule {G : Gd} {Γ : List Ent} {ta : TA} {E : XK} {x : PyData} (h : EvA G ta Γ [x]) (hp : Side (True)) : EvD G (tCall (spV G.K R_is_rule) [] E ta) Γ (.bool (ruleB 8 x)) := ev_call h ⟨x, hp.out, rfl, rfl⟩
def R__law_cell_at : List PyData → PyData → Prop := fun ds d => ∃ (ns : List Int) (k : Int), (0 ≤ k ∧ ns.length ≤ 63) ∧ ds = [.list (ns.map .int), .int k] ∧ d = .int (cell ns k)
theorem v__law_cell_at {G : Gd} {Γ : List Ent} {ta : TA} {E : XK} {ns : List Int} {k : Int} (h : EvA G ta Γ [.list (ns.map .int), .int k]) (hp : Side (0 ≤ k ∧ ns.length ≤ 63)) : EvD G (tCall (spV G.K R__law_cell_at) [] E ta) Γ (.int (cell ns k)) := ev_call h ⟨ns, k, hp.out, rfl, rfl⟩
def R__law_whole : List PyData → PyData → Prop := fun ds d => ∃ (x : PyData), True ∧ ds = [x] ∧ d = .bool (isWhole x)
theorem v__law_whole {G : Gd} {Γ : List Ent} {ta : TA} {E : XK} {x : PyData} (h : EvA G ta Γ [x]) (hp : Side (True)) : EvD G (tCall (spV G.K R__law_whole) [] E ta) Γ (.bool (isWhole x)) := ev_call h ⟨x, hp.out, rfl, rfl⟩
def R__law_weekdays : List PyData → PyData → Prop := fun ds d => ∃ (b : Int), True ∧ ds = [.int b] ∧ d = .tuple ((wd b).map .int)
theorem v__law_weekdays {G : Gd} {Γ : List Ent} {ta : TA} {E : XK} {b : Int} (h : EvA G ta Γ [.int b]) (hp : Side (True)) : EvD G (tCall (spV G.K R__law_weekdays) [] E ta) Γ (.tuple ((wd b).map .int)) := ev_call h ⟨b, hp.out, rfl, rfl⟩
def R__law_time : List PyData → PyData → Prop := fun ds d => ∃ (c : Int), True ∧ ds = [.int c] ∧ d = .int (timeOf c)
theorem v__law_time {G : Gd} {Γ : List Ent} {ta : TA} {E : XK} {c : Int} (h : EvA G ta Γ [.int c]) (hp : Side (True)) : EvD G (tCall (spV G.K R__law_time) [] E ta) Γ (.int (timeOf c)) := ev_call h ⟨c, hp.out, rfl, rfl⟩
def R__law_wide_plain : List PyData → (PyData → Prop) → Prop := fun ds N => ∃ (c0 c1 c2 : Int), True ∧ ds = [.list [.int c0, .int c1, .int c2]] ∧ N = fun d => ∃ (q : Rule), (plain q = true ∧ GoodR q) ∧ d = toD q
theorem x__law_wide_plain {G : Gd} {W : WX} {Γ : List Ent} {P : Post} {ta : TA} {E : XK} {i : Nat} {c0 c1 c2 : Int} (h : EvA G ta Γ [.list [.int c0, .int c1, .int c2]]) (hp : Side (True)) (k : ∀ (q : Rule), (plain q = true ∧ GoodR q) → P.nx (Γ.set i (.dat (toD q)))) : WpD G W (tAsg (tCall (spE G.K R__law_wide_plain) [] E ta) (gName i)) Γ P := wp_asgE h ⟨c0, c1, c2, hp.out, rfl, rfl⟩ (by rintro d ⟨q, hs, rfl⟩; exact k _ hs)
theorem y__law_wide_plain {G : Gd} {W : WX} {Γ : List Ent} {P : Post} {ta : TA} {E : XK} {c0 c1 c2 : Int} (h : EvA G ta Γ [.list [.int c0, .int c1, .int c2]]) (hp : Side (True)) (k : ∀ (q : Rule), (plain q = true ∧ GoodR q) → P.rt (toD q)) : WpD G W (tRet (tCall (spE G.K R__law_wide_plain) [] E ta)) Γ P := wp_retE h ⟨c0, c1, c2, hp.out, rfl, rfl⟩ (by rintro d ⟨q, hs, rfl⟩; exact k _ hs)
def R__law_wide_head : List PyData → PyData → Prop := fun ds d => ∃ (c : Int) (r : Rule), True ∧ ds = [.int c, toD r] ∧ d = (toD (wHead c r))
theorem v__law_wide_head {G : Gd} {Γ : List Ent} {ta : TA} {E : XK} {c : Int} {r : Rule} (h : EvA G ta Γ [.int c, toD r]) (hp : Side (True)) : EvD G (tCall (spV G.K R__law_wide_head) [] E ta) Γ ((toD (wHead c r))) := ev_call h ⟨c, r, hp.out, rfl, rfl⟩
def R__law_between : List PyData → PyData → Prop := fun ds d => ∃ (x : PyData) (lo hi : Int), True ∧ ds = [x, .int lo, .int hi] ∧ d = .bool (isBetween x lo hi)
theorem v__law_between {G : Gd} {Γ : List Ent} {ta : TA} {E : XK} {x : PyData} {lo hi : Int} (h : EvA G ta Γ [x, .int lo, .int hi]) (hp : Side (True)) : EvD G (tCall (spV G.K R__law_between) [] E ta) Γ (.bool (isBetween x lo hi)) := ev_call h ⟨x, lo, hi, hp.out, rfl, rfl⟩
def R__law_good_days : List PyData → PyData → Prop := fun ds d => ∃ (x : PyData) (below most : Int), (most ≤ 1000) ∧ ds = [x, .int below, .int most] ∧ d = .bool (rowB x below most)
theorem v__law_good_days {G : Gd} {Γ : List Ent} {ta : TA} {E : XK} {x : PyData} {below most : Int} (h : EvA G ta Γ [x, .int below, .int most]) (hp : Side (most ≤ 1000)) : EvD G (tCall (spV G.K R__law_good_days) [] E ta) Γ (.bool (rowB x below most)) := ev_call h ⟨x, below, most, hp.out, rfl, rfl⟩
def R__law_good_plain : List PyData → PyData → Prop := fun ds d => ∃ (a : PyData) (ps : List PyData), (SeqAt.shaped a = true) ∧ ds = [.tuple (a :: ps)] ∧ d = .bool (endA a ps)
theorem v__law_good_plain {G : Gd} {Γ : List Ent} {ta : TA} {E : XK} {a : PyData} {ps : List PyData} (h : EvA G ta Γ [.tuple (a :: ps)]) (hp : Side (SeqAt.shaped a = true)) : EvD G (tCall (spV G.K R__law_good_plain) [] E ta) Γ (.bool (endA a ps)) := ev_call h ⟨a, ps, hp.out, rfl, rfl⟩
def R__law_good : List PyData → PyData → Prop := fun ds d => ∃ (x : PyData), (LayD x) ∧ ds = [x] ∧ d = .bool (ruleB 8 x)
theorem v__law_good {G : Gd} {Γ : List Ent} {ta : TA} {E : XK} {x : PyData} (h : EvA G ta Γ [x]) (hp : Side (LayD x)) : EvD G (tCall (spV G.K R__law_good) [] E ta) Γ (.bool (ruleB 8 x)) := ev_call h ⟨x, hp.out, rfl, rfl⟩
def R__law_odd : List PyData → PyData → Prop := fun ds d => ∃ (c : Int), True ∧ ds = [.int c] ∧ d = (oddOf c)
theorem v__law_odd {G : Gd} {Γ : List Ent} {ta : TA} {E : XK} {c : Int} (h : EvA G ta Γ [.int c]) (hp : Side (True)) : EvD G (tCall (spV G.K R__law_odd) [] E ta) Γ ((oddOf c)) := ev_call h ⟨c, hp.out, rfl, rfl⟩
def R__law_levels : List Ent → Option Nst → (Out (Option Nst) → Prop) → Prop := fun es s O => ∃ (ns : List Int), (ns.length ≤ 63) ∧ es = [.dat (.list (ns.map .int))] ∧ s = none ∧ O = fun o => ∃ n : Nst, o = .ok (.val (.ref n.p)) (some n) ∧ n.rows ≠ [] ∧ n.rows.length ≤ 9 ∧ ∀ r ∈ n.rows, RowIn r.ds
def R__law_spoilt : List Ent → Option Nst → (Out (Option Nst) → Prop) → Prop := fun es s O => ∃ (n : Nst) (way c : Int), (n.rows ≠ [] ∧ ∀ r ∈ n.rows, RowIn r.ds) ∧ es = [.val (.ref n.p), .dat (.int way), .dat (.int c)] ∧ s = some n ∧ O = fun o => ∃ n' : Nst, o = .ok (.dat .none) (some n') ∧ n'.p = n.p ∧ n'.rows.length = n.rows.length ∧ ∀ r ∈ n'.rows, RowOut r.ds
def R__law_built : List Ent → Option Nst → (Out (Option Nst) → Prop) → Prop := fun es s O => ∃ (n : Nst) (at0 : Int), (n.rows.length ≤ 9 ∧ ∀ r ∈ n.rows, RowOut r.ds) ∧ es = [.val (.ref n.p), .dat (.int at0)] ∧ s = some n ∧ O = fun o => ∃ d, o = .ok (.dat d) (some n) ∧ Th d 300000 20
def R_law : List PyData → PyData → Prop := fun ds d => ∃ (ns : List Int), (ns.length ≤ 63) ∧ ds = [.list (ns.map .int)] ∧ d = .bool true
theorem v_law {G : Gd} {Γ : List Ent} {ta : TA} {E : XK} {ns : List Int} (h : EvA G ta Γ [.list (ns.map .int)]) (hp : Side (ns.length ≤ 63)) : EvD G (tCall (spV G.K R_law) [] E ta) Γ (.bool true) := ev_call h ⟨ns, hp.out, rfl, rfl⟩

structure Txt (K : PySem.W.Frag) (mg : Str → Option Value) (a_BEARING : Addr) : Prop where
  t_is_whole : FnT K mg "is_whole" "is_whole" s_is_whole
  t_is_between : FnT K mg "is_between" "is_between" s_is_between
  t_is_time : FnT K mg "is_time" "is_time" s_is_time
  t_is_length : FnT K mg "is_length" "is_length" s_is_length
  t_is_row : FnT K mg "is_row" "is_row" s_is_row
  t_is_plain : FnT K mg "is_plain" "is_plain" s_is_plain
  t_is_rule : FnT K mg "is_rule" "is_rule" s_is_rule
  t__law_cell_at : FnT K mg "_law_cell_at" "_law_cell_at" s__law_cell_at
  t__law_whole : FnT K mg "_law_whole" "_law_whole" s__law_whole
  t__law_weekdays : FnT K mg "_law_weekdays" "_law_weekdays" s__law_weekdays
  t__law_time : FnT K mg "_law_time" "_law_time" s__law_time
  t__law_wide_plain : FnT K mg "_law_wide_plain" "_law_wide_plain" s__law_wide_plain
  t__law_wide_head : FnT K mg "_law_wide_head" "_law_wide_head" s__law_wide_head
  t__law_between : FnT K mg "_law_between" "_law_between" s__law_between
  t__law_good_days : FnT K mg "_law_good_days" "_law_good_days" s__law_good_days
  t__law_good_plain : FnT K mg "_law_good_plain" "_law_good_plain" s__law_good_plain
  t__law_good : FnT K mg "_law_good" "_law_good" s__law_good
  t__law_odd : FnT K mg "_law_odd" "_law_odd" s__law_odd
  t__law_levels : FnT K mg "_law_levels" "_law_levels" s__law_levels
  t__law_spoilt : FnT K mg "_law_spoilt" "_law_spoilt" s__law_spoilt
  t__law_built : FnT K mg "_law_built" "_law_built" s__law_built
  t_law : FnT K mg "law" "law" s_law
  b_all : mg "all" = none
  b_bool : mg "bool" = none
  b_int : mg "int" = none
  b_isinstance : mg "isinstance" = none
  b_len : mg "len" = none
  b_list : mg "list" = none
  b_range : mg "range" = none
  b_repr : mg "repr" = none
  b_str : mg "str" = none
  b_tuple : mg "tuple" = none
  b_zip : mg "zip" = none
  g_TIMES : GInt mg "TIMES" (1000000000000)
  g_DAYS : GInt mg "DAYS" (100000000000)
  g_LONGEST : GInt mg "LONGEST" (48)
  g_MOST_STEP : GInt mg "MOST_STEP" (1000000)
  g_DEEPEST : GInt mg "DEEPEST" (8)
  g_BEARING : GDat K mg "BEARING" a_BEARING (.list [(.str "from"), (.str "until"), (.str "also"), (.str "but")])
end K05

namespace K05
open PySem L2 Pd
/-! words of this file: k_clsL tells what an expression evaluates to; k_subL a side condition; k_offL goes on with statements -/
local macro_rules | `(tactic| k_subL) => `(tactic| first
  | assumption | omega | decide | rfl | (constructor <;> omega) | (refine Or.inr ?_ <;> constructor <;> omega) | (refine Or.inl ?_ <;> constructor <;> omega)
  | (simp only [List.length_cons, List.length_nil, List.length_map, List.length_append, List.length_range, List.length_reverse] at *; omega)
  | (intro d hd; exact (List.mem_map.mp hd).elim fun _ h => ⟨_, h.2.symm⟩)
  | skip)
local macro_rules | `(tactic| k_clsL) => `(tactic| first
  | ((with_reducible apply id_c); first
      | with_reducible exact ev_int
      | with_reducible exact ev_bl
      | with_reducible exact ev_str
      | with_reducible exact ev_non
      | ((with_reducible apply ev_c); assumption))
  | ((with_reducible apply id_var); first
      | exact ev_var rfl)
  | ((with_reducible apply id_call); first
      | ((with_reducible apply v_is_whole) <;> k_clsL)
      | ((with_reducible apply v_is_between) <;> k_clsL)
      | ((with_reducible apply v_is_time) <;> k_clsL)
      | ((with_reducible apply v_is_length) <;> k_clsL)
      | ((with_reducible apply v_is_row) <;> k_clsL)
      | ((with_reducible apply v_is_plain) <;> k_clsL)
      | ((with_reducible apply v_is_rule) <;> k_clsL)
      | ((with_reducible apply v__law_cell_at) <;> k_clsL)
      | ((with_reducible apply v__law_weekdays) <;> k_clsL)
      | ((with_reducible apply v__law_time) <;> k_clsL)
      | ((with_reducible apply v__law_whole) <;> k_clsL)
      | ((with_reducible apply v__law_between) <;> k_clsL)
      | ((with_reducible apply v__law_good_days) <;> k_clsL)
      | ((with_reducible apply v__law_good_plain) <;> k_clsL)
      | ((with_reducible apply v__law_good) <;> k_clsL)
      | ((with_reducible apply v__law_wide_head) <;> k_clsL)
      | ((with_reducible apply v__law_odd) <;> k_clsL)
      | ((with_reducible apply v_law) <;> k_clsL)
      | ((with_reducible apply EvF.ev) <;> k_clsL))
  | ((with_reducible apply id_callS); first
      | fail)
  | ((with_reducible apply id_op); first
      | with_reducible exact ev_p4
      | with_reducible exact ev_p6
      | with_reducible exact ev_p9
      | with_reducible exact ev_p11
      | with_reducible exact ev_p12
      | with_reducible exact ev_p20
      | with_reducible exact ev_p30
      | ((with_reducible apply ev_isN) <;> k_clsL)
      | ((with_reducible apply ev_isNot) <;> k_clsL)
      | ((with_reducible apply c_ixD) <;> k_clsL)
      | ((with_reducible apply ev_op) <;> k_clsL))
  | ((with_reducible apply id_cb); first
      | ((with_reducible apply ev_isInt) <;> k_clsL)
      | ((with_reducible apply ev_isBool) <;> k_clsL)
      | ((with_reducible apply ev_isStr) <;> k_clsL)
      | ((with_reducible apply ev_isList) <;> k_clsL)
      | ((with_reducible apply ev_isTup) <;> k_clsL)
      | ((with_reducible apply ev_cb) <;> k_clsL)
      | ((with_reducible apply EvF.ev) <;> k_clsL))
  | ((with_reducible apply id_A); first
      | with_reducible exact ea_nil
      | ((with_reducible apply ea_cons) <;> k_clsL))
  | ((with_reducible apply id_T); first
      | with_reducible exact et_yes
      | ((with_reducible apply et_test) <;> k_clsL)
      | ((with_reducible apply et_B) <;> k_clsL)
      | ((with_reducible apply et_and) <;> k_clsL)
      | ((with_reducible apply et_or) <;> k_clsL)
      | ((with_reducible apply et_not) <;> k_clsL))
  | ((with_reducible apply id_od); first
      | ((with_reducible apply oy_in) <;> k_clsL)
      | ((with_reducible apply oy_notIn) <;> k_clsL)
      | ((with_reducible apply ox_in) <;> k_clsL)
      | ((with_reducible apply ox_notIn) <;> k_clsL)
      | ((with_reducible apply od_add_int) <;> k_clsL)
      | ((with_reducible apply oq_add_str) <;> k_clsL)
      | ((with_reducible apply oq_add_tup) <;> k_clsL)
      | ((with_reducible apply oq_add_list) <;> k_clsL)
      | ((with_reducible apply oq_sub) <;> k_clsL)
      | ((with_reducible apply oq_mul) <;> k_clsL)
      | ((with_reducible apply oq_div) <;> k_clsL)
      | ((with_reducible apply oq_mod) <;> k_clsL)
      | ((with_reducible apply od_lt) <;> k_clsL)
      | ((with_reducible apply od_le) <;> k_clsL)
      | ((with_reducible apply od_gt) <;> k_clsL)
      | ((with_reducible apply od_ge) <;> k_clsL)
      | with_reducible exact oq_ix0
      | with_reducible exact oq_ix1
      | with_reducible exact oq_ix2
      | with_reducible exact oq_ix3
      | with_reducible exact oq_ixl0
      | with_reducible exact oq_ixl1
      | ((with_reducible apply oq_ix_tup) <;> k_clsL)
      | ((with_reducible apply oq_ix_list) <;> k_clsL)
      | ((with_reducible apply oq_ix_lastL) <;> k_clsL)
      | ((with_reducible apply oq_ix_lastT) <;> k_clsL)
      | ((with_reducible apply oq_ix_ints) <;> k_clsL)
      | ((with_reducible apply oq_ix_intsT) <;> k_clsL)
      | ((with_reducible apply oq_ix_lit) <;> k_clsL)
      | ((with_reducible apply oq_ix_s0) <;> k_clsL)
      | ((with_reducible apply oq_ix_str) <;> k_clsL)
      | ((with_reducible apply od_eq_int) <;> k_clsL)
      | ((with_reducible apply oq_eq_strT) <;> k_clsL)
      | ((with_reducible apply oq_eq_strF) <;> k_clsL)
      | ((with_reducible apply od_eq_str) <;> k_clsL)
      | ((with_reducible apply od_eq_bl) <;> k_clsL)
      | ((with_reducible apply oq_eq_nil) <;> k_clsL)
      | ((with_reducible apply oq_eq_ints) <;> k_clsL)
      | ((with_reducible apply oq_eq_any) <;> k_clsL)
      | ((with_reducible apply od_ne_int) <;> k_clsL)
      | ((with_reducible apply oq_ne_strT) <;> k_clsL)
      | ((with_reducible apply oq_ne_strF) <;> k_clsL)
      | ((with_reducible apply od_ne_str) <;> k_clsL)
      | ((with_reducible apply od_ne_bl) <;> k_clsL)
      | ((with_reducible apply oq_ne_nil) <;> k_clsL)
      | ((with_reducible apply oq_ne_ints) <;> k_clsL)
      | ((with_reducible apply oq_ne_any) <;> k_clsL)
      | ((with_reducible apply oq_in_intsT) <;> k_clsL)
      | ((with_reducible apply oq_in_intsL) <;> k_clsL)
      | ((with_reducible apply oq_in_int2) <;> k_clsL)
      | ((with_reducible apply oq_in_listT) <;> k_clsL)
      | ((with_reducible apply oq_in_listF) <;> k_clsL)
      | ((with_reducible apply oq_in_list) <;> k_clsL)
      | ((with_reducible apply oq_in_tup) <;> k_clsL)
      | ((with_reducible apply oq_in_sign) <;> k_clsL)
      | ((with_reducible apply oq_notIn_intsT) <;> k_clsL)
      | ((with_reducible apply oq_notIn_listT) <;> k_clsL)
      | ((with_reducible apply oq_notIn_listF) <;> k_clsL)
      | ((with_reducible apply oq_notIn_list) <;> k_clsL)
      | ((with_reducible apply oq_notIn_tup) <;> k_clsL)
      | ((with_reducible apply oq_notIn_sign) <;> k_clsL))
  | ((with_reducible apply id_ca); first
      | ((with_reducible apply ca_len_list) <;> k_clsL)
      | ((with_reducible apply ca_len_tup) <;> k_clsL)
      | ((with_reducible apply cq_len_str) <;> k_clsL)
      | ((with_reducible apply ca_int_int) <;> k_clsL)
      | ((with_reducible apply ca_int_bl) <;> k_clsL)
      | ((with_reducible apply cq_int_str) <;> k_clsL)
      | ((with_reducible apply cq_strA_int) <;> k_clsL)
      | with_reducible exact cq_strA_str
      | ((with_reducible apply ca_tup_list) <;> k_clsL)
      | ((with_reducible apply ca_tup_tup) <;> k_clsL)
      | ((with_reducible apply ca_max) <;> k_clsL)
      | ((with_reducible apply ca_min) <;> k_clsL)
      | ((with_reducible apply cq_all) <;> k_clsL)
      | ((with_reducible apply cq_any) <;> k_clsL)
      | ((with_reducible apply cq_repr) <;> k_clsL))
  | ((with_reducible apply id_D); first
      | ((with_reducible apply ev_neg) <;> k_clsL)
      | ((with_reducible apply ev_andV) <;> k_clsL)
      | ((with_reducible apply ev_orV) <;> k_clsL)
      | ((with_reducible apply ev_notV) <;> k_clsL)
      | ((with_reducible apply w_chain_ll) <;> k_clsL)
      | ((with_reducible apply w_chain_lt) <;> k_clsL)
      | ((with_reducible apply w_tup) <;> k_clsL)
      | ((with_reducible apply c_sl_restT) <;> k_clsL)
      | ((with_reducible apply c_sl_head) <;> k_clsL)
      | ((with_reducible apply c_sl_tail) <;> k_clsL)
      | ((with_reducible apply w_sl_str) <;> k_clsL)
      | ((with_reducible apply ev_join) <;> k_clsL)
      | ((with_reducible apply w_ifxT) <;> k_clsL)
      | ((with_reducible apply w_ifxF) <;> k_clsL)
      | ((with_reducible apply EvF.ev) <;> k_clsL))
  | ((with_reducible apply id_F); first
      | ((with_reducible apply w_lst) <;> k_clsL)
      | ((with_reducible apply ef_split) <;> k_clsL)
      | ((with_reducible apply w_add_list) <;> k_clsL)
      | ((with_reducible apply w_lcm) <;> k_clsL)
      | ((with_reducible apply w_lci) <;> k_clsL)
      | ((with_reducible apply w_lcn) <;> k_clsL)
      | ((with_reducible apply c_sl_two) <;> k_clsL)
      | ((with_reducible apply c_sl_restL) <;> k_clsL)
      | ((with_reducible apply ef_sl_list) <;> k_clsL)
      | ((with_reducible apply w_list_list) <;> k_clsL)
      | ((with_reducible apply w_list_tup) <;> k_clsL))
  | ((with_reducible apply id_I); first
      | ((with_reducible apply w_rng1) <;> k_clsL)
      | ((with_reducible apply w_rng2) <;> k_clsL)
      | ((with_reducible apply it_rev_list) <;> k_clsL)
      | ((with_reducible apply it_any_list) <;> k_clsL)
      | ((with_reducible apply it_any_tup) <;> k_clsL)
      | ((with_reducible apply it_any_str) <;> k_clsL))
  | ((with_reducible apply id_O); first
      | with_reducible exact eo_none
      | ((with_reducible apply eo_some) <;> k_clsL))
  | ((with_reducible apply id_R); first
      | fail)
  | ((with_reducible apply Side.mk) <;> k_subL)
  | ((with_reducible apply SideD.mk); decide +kernel)
  | ((with_reducible apply SideA.mk); assumption)
  | ((with_reducible apply SideR.mk); first | rfl | assumption)
  | ((with_reducible intro hev); first | exact et_no (absurd hev (by decide +kernel)) | exact ev_no (absurd hev (by decide +kernel)) | exact absurd hev (by decide +kernel) | exact et_dead hev | exact et_dead hev.symm | exact ev_dead hev | exact ev_dead hev.symm | ((with_reducible apply et_no); simp only [Bool.and_eq_true, Bool.or_eq_true, Bool.false_eq_true, and_false, false_and, or_false, false_or, or_self, and_self] at hev; done) | ((with_reducible apply ev_no); simp only [Bool.and_eq_true, Bool.or_eq_true, Bool.false_eq_true, and_false, false_and, or_false, false_or, or_self, and_self] at hev; done) | exact (Bool.false_ne_true hev).elim | exact (Bool.false_ne_true hev.symm).elim | ((try simp only [decide_eq_true_eq, decide_eq_false_iff_not, Bool.and_eq_true, Bool.not_eq_true', Bool.not_eq_false'] at hev) <;> k_clsL))
  | with_reducible exact false
  | (show Int; skip) | (show PyData; skip) | (show Str; skip) | (show List PyData; skip) | (show Nat; skip) | (show List Int; skip))
local macro_rules | `(tactic| k_offL) => `(tactic| first
  | ((with_reducible apply id_wp); first
      | ((with_reducible apply x__law_wide_plain) <;> k_offL)
      | ((with_reducible apply y__law_wide_plain) <;> k_offL)
      | ((with_reducible apply wp_seq) <;> k_offL)
      | ((with_reducible apply w_app) <;> k_offL)
      | ((with_reducible apply wp_clear) <;> k_offL)
      | ((with_reducible apply wp_asg) <;> k_offL)
      | ((with_reducible apply wp_ret) <;> k_offL)
      | ((with_reducible apply wp_drop) <;> k_offL)
      | ((with_reducible apply wp_if) <;> k_offL)
      | ((with_reducible apply wp_next) <;> k_offL)
      | ((with_reducible apply wp_break) <;> k_offL)
      | ((with_reducible apply wp_cont) <;> k_offL)
      | ((with_reducible apply wp_retN) <;> k_offL)
      | ((with_reducible apply wp_raise) <;> k_offL))
  | ((with_reducible apply wh_mk) <;> k_offL)
  | ((with_reducible intro hev); first | exact et_no (absurd hev (by decide +kernel)) | exact ev_no (absurd hev (by decide +kernel)) | exact absurd hev (by decide +kernel) | exact et_dead hev | exact et_dead hev.symm | exact ev_dead hev | exact ev_dead hev.symm | ((with_reducible apply et_no); simp only [Bool.and_eq_true, Bool.or_eq_true, Bool.false_eq_true, and_false, false_and, or_false, false_or, or_self, and_self] at hev; done) | ((with_reducible apply ev_no); simp only [Bool.and_eq_true, Bool.or_eq_true, Bool.false_eq_true, and_false, false_and, or_false, false_or, or_self, and_self] at hev; done) | exact (Bool.false_ne_true hev).elim | exact (Bool.false_ne_true hev.symm).elim | ((try simp only [decide_eq_true_eq, decide_eq_false_iff_not, Bool.and_eq_true, Bool.or_eq_true, Bool.not_eq_true', Bool.not_eq_false', Bool.false_eq_true, and_false, false_and, or_false, false_or, true_and, and_true] at hev) <;> k_offL))
  | k_clsL
  | rfl
  | (dsimp only [List.set_cons_succ, List.set_cons_zero]; k_offL)
  | skip)

section

theorem ok__law_cell_at {P : Program} {w : World} {K : PySem.W.Frag} {mg : Str → Option Value} {base : Heap} {a_BEARING : Addr} (T : Txt K mg a_BEARING) :
    FnB P w K mg base CX0 1 "_law_cell_at" ["_law_script", "_law_k"] (spV K R__law_cell_at) := by
  refine T.t__law_cell_at.ok (fun _ _ _ _ _ _ us hl => match us, hl with | [_, _], _ => rfl) fun f fd F => fn_ok F sc__law_cell_at (by rintro ds d ⟨ns, k, hp, rfl, rfl⟩; rfl) fun cdv A outer s H E hr => ?_
  have hu66 := room66 hr
  have hu := hr.units
  have nd := sc__law_cell_at.nd
  refine ⟨_, (pss_cons (ps_if (pt_cmpR op_ltI (pv 1) (pe_callB (kc_len (K := K) rfl) rfl T.b_len bb_len (pa_cons (pv 0) pa_nil)) (nomark _)) (pss_one (ps_ret (pe_ix (kx_seq (K := K) rfl) (pv 0) (pv 1) (fun _ _ => rfl)))) pss_nil)
    (pss_one (ps_ret pe_int))), ?_⟩
  clear hr hu hu66 nd F
  rintro ds d ⟨ns, k, hp, rfl, rfl⟩
  show WpD _ _ _ [.dat (.list (ns.map .int)), .dat (.int k)] _
  k_offL
  · unfold cell; rename_i h; rw [List.getD_eq_getElem?_getD, List.getElem?_eq_none (by simp only [List.length_map] at h; omega)]; rfl
end
section

theorem ok__law_time {P : Program} {w : World} {K : PySem.W.Frag} {mg : Str → Option Value} {base : Heap} {a_BEARING : Addr} (T : Txt K mg a_BEARING) :
    FnB P w K mg base CX0 1 "_law_time" ["_law_cell"] (spV K R__law_time) := by
  refine T.t__law_time.ok (fun _ _ _ _ _ _ us hl => match us, hl with | [_], _ => rfl) fun f fd F => fn_ok F sc__law_time (by rintro ds d ⟨c, hp, rfl, rfl⟩; rfl) fun cdv A outer s H E hr => ?_
  have hu66 := room66 hr
  have hu := hr.units
  have nd := sc__law_time.nd
  refine ⟨_, (pss_one (ps_ret (pe_ix (kx_seq (K := K) rfl) (pe_lst (pa_cons (pe_op op_modI (pe_op op_divI (pv 0) pe_int) pe_int) (pa_cons (pe_op op_modI (pe_op op_divI (pv 0) pe_int) (pe_op op_powI pe_int pe_int)) (pa_cons (pe_op op_subI (pe_op op_subI (pe_op op_powI pe_int pe_int) pe_int) (pe_op op_modI (pe_op op_divI (pv 0) pe_int) pe_int)) pa_nil)))) (pe_op op_modI (pv 0) pe_int) (fun _ _ => rfl)))), ?_⟩
  clear hr hu hu66 nd F
  rintro ds d ⟨c, hp, rfl, rfl⟩
  show WpD _ _ _ [.dat (.int c)] _
  k_offL
end
section

theorem ok__law_weekdays {P : Program} {w : World} {K : PySem.W.Frag} {mg : Str → Option Value} {base : Heap} {a_BEARING : Addr} (T : Txt K mg a_BEARING) :
    FnB P w K mg base CX0 1 "_law_weekdays" ["_law_bits"] (spV K R__law_weekdays) := by
  refine T.t__law_weekdays.ok (fun _ _ _ _ _ _ us hl => match us, hl with | [_], _ => rfl) fun f fd F => fn_ok F sc__law_weekdays (by rintro ds d ⟨b, hp, rfl, rfl⟩; rfl) fun cdv A outer s H E hr => ?_
  have hu66 := room66 hr
  have hu := hr.units
  have nd := sc__law_weekdays.nd
  refine ⟨_, (pss_cons (ps_set (i := 1) nd rfl (by first | exact Or.inl rfl | exact Or.inr rfl) (pe_lst pa_nil))
    (pss_cons (ps_for PassesOwn.never rfl (pi_range1 rfl T.b_range (pa_cons pe_int pa_nil)) (pg_name (i := 2) nd rfl (by first | exact Or.inl rfl | exact Or.inr rfl)) (pss_cons (ps_if (pt_cmpR (ok_eqA (K := K) rfl hu) (pe_op op_modI (pv 0) pe_int) pe_int (nomark _)) (pss_one (ps_expr (kpe_app (K := K) rfl (pv 1) (pv 2)))) pss_nil)
    (pss_one (ps_set (i := 0) nd rfl (by first | exact Or.inl rfl | exact Or.inr rfl) (pe_op op_divI (pv 0) pe_int)))))
    (pss_one (ps_ret (pe_callTy (kc_tup (K := K) rfl) rfl T.b_tuple bb_tuple (pa_cons (pv 1) pa_nil)))))), ?_⟩
  clear hr hu hu66 nd F
  rintro ds d ⟨b, hp, rfl, rfl⟩
  show WpD _ _ _ [.dat (.int b), .no, .no] _
  refine wp_seq (wp_asg_own (ds := []) ?_ ?_)
  · k_clsL
  dsimp only [List.set_cons_succ, List.set_cons_zero]
  refine wp_seq (wp_fold (zs := List.range 7) (c := fun k : Nat => .int (0 + (k : Int))) wstep ([], b) .no (fun s e => [.dat (.int s.2), .own (s.1.map .int), e]) (fun i s => s.1.length ≤ i) ?_ rfl (Nat.le_refl 0) ?_ ?_)
  · refine w_rng1 (n := 7) ?_ ?_ ?_ <;> k_clsL
  · intro i s x e hx hl hi
    rw [List.length_range] at hi
    k_offL
    all_goals (refine ⟨?_, .dat (.int (0 + (x : Int))), ?_⟩ <;> simp [wstep, *] <;> omega)
  · intro e hl
    refine nx_freeze rfl (i := 1) rfl ?_
    k_offL
end
section

theorem ok__law_wide_plain {P : Program} {w : World} {K : PySem.W.Frag} {mg : Str → Option Value} {base : Heap} {a_BEARING : Addr} (T : Txt K mg a_BEARING)
    (c__law_time : FnB P w K mg base CX0 1 "_law_time" ["_law_cell"] (spV K R__law_time))
    (c__law_weekdays : FnB P w K mg base CX0 1 "_law_weekdays" ["_law_bits"] (spV K R__law_weekdays)) :
    FnB P w K mg base CX0 2 "_law_wide_plain" ["_law_cells"] (spE K R__law_wide_plain) := by
  refine T.t__law_wide_plain.ok (fun _ _ _ _ _ _ us hl => match us, hl with | [_], _ => rfl) fun f fd F => fn_okE F sc__law_wide_plain (by rintro ds d ⟨c0, c1, c2, hp, rfl, rfl⟩; rfl) fun cdv A outer s H E hr => ?_
  have hu66 := room66 hr
  have hu := hr.units
  have nd := sc__law_wide_plain.nd
  refine ⟨_, (pss_cons (ps_set (i := 1) nd rfl (by first | exact Or.inl rfl | exact Or.inr rfl) (pe_op op_modI (pe_ix (kx_seq (K := K) rfl) (pv 0) pe_int (fun _ _ => rfl)) pe_int))
    (pss_cons (ps_set (i := 2) nd rfl (by first | exact Or.inl rfl | exact Or.inr rfl) (pe_op (ok_addA (K := K) rfl) pe_int (pe_op op_modI (pe_op op_divI (pe_ix (kx_seq (K := K) rfl) (pv 0) pe_int (fun _ _ => rfl)) pe_int) pe_int)))
    (pss_cons (ps_if (pt_cmpR (ok_eqA (K := K) rfl hu) (pv 1) pe_int (nomark _)) (pss_one (ps_ret (pe_tup (pa_cons pe_str (pa_cons (pe_callF c__law_time (hr.mono (by decide)) rfl pass0 (pa_cons (pe_ix (kx_seq (K := K) rfl) (pv 0) pe_int (fun _ _ => rfl)) pa_nil)) (pa_cons (pv 2) pa_nil)))))) pss_nil)
    (pss_cons (ps_if (pt_cmpR (ok_eqA (K := K) rfl hu) (pv 1) pe_int (nomark _)) (pss_one (ps_ret (pe_tup (pa_cons pe_str (pa_cons (pe_callF c__law_time (hr.mono (by decide)) rfl pass0 (pa_cons (pe_ix (kx_seq (K := K) rfl) (pv 0) pe_int (fun _ _ => rfl)) pa_nil)) (pa_cons (pv 2) (pa_cons (pe_op (ok_addA (K := K) rfl) pe_int (pe_ix (kx_seq (K := K) rfl) (pe_lst (pa_cons (pe_op op_modI (pe_op op_divI (pe_ix (kx_seq (K := K) rfl) (pv 0) pe_int (fun _ _ => rfl)) pe_int) pe_int) (pa_cons (pe_op op_modI (pe_op op_divI (pe_ix (kx_seq (K := K) rfl) (pv 0) pe_int (fun _ _ => rfl)) pe_int) (pe_op op_powI pe_int pe_int)) pa_nil))) (pe_op op_modI (pe_ix (kx_seq (K := K) rfl) (pv 0) pe_int (fun _ _ => rfl)) pe_int) (fun _ _ => rfl))) pa_nil))))))) pss_nil)
    (pss_cons (ps_if (pt_cmpR (ok_eqA (K := K) rfl hu) (pv 1) pe_int (nomark _)) (pss_one (ps_ret (pe_tup (pa_cons pe_str (pa_cons (pe_callF c__law_weekdays (hr.mono (by decide)) rfl pass0 (pa_cons (pe_op (ok_addA (K := K) rfl) pe_int (pe_op op_modI (pe_ix (kx_seq (K := K) rfl) (pv 0) pe_int (fun _ _ => rfl)) pe_int)) pa_nil)) (pa_cons (pe_op op_modI (pe_ix (kx_seq (K := K) rfl) (pv 0) pe_int (fun _ _ => rfl)) pe_int) (pa_cons (pv 2) pa_nil))))))) pss_nil)
    (pss_cons (ps_set (i := 3) nd rfl (by first | exact Or.inl rfl | exact Or.inr rfl) (pe_op op_subI (pe_op op_modI (pe_ix (kx_seq (K := K) rfl) (pv 0) pe_int (fun _ _ => rfl)) pe_int) pe_int))
    (pss_one (ps_ret (pe_tup (pa_cons pe_str (pa_cons (pe_op (ok_addA (K := K) rfl) (pv 3) (pe_callTy call_intA rfl T.b_int bb_int (pa_cons (pe_cmpR op_geI (pv 3) pe_int (nomark _)) pa_nil))) (pa_cons (pe_op op_modI (pe_ix (kx_seq (K := K) rfl) (pv 0) pe_int (fun _ _ => rfl)) pe_int) (pa_cons (pv 2) pa_nil))))))))))))), ?_⟩
  clear hr hu hu66 nd F c__law_time c__law_weekdays
  rintro ds d ⟨c0, c1, c2, hp, rfl, rfl⟩
  show WpD _ _ _ [.dat (.list [.int c0, .int c1, .int c2]), .no, .no, .no] _
  k_offL
  · exact ⟨.once (timeOf c1) (1 + c0 / 4 % 48), ⟨rfl, timeOf_in _, by constructor <;> omega⟩, rfl⟩
  · refine ⟨.every (timeOf c1) (1 + c0 / 4 % 48) _, ⟨rfl, timeOf_in _, by constructor <;> omega, ?_⟩, rfl⟩
    have h2 : c2 % 2 = 0 ∨ c2 % 2 = 1 := by omega
    rcases h2 with h | h <;> rw [h] <;> simp <;> omega
  · refine ⟨.week (wd (1 + c2 % 127)) (c1 % 24) (1 + c0 / 4 % 48), ⟨rfl, ⟨?_, ?_⟩, by omega, by constructor <;> omega⟩, rfl⟩
    · exact (wd_good (by omega) (by omega)).1
    · have := wd_good (b := 1 + c2 % 127) (by omega) (by omega)
      exact ⟨wd_ne (by omega) (by omega), fun d hd => small_of (by have := this.2.1 d hd; omega) (by have := this.2.1 d hd; omega), by have := this.2.2; omega⟩
  · refine ⟨.month _ (c1 % 24) (1 + c0 / 4 % 48), ⟨rfl, ?_, by omega, by constructor <;> omega⟩, rfl⟩
    by_cases h : 0 ≤ c2 % 62 - 31
    · rw [decide_eq_true h]; simp; omega
    · rw [decide_eq_false h]; simp; omega
end
section

theorem ok__law_wide_head {P : Program} {w : World} {K : PySem.W.Frag} {mg : Str → Option Value} {base : Heap} {a_BEARING : Addr} (T : Txt K mg a_BEARING)
    (c__law_time : FnB P w K mg base CX0 1 "_law_time" ["_law_cell"] (spV K R__law_time)) :
    FnB P w K mg base CX0 2 "_law_wide_head" ["_law_cell", "_law_rule"] (spV K R__law_wide_head) := by
  refine T.t__law_wide_head.ok (fun _ _ _ _ _ _ us hl => match us, hl with | [_, _], _ => rfl) fun f fd F => fn_ok F sc__law_wide_head (by rintro ds d ⟨c, r, hp, rfl, rfl⟩; rfl) fun cdv A outer s H E hr => ?_
  have hu66 := room66 hr
  have hu := hr.units
  have nd := sc__law_wide_head.nd
  refine ⟨_, (pss_cons (ps_set (i := 2) nd rfl (by first | exact Or.inl rfl | exact Or.inr rfl) (pe_ix (kx_seq (K := K) rfl) (pe_lst (pa_cons pe_str (pa_cons pe_str (pa_cons pe_str (pa_cons pe_str pa_nil))))) (pe_op op_modI (pv 0) pe_int) (fun _ _ => rfl)))
    (pss_cons (ps_if (pt_cmpR (ok_neA (K := K) rfl hu) (pv 2) pe_str (nomark _)) (pss_one (ps_ret (pe_tup (pa_cons (pv 2) (pa_cons (pe_callF c__law_time (hr.mono (by decide)) rfl pass0 (pa_cons (pe_op op_divI (pv 0) pe_int) pa_nil)) (pa_cons (pv 1) pa_nil)))))) pss_nil)
    (pss_cons (ps_set (i := 3) nd rfl (by first | exact Or.inl rfl | exact Or.inr rfl) (pe_op (ok_addA (K := K) rfl) pe_int (pe_op op_modI (pe_op op_divI (pv 0) pe_int) pe_int)))
    (pss_cons (ps_set (i := 4) nd rfl (by first | exact Or.inl rfl | exact Or.inr rfl) (pe_ix (kx_seq (K := K) rfl) (pe_lst (pa_cons (pe_op op_modI (pe_op op_divI (pv 0) pe_int) pe_int) (pa_cons (pe_op op_modI (pe_op op_divI (pv 0) pe_int) (pe_op op_subI (pe_op op_powI pe_int pe_int) pe_int)) (pa_cons (pe_op op_subI (pe_op op_powI pe_int pe_int) (pe_op op_mulI (pv 3) pe_int)) pa_nil)))) (pe_op op_modI (pe_op op_divI (pv 0) pe_int) pe_int) (fun _ _ => rfl)))
    (pss_one (ps_ret (pe_tup (pa_cons (pv 2) (pa_cons (pe_callTy (kc_tup (K := K) rfl) rfl T.b_tuple bb_tuple (pa_cons (pe_lc (own := [("_law_k", 5)]) rfl nd (pi_range1 rfl T.b_range (pa_cons (pv 3) pa_nil)) (blkOk_by (N := ["_law_cell", "_law_rule", "_law_word", "_law_many", "_law_day", "_law_k"]) (sc := defScope s__law_wide_head) (by decide +kernel)) (fun _ _ _ _ _ => (pg_name (i := 5) nd rfl (by first | exact Or.inl rfl | exact Or.inr rfl))) (fun _ _ _ _ _ => pts_nil) (fun _ _ _ _ _ => (pe_op (ok_addA (K := K) rfl) (pv 4) (pe_op op_mulI (pv 5) (pe_op (ok_addA (K := K) rfl) pe_int (pe_op op_modI (pe_op op_divI (pv 0) pe_int) pe_int)))))) pa_nil)) (pa_cons (pv 1) pa_nil)))))))))), ?_⟩
  clear hr hu hu66 nd F c__law_time
  rintro ds d ⟨c, r, hp, rfl, rfl⟩
  show WpD _ _ _ [.dat (.int c), .dat (toD r), .no, .no, .no, .no] _
  have h4 : c % 4 = 0 ∨ c % 4 = 1 ∨ c % 4 = 2 ∨ c % 4 = 3 := by omega
  rcases h4 with h | h | h | h
  · refine wp_seq (wp_asg (d := .str "from") (c_ixLs (i := 0) (w_lst (ea_cons ev_str (ea_cons ev_str (ea_cons ev_str (ea_cons ev_str ea_nil)))) ⟨by decide⟩).ev (ev_to (w_mod (ev_var rfl) ev_int ⟨by decide⟩) (by rw [h])) ⟨rfl⟩) ?_)
    have e : wHead c r = .fr (timeOf (c / 4)) r := if_pos h
    rw [e]
    k_offL
  · refine wp_seq (wp_asg (d := .str "until") (c_ixLs (i := 1) (w_lst (ea_cons ev_str (ea_cons ev_str (ea_cons ev_str (ea_cons ev_str ea_nil)))) ⟨by decide⟩).ev (ev_to (w_mod (ev_var rfl) ev_int ⟨by decide⟩) (by rw [h])) ⟨rfl⟩) ?_)
    have e : wHead c r = .un (timeOf (c / 4)) r := by unfold wHead; rw [if_neg (by omega), if_pos h]
    rw [e]
    k_offL
  · refine wp_seq (wp_asg (d := .str "also") (c_ixLs (i := 2) (w_lst (ea_cons ev_str (ea_cons ev_str (ea_cons ev_str (ea_cons ev_str ea_nil)))) ⟨by decide⟩).ev (ev_to (w_mod (ev_var rfl) ev_int ⟨by decide⟩) (by rw [h])) ⟨rfl⟩) ?_)
    have e : wHead c r = .al (timeOf (c / 4)) r := by unfold wHead; rw [if_neg (by omega), if_neg (by omega), if_pos h]
    rw [e]
    k_offL
  · refine wp_seq (wp_asg (d := .str "but") (c_ixLs (i := 3) (w_lst (ea_cons ev_str (ea_cons ev_str (ea_cons ev_str (ea_cons ev_str ea_nil)))) ⟨by decide⟩).ev (ev_to (w_mod (ev_var rfl) ev_int ⟨by decide⟩) (by rw [h])) ⟨rfl⟩) ?_)
    have e : wHead c r = .bu (wDays c) r := by unfold wHead; rw [if_neg (by omega), if_neg (by omega), if_neg (by omega)]
    rw [e]
    k_offL
    all_goals first | (unfold wDays; simp only [toD, List.map_map]; rfl) | trace_state
end
section

theorem ok__law_levels {P : Program} {w : World} {K : PySem.W.Frag} {mg : Str → Option Value} {base : Heap} {a_BEARING : Addr} (T : Txt K mg a_BEARING)
    (c__law_wide_plain : FnB P w K mg base CX0 2 "_law_wide_plain" ["_law_cells"] (spE K R__law_wide_plain))
    (c__law_cell_at : FnB P w K mg base CX0 1 "_law_cell_at" ["_law_script", "_law_k"] (spV K R__law_cell_at))
    (c__law_wide_head : FnB P w K mg base CX0 2 "_law_wide_head" ["_law_cell", "_law_rule"] (spV K R__law_wide_head)) :
    FnB P w K mg base CX0 3 "_law_levels" ["_law_script"] (spW (nestW K) R__law_levels) := by
  refine T.t__law_levels.ok (fun _ _ _ _ _ _ us hl => match us, hl with | [_], _ => rfl) fun f fd F => fn_okW F sc__law_levels (by rintro es s0 O ⟨ns, hp, rfl, rfl, rfl⟩; rfl) fun cdv A outer s H E hr => ?_
  have hu66 := room66 hr
  have hu := hr.units
  have nd := sc__law_levels.nd
  refine ⟨_, (pss_cons (ps_set (i := 1) nd rfl (by first | exact Or.inl rfl | exact Or.inr rfl) (pe_callF c__law_wide_plain (hr.mono (by decide)) rfl pass0 (pa_cons (pe_lc (own := [("_law_k", 3)]) rfl nd (pi_range1 rfl T.b_range (pa_cons pe_int pa_nil)) (blkOk_by (N := ["_law_script", "_law_rule", "_law_levels_here", "_law_k"]) (sc := defScope s__law_levels) (by decide +kernel)) (fun _ _ _ _ _ => (pg_name (i := 3) nd rfl (by first | exact Or.inl rfl | exact Or.inr rfl))) (fun _ _ _ _ _ => pts_nil) (fun _ _ _ _ _ => (pe_callF c__law_cell_at (hr.mono (by decide)) rfl pass0 (pa_cons (pv 0) (pa_cons (pv 3) pa_nil))))) pa_nil)))
    (pss_cons (ps_set (i := 2) nd rfl (by first | exact Or.inl rfl | exact Or.inr rfl) (pe_lst (pa_cons (pe_callTy (kc_list (K := K) rfl) rfl T.b_list bb_list (pa_cons (pv 1) pa_nil)) pa_nil)))
    (pss_cons (ps_for PassesOwn.never rfl (pi_range1 rfl T.b_range (pa_cons (pe_op op_modI (pe_callF c__law_cell_at (hr.mono (by decide)) rfl pass0 (pa_cons (pv 0) (pa_cons pe_int pa_nil))) pe_int) pa_nil)) (pg_name (i := 3) nd rfl (by first | exact Or.inl rfl | exact Or.inr rfl)) (pss_one (ps_expr (kpe_app (K := K) rfl (pv 2) (pe_slice (kl_any (K := K) rfl) (pe_callTy (kc_list (K := K) rfl) rfl T.b_list bb_list (pa_cons (pe_callF c__law_wide_head (hr.mono (by decide)) rfl pass0 (pa_cons (pe_callF c__law_cell_at (hr.mono (by decide)) rfl pass0 (pa_cons (pv 0) (pa_cons (pe_op (ok_addA (K := K) rfl) pe_int (pv 3)) pa_nil))) (pa_cons (pv 1) pa_nil))) pa_nil)) po_none (po_some pe_int))))))
    (pss_one (ps_ret (pv 2)))))), ?_⟩
  clear hr hu hu66 nd F c__law_wide_plain c__law_cell_at c__law_wide_head
  rintro es s0 O ⟨ns, hp, rfl, rfl, rfl⟩
  show WpW _ _ _ [.dat (.list (ns.map .int)), .no, .no, .no] (none) _
  refine ww_seq (ww_pure (x__law_wide_plain (c0 := cell ns 0) (c1 := cell ns 1) (c2 := cell ns 2) (ea_cons (ev_to (x := .list ((List.range 3).map fun k : Nat => .int (cell ns (0 + (k : Int))))) ?_ rfl) ea_nil) ⟨trivial⟩ ?_))
  · refine EvF.ev (w_lcm (zs := List.range 3) (c := fun k : Nat => .int (0 + (k : Int))) (h := fun k : Nat => .int (cell ns (0 + (k : Int)))) ?_ ⟨by decide⟩ ⟨by decide⟩ fun y hy => ?_)
    · refine w_rng1 (n := 3) ?_ ?_ ?_ <;> k_clsL
    · k_clsL
  rintro q ⟨hpl, hg⟩
  dsimp only [List.set_cons_succ, List.set_cons_zero]
  obtain ⟨rs, hrs, hin⟩ := plain_row hpl hg
  refine ww_seq (ww_asg (ew_nest1 (w_list_tup (ea_cons (ev_to (ev_var rfl) hrs) ea_nil))) ?_)
  rintro _ _ ⟨p, q1, vs, rfl, rfl⟩
  dsimp only [List.set_cons_succ, List.set_cons_zero]
  refine ww_seq (ww_forn (xs := (List.range (cell ns 3 % 9).toNat).map fun k : Nat => .int (0 + (k : Int))) (fun i Γ' s' => ∃ n e3, n.rows ≠ [] ∧ n.rows.length = i + 1 ∧ (∀ r ∈ n.rows, RowIn r.ds) ∧ s' = some n ∧ Γ' = [.dat (.list (ns.map .int)), .dat (toD q), .val (.ref n.p), e3]) (w_rng1 ?_ ⟨by omega⟩ ⟨by omega⟩) ⟨⟨p, [⟨q1, vs, rs⟩]⟩, _, by simp, rfl, (fun r hr => by simp at hr; subst hr; exact hin), rfl, rfl⟩ ?_ ?_)
  · k_clsL
  · rintro i x _ _ hx ⟨n, e3, hne, hnl, hrow, rfl, rfl⟩
    have hi := (List.getElem?_eq_some_iff.mp hx).1
    rw [List.length_map, List.length_range] at hi
    rw [List.getElem?_map, List.getElem?_range hi] at hx
    obtain rfl := Option.some.inj hx
    dsimp only [List.set_cons_succ, List.set_cons_zero]
    obtain ⟨a, b, e, hab⟩ := head_row (cell ns (8 + (0 + (i : Int)))) q
    refine ww_nest_app (n := n) (ds := [a, b]) rfl ?_ (by omega) ?_
    · have h2 : cutD [a, b, toD q] none (some 2) = [a, b] := cut_pre2
      rw [← h2]
      refine ef_sl_list (EvF.ev (w_list_tup (ea_cons (ev_to ?_ e) ea_nil))) eo_none (eo_some ev_int)
      k_clsL
    · intro q2 us
      refine ⟨⟨n.p, n.rows ++ [⟨q2, us, [a, b]⟩]⟩, _, by simp, by simp; omega, fun r hr => ?_, rfl, rfl⟩
      rcases List.mem_append.mp hr with hr | hr
      · exact hrow r hr
      · simp at hr; subst hr; exact hab
  rintro _ _ ⟨n, e3, hne, hnl, hrow, rfl, rfl⟩
  rw [List.length_map, List.length_range] at hnl
  refine ww_ret (ew_ee (ee_val (v := .ref n.p) rfl) (N := fun e s => e = .val (.ref n.p) ∧ s = some n) ⟨rfl, rfl⟩) ?_
  rintro _ _ ⟨rfl, rfl⟩
  exact ⟨n, rfl, hne, by omega, hrow⟩
end
section

theorem ok__law_odd {P : Program} {w : World} {K : PySem.W.Frag} {mg : Str → Option Value} {base : Heap} {a_BEARING : Addr} (T : Txt K mg a_BEARING) :
    FnB P w K mg base CX0 1 "_law_odd" ["_law_cell"] (spV K R__law_odd) := by
  refine T.t__law_odd.ok (fun _ _ _ _ _ _ us hl => match us, hl with | [_], _ => rfl) fun f fd F => fn_ok F sc__law_odd (by rintro ds d ⟨c, hp, rfl, rfl⟩; rfl) fun cdv A outer s H E hr => ?_
  have hu66 := room66 hr
  have hu := hr.units
  have nd := sc__law_odd.nd
  refine ⟨_, (pss_cons (ps_set (i := 1) nd rfl (by first | exact Or.inl rfl | exact Or.inr rfl) (pe_lst (pa_cons pe_bl (pa_cons pe_bl (pa_cons pe_non (pa_cons pe_str (pa_cons pe_str (pa_cons (pe_un un_neg pe_int) (pa_cons pe_int (pa_cons pe_int (pa_cons pe_int (pa_cons pe_int (pa_cons pe_int (pa_cons pe_int (pa_cons pe_int (pa_cons pe_int (pa_cons (pe_un un_neg pe_int) (pa_cons (pe_un un_neg pe_int) (pa_cons pe_int (pa_cons pe_int (pa_cons (pe_op op_powI pe_int pe_int) (pa_cons (pe_op (ok_addA (K := K) rfl) (pe_op op_powI pe_int pe_int) pe_int) pa_nil))))))))))))))))))))))
    (pss_cons (ps_set (i := 1) nd rfl (by first | exact Or.inl rfl | exact Or.inr rfl) (pe_op (ok_addA (K := K) rfl) (pv 1) (pe_lst (pa_cons (pe_op op_subI (pe_op op_powI pe_int pe_int) pe_int) (pa_cons (pe_op op_powI pe_int pe_int) (pa_cons (pe_op op_powI pe_int pe_int) (pa_cons (pe_tup pa_nil) (pa_cons (pe_tup (pa_cons pe_int (pa_cons pe_int pa_nil))) (pa_cons (pe_tup (pa_cons pe_int (pa_cons pe_int pa_nil))) (pa_cons (pe_tup (pa_cons pe_int (pa_cons pe_int pa_nil))) (pa_cons (pe_lst (pa_cons pe_int pa_nil)) (pa_cons (pe_tup (pa_cons pe_bl pa_nil)) (pa_cons (pe_tup (pa_cons (pe_op op_powI pe_int pe_int) pa_nil)) pa_nil)))))))))))))
    (pss_cons (ps_set (i := 1) nd rfl (by first | exact Or.inl rfl | exact Or.inr rfl) (pe_op (ok_addA (K := K) rfl) (pv 1) (pe_lst (pa_cons (pe_callTy (kc_tup (K := K) rfl) rfl T.b_tuple bb_tuple (pa_cons (pe_lc (own := [("_law_k", 2)]) rfl nd (pi_range1 rfl T.b_range (pa_cons pe_int pa_nil)) (blkOk_by (N := ["_law_cell", "_law_some", "_law_k"]) (sc := defScope s__law_odd) (by decide +kernel)) (fun _ _ _ _ _ => (pg_name (i := 2) nd rfl (by first | exact Or.inl rfl | exact Or.inr rfl))) (fun _ _ _ _ _ => pts_nil) (fun _ _ _ _ _ => (pv 2))) pa_nil)) (pa_cons (pe_tup (pa_cons pe_str (pa_cons pe_int (pa_cons pe_int pa_nil)))) (pa_cons (pe_un un_neg (pe_op op_powI pe_int pe_int)) pa_nil))))))
    (pss_one (ps_ret (pe_ix (kx_seq (K := K) rfl) (pv 1) (pe_op op_modI (pv 0) pe_int) (fun _ _ => rfl))))))), ?_⟩
  clear hr hu hu66 nd F
  rintro ds d ⟨c, hp, rfl, rfl⟩
  show WpD _ _ _ [.dat (.int c), .no, .no] _
  iterate 3
    refine wp_seq ?_
    with_reducible apply wp_asg
    · k_clsL
    dsimp only [List.set_cons_succ, List.set_cons_zero]
  show WpD _ _ _ [.dat (.int c), .dat (.list ODDL), .no] _
  refine wp_ret (ev_op (ev_var rfl) ?_ (oq_ix_list (i := c % 33) ⟨atI_getD (xs := ODDL) .none (by omega) (by show c % 33 < 33; omega)⟩)) rfl
  k_clsL
end
section

theorem ok__law_spoilt {P : Program} {w : World} {K : PySem.W.Frag} {mg : Str → Option Value} {base : Heap} {a_BEARING : Addr} (T : Txt K mg a_BEARING)
    (c__law_odd : FnB P w K mg base CX0 1 "_law_odd" ["_law_cell"] (spV K R__law_odd)) :
    FnB P w K mg base CX0 2 "_law_spoilt" ["_law_levels_here", "_law_way", "_law_cell"] (spW (nestW K) R__law_spoilt) := by
  refine T.t__law_spoilt.ok (fun _ _ _ _ _ _ us hl => match us, hl with | [_, _, _], _ => rfl) fun f fd F => fn_okW F sc__law_spoilt (by rintro es s0 O ⟨n, way, c, hp, rfl, rfl, rfl⟩; rfl) fun cdv A outer s H E hr => ?_
  have hu66 := room66 hr
  have hu := hr.units
  have nd := sc__law_spoilt.nd
  refine ⟨_, (pss_cons (ps_set (i := 3) nd rfl (by first | exact Or.inl rfl | exact Or.inr rfl) (pe_ix (kx_seq (K := K) rfl) (pv 0) (pe_op op_modI (pv 2) (pe_callB (kc_len (K := K) rfl) rfl T.b_len bb_len (pa_cons (pv 0) pa_nil))) (fun _ _ => rfl)))
    (pss_cons (ps_if (pt_cmpR (ok_eqA (K := K) rfl hu) (pv 1) pe_int (nomark _)) (pss_one (ps_asg (pe_callF c__law_odd (hr.mono (by decide)) rfl pass0 (pa_cons (pe_op op_divI (pv 2) pe_int) pa_nil)) (pg_sub (pv 3) (pe_op (ok_addA (K := K) rfl) pe_int (pe_op op_modI (pe_op op_divI (pv 2) pe_int) (pe_op op_subI (pe_callB (kc_len (K := K) rfl) rfl T.b_len bb_len (pa_cons (pv 3) pa_nil)) pe_int))) set_list))) pss_nil)
    (pss_cons (ps_if (pt_cmpR (ok_eqA (K := K) rfl hu) (pv 1) pe_int (nomark _)) (pss_one (ps_expr (kpe_app (K := K) rfl (pv 3) (pe_callF c__law_odd (hr.mono (by decide)) rfl pass0 (pa_cons (pe_op op_divI (pv 2) pe_int) pa_nil))))) pss_nil)
    (pss_cons (ps_if (pt_cmpR (ok_eqA (K := K) rfl hu) (pv 1) pe_int (nomark _)) (pss_one (ps_expr (kpe_pop (K := K) rfl (pv 3)))) pss_nil)
    (pss_cons (ps_if (PW.pt (pw_and (pt_cmpR (ok_eqA (K := K) rfl hu) (pv 1) pe_int (nomark _)) (pw_and1 (pt_val (pe_callB (kc_isi (K := K) rfl) rfl T.b_isinstance bb_isinstance (pa_cons (pe_ix (kx_seq (K := K) rfl) (pv 3) pe_int (fun _ _ => rfl)) (pa_cons (pe_ty T.b_tuple bb_tuple rfl) pa_nil))))))) (pss_cons (ps_set (i := 4) nd rfl (by first | exact Or.inl rfl | exact Or.inr rfl) (pe_ix (kx_seq (K := K) rfl) (pv 3) pe_int (fun _ _ => rfl)))
    (pss_cons (ps_set (i := 5) nd rfl (by first | exact Or.inl rfl | exact Or.inr rfl) (pe_lst (pa_cons (pe_op (ok_addA (K := K) rfl) (pv 4) (pe_slice (kl_anyX (K := K) rfl) (pv 4) (po_some (pe_un un_neg pe_int)) po_none)) (pa_cons (pe_op (ok_addA (K := K) rfl) (pe_slice (kl_anyX (K := K) rfl) (pv 4) po_none (po_some pe_int)) (pv 4)) (pa_cons (pe_revT (K := K) rfl (pv 4)) (pa_cons (pe_op (ok_addA (K := K) rfl) (pv 4) (pe_tup (pa_cons pe_int (pa_cons pe_int pa_nil)))) (pa_cons (pe_callTy (kc_list (K := K) rfl) rfl T.b_list bb_list (pa_cons (pv 4) pa_nil)) pa_nil)))))))
    (pss_cons (ps_set (i := 5) nd rfl (by first | exact Or.inl rfl | exact Or.inr rfl) (pe_op (ok_addA (K := K) rfl) (pv 5) (pe_lst (pa_cons (pe_tup pa_nil) (pa_cons (pe_op (ok_addA (K := K) rfl) (pe_tup (pa_cons (pe_un un_neg pe_int) pa_nil)) (pv 4)) (pa_cons (pe_op (ok_addA (K := K) rfl) (pv 4) (pe_tup (pa_cons pe_bl pa_nil))) pa_nil))))))
    (pss_one (ps_asg (pe_ix (kx_seq (K := K) rfl) (pv 5) (pe_op op_modI (pe_op op_divI (pv 2) pe_int) pe_int) (fun _ _ => rfl)) (pg_sub (pv 3) pe_int set_list)))))) pss_nil)
    (pss_one (ps_if (pt_cmpR (ok_eqA (K := K) rfl hu) (pv 1) pe_int (nomark _)) (pss_cons (ps_set (i := 5) nd rfl (by first | exact Or.inl rfl | exact Or.inr rfl) (pe_lst (pa_cons pe_str (pa_cons pe_str (pa_cons pe_str (pa_cons pe_str (pa_cons pe_str (pa_cons pe_str (pa_cons pe_str (pa_cons pe_str (pa_cons pe_str (pa_cons pe_str (pa_cons pe_str pa_nil)))))))))))))
    (pss_cons (ps_set (i := 5) nd rfl (by first | exact Or.inl rfl | exact Or.inr rfl) (pe_op (ok_addA (K := K) rfl) (pv 5) (pe_lst (pa_cons pe_non (pa_cons pe_int (pa_cons (pe_tup (pa_cons pe_str pa_nil)) pa_nil))))))
    (pss_one (ps_asg (pe_ix (kx_seq (K := K) rfl) (pv 5) (pe_op op_modI (pe_op op_divI (pv 2) pe_int) pe_int) (fun _ _ => rfl)) (pg_sub (pv 3) pe_int set_list))))) pss_nil))))))), ?_⟩
  clear hr hu hu66 nd F c__law_odd
  rintro es s0 O ⟨n, way, c, hp, rfl, rfl, rfl⟩
  show WpW _ _ _ [.val (.ref n.p), .dat (.int way), .dat (.int c), .no, .no, .no] (some n) _
  obtain ⟨hne, hrow⟩ := hp
  have hpos : 0 < n.rows.length := List.length_pos_iff.mpr hne
  have hm : 0 ≤ c % (n.rows.length : Int) ∧ c % (n.rows.length : Int) < n.rows.length := ⟨Int.emod_nonneg _ (by omega), Int.emod_lt_of_pos _ (by omega)⟩
  obtain ⟨r, hr⟩ : ∃ r, n.rows[(c % (n.rows.length : Int)).toNat]? = some r := ⟨_, List.getElem?_eq_getElem (by omega)⟩
  have hrm := List.mem_of_getElem? hr
  have hat : atI (n.rows.map fun r => V.ref r.q) (c % (n.rows.length : Int)) = some (.ref r.q) := by
    have e : c % (n.rows.length : Int) = (((c % (n.rows.length : Int)).toNat : Nat) : Int) := by omega
    rw [e]
    refine atI_nat ?_
    rw [List.getElem?_map, hr]; rfl
  refine ww_seq (ww_asg (ew_ee (ee_cix (ee_val (v := .ref n.p) rfl) (nest_top (K := K) (n := n)) (w_mod (ev_var rfl) (ev_to (ed_clen (ee_val (v := .ref n.p) rfl) (nest_top (K := K) (n := n))) (by rw [List.length_map])) ⟨by omega⟩) hat) (N := fun e s => e = .val (.ref r.q) ∧ s = some n) ⟨rfl, rfl⟩) ?_)
  rintro _ _ ⟨rfl, rfl⟩
  dsimp only [List.set_cons_succ, List.set_cons_zero]
  have hR := nest_row (K := K) hrm
  have hin := hrow r hrm
  have hall : ∀ x ∈ n.rows, RowOut x.ds := fun x hx => (hrow x hx).out
  have hself : ∃ n', Out.ok (.dat .none) (some n) = .ok (.dat .none) (some n') ∧ n'.p = n.p ∧ n'.rows.length = n.rows.length ∧ ∀ r ∈ n'.rows, RowOut r.ds := ⟨n, rfl, rfl, rfl, hall⟩
  have hput : ∀ vs ds, RowOut ds → ∃ n', Out.ok (.dat .none) (some (n.put r vs ds)) = .ok (.dat .none) (some n') ∧ n'.p = n.p ∧ n'.rows.length = n.rows.length ∧ ∀ r ∈ n'.rows, RowOut r.ds := fun vs ds h => ⟨_, rfl, rfl, put_len, put_rows hall h⟩
  refine ww_know (φ := r.vs.length = r.ds.length) (fun B hB => dpa_len (hB.2.2 r hrm)) fun hlen => ?_
  obtain ⟨h4, hth, w, x, rest, hds, hx⟩ := hin
  have hl2 : 2 ≤ r.ds.length := by rw [hds]; simp
  by_cases w1 : way = 1
  · subst w1
    refine ww_seq (ww_if (b := true) (by (with_reducible apply et_to); (focus k_clsL); rfl) (fun _ => ?_) (fun z => by cases z))
    have hi : 0 ≤ 1 + c / 9 % ((r.ds.length : Int) - 1) ∧ 1 + c / 9 % ((r.ds.length : Int) - 1) < r.ds.length := by
      have h1 := Int.emod_nonneg (c / 9) (show (r.ds.length : Int) - 1 ≠ 0 by omega)
      have h2 := Int.emod_lt_of_pos (c / 9) (show 0 < (r.ds.length : Int) - 1 by omega)
      omega
    refine ww_row_set (r := r) (j := (1 + c / 9 % ((r.ds.length : Int) - 1)).toNat) (d := oddOf (c / 36)) (k := 1 + c / 9 % ((r.ds.length : Int) - 1)) rfl hrm ?_ ?_ ?_ fun v => ?_
    · k_clsL
    · with_reducible apply ev_op
      · exact ev_int
      · with_reducible apply ev_op
        · k_clsL
        · with_reducible apply ev_op
          · exact ed_llen (ee_val (v := .ref r.q) rfl) hR
          · exact ev_int
          · k_clsL
        · refine oq_mod ⟨?_⟩
          omega
      · k_clsL
    · rw [hlen]
      have e : 1 + c / 9 % ((r.ds.length : Int) - 1) = (((1 + c / 9 % ((r.ds.length : Int) - 1)).toNat : Nat) : Int) := by omega
      rw [e]
      exact ixN_of (by omega)
    refine ww_seq (ww_if (b := false) (by (with_reducible apply et_to); (focus k_clsL); rfl) (fun z => by cases z) fun _ => ww_next ?_)
    dsimp only
    refine ww_seq (ww_if (b := false) (by (with_reducible apply et_to); (focus k_clsL); rfl) (fun z => by cases z) fun _ => ww_next ?_)
    dsimp only
    refine ww_seq (ww_if (b := false) ?_ (fun z => by cases z) fun _ => ww_next ?_)
    · with_reducible apply et_to
      · exact et_and (b := false) (et_test (ev_eq_int (ev_var rfl) ev_int)) fun z => absurd z (by decide)
      · rfl
    dsimp only
    refine ww_if (b := false) (by (with_reducible apply et_to); (focus k_clsL); rfl) (fun z => by cases z) fun _ => ww_next ?_
    exact hput _ _ (RowOut.set (hall r hrm) (odd_th _))
  by_cases w2 : way = 2
  · subst w2
    refine ww_seq (ww_if (b := false) (by (with_reducible apply et_to); (focus k_clsL); rfl) (fun z => by cases z) fun _ => ww_next ?_)
    dsimp only
    refine ww_seq (ww_if (b := true) (by (with_reducible apply et_to); (focus k_clsL); rfl) (fun _ => ?_) (fun z => by cases z))
    refine ww_row_app (r := r) (d := oddOf (c / 9)) rfl hrm ?_ (by omega) fun v => ?_
    · k_clsL
    refine ww_seq (ww_if (b := false) (by (with_reducible apply et_to); (focus k_clsL); rfl) (fun z => by cases z) fun _ => ww_next ?_)
    dsimp only
    refine ww_seq (ww_if (b := false) ?_ (fun z => by cases z) fun _ => ww_next ?_)
    · with_reducible apply et_to
      · exact et_and (b := false) (et_test (ev_eq_int (ev_var rfl) ev_int)) fun z => absurd z (by decide)
      · rfl
    dsimp only
    refine ww_if (b := false) (by (with_reducible apply et_to); (focus k_clsL); rfl) (fun z => by cases z) fun _ => ww_next ?_
    exact hput _ _ ⟨by rw [List.length_append, List.length_singleton]; omega, fun d hd => by
      rcases List.mem_append.mp hd with hd | hd
      · exact hth d hd
      · simp at hd; subst hd; exact odd_th _⟩
  by_cases w3 : way = 3
  · subst w3
    refine ww_seq (ww_if (b := false) (by (with_reducible apply et_to); (focus k_clsL); rfl) (fun z => by cases z) fun _ => ww_next ?_)
    dsimp only
    refine ww_seq (ww_if (b := false) (by (with_reducible apply et_to); (focus k_clsL); rfl) (fun z => by cases z) fun _ => ww_next ?_)
    dsimp only
    refine ww_seq (ww_if (b := true) (by (with_reducible apply et_to); (focus k_clsL); rfl) (fun _ => ?_) (fun z => by cases z))
    refine ww_row_pop (r := r) rfl hrm (fun z => by rw [z] at hlen; simp at hlen; omega) ?_
    refine ww_seq (ww_if (b := false) ?_ (fun z => by cases z) fun _ => ww_next ?_)
    · with_reducible apply et_to
      · exact et_and (b := false) (et_test (ev_eq_int (ev_var rfl) ev_int)) fun z => absurd z (by decide)
      · rfl
    dsimp only
    refine ww_if (b := false) (by (with_reducible apply et_to); (focus k_clsL); rfl) (fun z => by cases z) fun _ => ww_next ?_
    exact hput _ _ ⟨by rw [List.length_dropLast]; omega, fun d hd => hth d (List.dropLast_subset _ hd)⟩
  by_cases w7 : way = 7
  · subst w7
    refine ww_seq (ww_if (b := false) (by (with_reducible apply et_to); (focus k_clsL); rfl) (fun z => by cases z) fun _ => ww_next ?_)
    dsimp only
    refine ww_seq (ww_if (b := false) (by (with_reducible apply et_to); (focus k_clsL); rfl) (fun z => by cases z) fun _ => ww_next ?_)
    dsimp only
    refine ww_seq (ww_if (b := false) (by (with_reducible apply et_to); (focus k_clsL); rfl) (fun z => by cases z) fun _ => ww_next ?_)
    dsimp only
    have hat1 : atI r.ds 1 = some x := by rw [hds]; exact (show atI (.str w :: x :: rest) ((1 : Nat) : Int) = _ from atI_nat rfl)
    have hE : ∀ Γ2 : List Ent, Γ2[3]? = some (.val (.ref r.q)) → EvD ((nestW K).g (some n)) (tOp (rIx K) (tVar 3) (tC (.int 1))) Γ2 x := fun Γ2 h => ed_lix (ee_val h) hR ev_int hat1
    rcases hx with ⟨i0, rfl⟩ | ⟨zs, rfl, hz, hzl⟩
    · refine ww_seq (ww_if (b := false) ?_ (fun z => by cases z) fun _ => ww_next ?_)
      · with_reducible apply et_to
        · exact et_and (et_test (ev_eq_int (ev_var rfl) ev_int)) fun _ => et_B (ev_isTup (hE _ rfl))
        · rfl
      refine ww_if (b := false) (by (with_reducible apply et_to); (focus k_clsL); rfl) (fun z => by cases z) fun _ => ww_next ?_
      exact hself
    · refine ww_seq (ww_if (b := true) ?_ (fun _ => ?_) (fun z => by cases z))
      · with_reducible apply et_to
        · exact et_and (et_test (ev_eq_int (ev_var rfl) ev_int)) fun _ => et_B (ev_isTup (hE _ rfl))
        · rfl
      refine ww_seq (ww_pure (wp_asg (hE _ rfl) ?_))
      dsimp only [List.set_cons_succ, List.set_cons_zero]
      have hDne : zs.map PyData.int ≠ [] := fun z => hz.1 (List.map_eq_nil_iff.mp z)
      have hDl : (zs.map PyData.int).length ≤ 20 := by rw [List.length_map]; exact hzl
      have hDt : ∀ e ∈ zs.map PyData.int, Th e 14 3 := fun e he => by
        obtain ⟨i, hi, rfl⟩ := List.mem_map.mp he
        exact th_small (hz.2.1 i hi)
      generalize zs.map PyData.int = D at *
      have k1 := cut_len (ds := D) (lo := some (-1)) (hi := none)
      have k2 := cut_len (ds := D) (lo := none) (hi := some 1)
      refine ww_seq (ww_pure (wp_asg (d := .list ((spoilt8 D).take 5)) (EvF.ev (w_lst (ea_cons (ev_op (ev_var rfl) (ex_sl_tup (ev_var rfl) (eo_some (ev_neg ev_int)) eo_none) (oq_add_tup ⟨hDne⟩ ⟨by omega⟩)) (ea_cons (ev_op (ex_sl_tup (ev_var rfl) eo_none (eo_some ev_int)) (ev_var rfl) (oq_add_tup ⟨cut_first hDne⟩ ⟨by omega⟩)) (ea_cons (ev_revT (ev_var rfl)) (ea_cons (ev_op (ev_var rfl) (ev_tup (ea_cons ev_int (ea_cons ev_int ea_nil)) (by decide)) (oq_add_tup ⟨hDne⟩ ⟨by simp; omega⟩)) (ea_cons (EvF.ev (w_list_tup (ea_cons (ev_var rfl) ea_nil))) ea_nil))))) ⟨show 5 ≤ 100000 by decide⟩)) ?_))
      dsimp only [List.set_cons_succ, List.set_cons_zero]
      refine ww_seq (ww_pure (wp_asg (d := .list (spoilt8 D)) (EvF.ev (w_add_list (ds := (spoilt8 D).take 5) (es := (spoilt8 D).drop 5) (ev_var rfl) (EvF.ev (w_lst (ea_cons (ev_tup ea_nil (by decide)) (ea_cons (ev_op (ev_tup (ea_cons (ev_neg ev_int) ea_nil) (by decide)) (ev_var rfl) (oq_add_tup ⟨by simp⟩ ⟨by simp; omega⟩)) (ea_cons (ev_op (ev_var rfl) (ev_tup (ea_cons ev_bl ea_nil) (by decide)) (oq_add_tup ⟨hDne⟩ ⟨by simp; omega⟩)) ea_nil))) ⟨show 3 ≤ 100000 by decide⟩)) ⟨show 5 + 3 ≤ 100000 by decide⟩)) ?_))
      dsimp only [List.set_cons_succ, List.set_cons_zero]
      refine ww_row_set (r := r) (j := 1) (d := (spoilt8 D).getD (c / 9 % 8).toNat .none) (k := 1) rfl hrm (ev_op (ev_var rfl) ?_ (oq_ix_list (i := c / 9 % 8) ⟨atI_getD (xs := spoilt8 D) .none (by omega) (by show c / 9 % 8 < 8; omega)⟩)) ev_int (by rw [hlen]; exact ixN_of (j := 1) (by omega)) fun v => ?_
      · k_clsL
      refine ww_if (b := false) (by (with_reducible apply et_to); (focus k_clsL); rfl) (fun z => by cases z) fun _ => ww_next ?_
      exact hput _ _ (RowOut.set (hall r hrm) (spoilt8_th hDt hDl c))
  by_cases w4 : way = 4
  · subst w4
    refine ww_seq (ww_if (b := false) (by (with_reducible apply et_to); (focus k_clsL); rfl) (fun z => by cases z) fun _ => ww_next ?_)
    dsimp only
    refine ww_seq (ww_if (b := false) (by (with_reducible apply et_to); (focus k_clsL); rfl) (fun z => by cases z) fun _ => ww_next ?_)
    dsimp only
    refine ww_seq (ww_if (b := false) (by (with_reducible apply et_to); (focus k_clsL); rfl) (fun z => by cases z) fun _ => ww_next ?_)
    dsimp only
    refine ww_seq (ww_if (b := false) ?_ (fun z => by cases z) fun _ => ww_next ?_)
    · with_reducible apply et_to
      · exact et_and (b := false) (et_test (ev_eq_int (ev_var rfl) ev_int)) fun z => absurd z (by decide)
      · rfl
    refine ww_if (b := true) (by (with_reducible apply et_to); (focus k_clsL); rfl) (fun _ => ?_) (fun z => by cases z)
    refine ww_seq (ww_pure ?_)
    with_reducible apply wp_asg
    · k_clsL
    dsimp only [List.set_cons_succ, List.set_cons_zero]
    refine ww_seq (ww_pure ?_)
    with_reducible apply wp_asg
    · k_clsL
    dsimp only [List.set_cons_succ, List.set_cons_zero]
    show WpW _ _ _ [.val (.ref n.p), .dat (.int 4), .dat (.int c), .val (.ref r.q), .no, .dat (.list W14)] _ _
    refine ww_row_set (r := r) (j := 0) (d := W14.getD (c / 9 % 14).toNat .none) (k := 0) rfl hrm (ev_op (ev_var rfl) ?_ (oq_ix_list (i := c / 9 % 14) ⟨atI_getD (xs := W14) .none (by omega) (by show c / 9 % 14 < 14; omega)⟩)) ev_int (by rw [hlen]; exact ixN_of (j := 0) (by omega)) fun v => ?_
    · k_clsL
    exact hput _ _ (RowOut.set (hall r hrm) (w14_th c))
  refine ww_seq (ww_if (b := decide (way = 1)) (by k_clsL) (fun z => absurd (of_decide_eq_true z) w1) fun _ => ww_next ?_)
  dsimp only
  refine ww_seq (ww_if (b := decide (way = 2)) (by k_clsL) (fun z => absurd (of_decide_eq_true z) w2) fun _ => ww_next ?_)
  dsimp only
  refine ww_seq (ww_if (b := decide (way = 3)) (by k_clsL) (fun z => absurd (of_decide_eq_true z) w3) fun _ => ww_next ?_)
  dsimp only
  refine ww_seq (ww_if (b := false) ?_ (fun z => by cases z) fun _ => ww_next ?_)
  · with_reducible apply et_to
    · exact et_and (b := false) (et_test (ev_eq_int (ev_var rfl) ev_int)) fun z => absurd (of_decide_eq_true z) w7
    · rw [decide_eq_false w7]; rfl
  dsimp only
  refine ww_if (b := decide (way = 4)) (by k_clsL) (fun z => absurd (of_decide_eq_true z) w4) fun _ => ww_next ?_
  exact hself
end
section

theorem ok__law_built {P : Program} {w : World} {K : PySem.W.Frag} {mg : Str → Option Value} {base : Heap} {a_BEARING : Addr} (T : Txt K mg a_BEARING) :
    FnB P w K mg base CX0 1 "_law_built" ["_law_levels_here", "_law_at"] (spW (nestW K) R__law_built) := by
  refine T.t__law_built.ok (fun _ _ _ _ _ _ us hl => match us, hl with | [_, _], _ => rfl) fun f fd F => fn_okW F sc__law_built (by rintro es s0 O ⟨n, at0, hp, rfl, rfl, rfl⟩; rfl) fun cdv A outer s H E hr => ?_
  have hu66 := room66 hr
  have hu := hr.units
  have nd := sc__law_built.nd
  refine ⟨_, (pss_cons (ps_set (i := 2) nd rfl (by first | exact Or.inl rfl | exact Or.inr rfl) pe_non)
    (pss_cons (ps_for PassesOwn.never rfl (pi_range1 rfl T.b_range (pa_cons (pe_callB (kc_len (K := K) rfl) rfl T.b_len bb_len (pa_cons (pv 0) pa_nil)) pa_nil)) (pg_name (i := 3) nd rfl (by first | exact Or.inl rfl | exact Or.inr rfl)) (pss_cons (ps_set (i := 4) nd rfl (by first | exact Or.inl rfl | exact Or.inr rfl) (pe_callTy (kc_list (K := K) rfl) rfl T.b_list bb_list (pa_cons (pe_ix (kx_seq (K := K) rfl) (pv 0) (pv 3) (fun _ _ => rfl)) pa_nil)))
    (pss_cons (ps_if (pt_cmpR op_gtI (pv 3) pe_int (nomark _)) (pss_one (ps_expr (kpe_app (K := K) rfl (pv 4) (pv 2)))) pss_nil)
    (pss_one (ps_if (pt_cmpR (ok_eqA (K := K) rfl hu) (pv 3) (pv 1) (nomark _)) (pss_one (ps_set (i := 2) nd rfl (by first | exact Or.inl rfl | exact Or.inr rfl) (pv 4))) (pss_one (ps_set (i := 2) nd rfl (by first | exact Or.inl rfl | exact Or.inr rfl) (pe_callTy (kc_tup (K := K) rfl) rfl T.b_tuple bb_tuple (pa_cons (pv 4) pa_nil)))))))))
    (pss_one (ps_ret (pv 2))))), ?_⟩
  clear hr hu hu66 nd F
  rintro es s0 O ⟨n, at0, hp, rfl, rfl, rfl⟩
  show WpW _ _ _ [.val (.ref n.p), .dat (.int at0), .no, .no, .no] (some n) _
  obtain ⟨hl, hrow⟩ := hp
  refine ww_pure ?_
  refine wp_seq (wp_asg (d := .none) ev_non ?_)
  dsimp only [List.set_cons_succ, List.set_cons_zero]
  refine wp_seq (wp_forn (xs := (List.range ((n.rows.length : Nat) : Int).toNat).map fun k : Nat => .int (0 + (k : Int))) (fun i Γ' => ∃ d e3 e4, Th d (30000 * i + 14) (i + 5) ∧ Γ' = [.val (.ref n.p), .dat (.int at0), .dat d, e3, e4]) (w_rng1 (n := ((n.rows.length : Nat) : Int)) (ea_cons (ev_to (ed_clen (ee_val (v := .ref n.p) rfl) (nest_top (K := K) (n := n))) (by rw [List.length_map])) ea_nil) ⟨by omega⟩ ⟨by omega⟩) ⟨.none, _, _, ⟨rfl, by decide, by decide, by decide, by decide +kernel⟩, rfl⟩ ?_ ?_)
  · rintro i x _ hx ⟨d, e3, e4, hd, rfl⟩
    have hi := (List.getElem?_eq_some_iff.mp hx).1
    rw [List.length_map, List.length_range] at hi
    rw [List.getElem?_map, List.getElem?_range hi] at hx
    obtain rfl := Option.some.inj hx
    have hir : i < n.rows.length := by omega
    have hri : n.rows[i]? = some n.rows[i] := List.getElem?_eq_getElem hir
    generalize n.rows[i] = r at hri
    have hrm := List.mem_of_getElem? hri
    have hat : atI (n.rows.map fun r => V.ref r.q) (0 + (i : Int)) = some (.ref r.q) := by
      rw [Int.zero_add]
      refine atI_nat ?_
      rw [List.getElem?_map, hri]; rfl
    obtain ⟨hr6, hrt⟩ := hrow r hrm
    have hths := th_seq hrt
    have hk : ∀ {m k}, Ths r.ds m k → m ≤ 24012 → Ths r.ds 24012 k := fun h h2 => ⟨h.1, h.2.1, h.2.2.1, h.2.2.2.1, Nat.le_trans h.2.2.2.2 h2⟩
    dsimp only [List.set_cons_succ, List.set_cons_zero]
    refine wp_seq (wp_asg_own (ds := r.ds) (ef_llist (ee_cix (ee_val (v := .ref n.p) rfl) (nest_top (K := K) (n := n)) (ev_var rfl) hat) (nest_row (K := K) hrm)) ?_)
    dsimp only [List.set_cons_succ, List.set_cons_zero]
    have hup : Ths r.ds 24012 (i + 5) := ⟨hths.1, hths.2.1, hths.2.2.1, by have := hths.2.2.2.1; omega, by have := hths.2.2.2.2; omega⟩
    refine wp_seq (wp_cut (fun Γ' => ∃ es, Ths es (24012 + (30000 * i + 14) + 2) (i + 5) ∧ es.length ≤ 7 ∧ Γ' = [.val (.ref n.p), .dat (.int at0), .dat d, .dat (.int (0 + (i : Int))), .own es]) ?_ ?_)
    · k_offL
      · exact ⟨_, (hup.app (Ths.cons hd Ths.nil)).2.2.2.2 |> fun h => ⟨(hup.app (Ths.cons hd Ths.nil)).1, (hup.app (Ths.cons hd Ths.nil)).2.1, (hup.app (Ths.cons hd Ths.nil)).2.2.1, (hup.app (Ths.cons hd Ths.nil)).2.2.2.1, by omega⟩, by rw [List.length_append, List.length_singleton]; omega, rfl⟩
      · exact ⟨_, ⟨hup.1, hup.2.1, hup.2.2.1, hup.2.2.2.1, by have := hup.2.2.2.2; omega⟩, by omega, rfl⟩
    rintro _ ⟨es, hes, hel, rfl⟩
    refine wp_freeze (i := 4) rfl ?_
    dsimp only [List.set_cons_succ, List.set_cons_zero]
    k_offL
    · exact ⟨_, _, _, hes.lst.le (by omega) (by omega), rfl⟩
    · exact ⟨_, _, _, hes.tup.le (by omega) (by omega), rfl⟩
  rintro _ ⟨d, e3, e4, hd, rfl⟩
  rw [List.length_map, List.length_range] at hd
  dsimp only
  refine wp_ret (ev_var rfl) ?_
  exact ⟨d, rfl, hd.le (by omega) (by omega)⟩
end
section

theorem ok_is_whole {P : Program} {w : World} {K : PySem.W.Frag} {mg : Str → Option Value} {base : Heap} {a_BEARING : Addr} (T : Txt K mg a_BEARING) :
    FnB P w K mg base CX0 1 "is_whole" ["thing"] (spV K R_is_whole) := by
  refine T.t_is_whole.ok (fun _ _ _ _ _ _ us hl => match us, hl with | [_], _ => rfl) fun f fd F => fn_ok F sc_is_whole (by rintro ds d ⟨x, hp, rfl, rfl⟩; rfl) fun cdv A outer s H E hr => ?_
  have hu66 := room66 hr
  have hu := hr.units
  have nd := sc_is_whole.nd
  refine ⟨_, (pss_one (ps_ret (pe_and (pe_callB (kc_isi (K := K) rfl) rfl T.b_isinstance bb_isinstance (pa_cons (pv 0) (pa_cons (pe_ty T.b_int bb_int rfl) pa_nil))) (pe_one (pe_not (pe_callB (kc_isi (K := K) rfl) rfl T.b_isinstance bb_isinstance (pa_cons (pv 0) (pa_cons (pe_ty T.b_bool bb_bool rfl) pa_nil)))))))), ?_⟩
  clear hr hu hu66 nd F
  rintro ds d ⟨x, hp, rfl, rfl⟩
  show WpD _ _ _ [.dat (x)] _
  k_offL
end
section

theorem ok_is_between {P : Program} {w : World} {K : PySem.W.Frag} {mg : Str → Option Value} {base : Heap} {a_BEARING : Addr} (T : Txt K mg a_BEARING)
    (c_is_whole : FnB P w K mg base CX0 1 "is_whole" ["thing"] (spV K R_is_whole)) :
    FnB P w K mg base CX0 2 "is_between" ["thing", "low", "high"] (spV K R_is_between) := by
  refine T.t_is_between.ok (fun _ _ _ _ _ _ us hl => match us, hl with | [_, _, _], _ => rfl) fun f fd F => fn_ok F sc_is_between (by rintro ds d ⟨x, lo, hi, hp, rfl, rfl⟩; rfl) fun cdv A outer s H E hr => ?_
  have hu66 := room66 hr
  have hu := hr.units
  have nd := sc_is_between.nd
  refine ⟨_, (pss_one (ps_ret (pe_and (pe_callF c_is_whole (hr.mono (by decide)) rfl pass0 (pa_cons (pv 0) pa_nil)) (pe_one (pe_chain op_leI op_leI (pv 1) (pv 0) (pv 2)))))), ?_⟩
  clear hr hu hu66 nd F c_is_whole
  rintro ds d ⟨x, lo, hi, hp, rfl, rfl⟩
  show WpD _ _ _ [.dat (x), .dat (.int lo), .dat (.int hi)] _
  cases x <;> k_offL
end
section

theorem ok_is_row {P : Program} {w : World} {K : PySem.W.Frag} {mg : Str → Option Value} {base : Heap} {a_BEARING : Addr} (T : Txt K mg a_BEARING)
    (c_is_between : FnB P w K mg base CX0 2 "is_between" ["thing", "low", "high"] (spV K R_is_between)) :
    FnB P w K mg base CX0 3 "is_row" ["thing", "below", "most"] (spV K R_is_row) := by
  refine T.t_is_row.ok (fun _ _ _ _ _ _ us hl => match us, hl with | [_, _, _], _ => rfl) fun f fd F => fn_ok F sc_is_row (by rintro ds d ⟨x, below, most, hp, rfl, rfl⟩; rfl) fun cdv A outer s H E hr => ?_
  have hu66 := room66 hr
  have hu := hr.units
  have nd := sc_is_row.nd
  refine ⟨_, (pss_cons (ps_if (PW.pt (pw_or (pt_not (pt_val (pe_callB (kc_isi (K := K) rfl) rfl T.b_isinstance bb_isinstance (pa_cons (pv 0) (pa_cons (pe_ty T.b_tuple bb_tuple rfl) pa_nil))))) (pw_or1 (pt_not (pt_chain op_leI op_leI pe_int (pe_callB (kc_len (K := K) rfl) rfl T.b_len bb_len (pa_cons (pv 0) pa_nil)) (pv 2)))))) (pss_one (ps_ret pe_bl)) pss_nil)
    (pss_cons (ps_set (i := 3) nd rfl (by first | exact Or.inl rfl | exact Or.inr rfl) (pe_un un_neg pe_int))
    (pss_cons (ps_for PassesOwn.never rfl (ki_any (K := K) rfl (pv 0)) (pg_name (i := 4) nd rfl (by first | exact Or.inl rfl | exact Or.inr rfl)) (pss_cons (ps_if (pt_not (pt_val (pe_callF c_is_between (hr.mono (by decide)) rfl pass0 (pa_cons (pv 4) (pa_cons (pe_op (ok_addA (K := K) rfl) (pv 3) pe_int) (pa_cons (pe_op op_subI (pv 1) pe_int) pa_nil)))))) (pss_one (ps_ret pe_bl)) pss_nil)
    (pss_one (ps_set (i := 3) nd rfl (by first | exact Or.inl rfl | exact Or.inr rfl) (pv 4)))))
    (pss_one (ps_ret pe_bl))))), ?_⟩
  clear hr hu hu66 nd F c_is_between
  rintro ds d ⟨x, below, most, hp, rfl, rfl⟩
  show WpD _ _ _ [.dat (x), .dat (.int below), .dat (.int most), .no, .no] _
  cases x
  case tuple ds =>
    by_cases hl : 1 ≤ (ds.length : Int) ∧ (ds.length : Int) ≤ most
    · refine wp_seq ?_
      with_reducible apply wp_ifF
      · k_clsL
      · simp [isTup, hl]
      refine wp_next ?_
      dsimp only
      refine wp_seq (wp_asg (d := .int (-1)) (by k_clsL) ?_)
      dsimp only [List.set_cons_succ, List.set_cons_zero]
      have e0 : rowB (.tuple ds) below most = rowGo below (-1) ds := by simp [rowB, hl]
      rw [e0]
      refine wp_seq (wp_forn (xs := ds) (fun i Γ' => ∃ last e, rowGo below last (ds.drop i) = rowGo below (-1) ds ∧ Γ' = [.dat (.tuple ds), .dat (.int below), .dat (.int most), .dat (.int last), e]) (it_any_tup (ev_var rfl)) ⟨-1, _, rfl, rfl⟩ ?_ ?_)
      · rintro i x _ hx ⟨last, e, hr, rfl⟩
        have hi := (List.getElem?_eq_some_iff.mp hx).1
        have hd : ds.drop i = x :: ds.drop (i + 1) := by rw [List.drop_eq_getElem_cons hi, (List.getElem?_eq_some_iff.mp hx).2]
        rw [hd] at hr
        rw [← hr]
        k_offL
        · simp_all [rowGo]
        · rename_i h
          obtain ⟨j, rfl, -, -⟩ := isBetween_int h
          refine ⟨j, _, ?_, rfl⟩
          simp [rowGo, h, intOf]
      rintro _ ⟨last, e, hr, rfl⟩
      rw [List.drop_length] at hr
      rw [← hr]
      k_offL
    · have e0 : rowB (.tuple ds) below most = false := by
        show (decide (1 ≤ (ds.length : Int)) && decide ((ds.length : Int) ≤ most) && rowGo below (-1) ds) = false
        rw [← Bool.decide_and, decide_eq_false hl]; rfl
      rw [e0]
      refine wp_seq ?_
      with_reducible apply wp_ifT
      · k_clsL
      · rw [← Bool.decide_and, decide_eq_false hl]; rfl
      k_offL
  all_goals k_offL
end
section

theorem ok_is_time {P : Program} {w : World} {K : PySem.W.Frag} {mg : Str → Option Value} {base : Heap} {a_BEARING : Addr} (T : Txt K mg a_BEARING)
    (c_is_between : FnB P w K mg base CX0 2 "is_between" ["thing", "low", "high"] (spV K R_is_between)) :
    FnB P w K mg base CX0 3 "is_time" ["thing"] (spV K R_is_time) := by
  refine T.t_is_time.ok (fun _ _ _ _ _ _ us hl => match us, hl with | [_], _ => rfl) fun f fd F => fn_ok F sc_is_time (by rintro ds d ⟨x, hp, rfl, rfl⟩; rfl) fun cdv A outer s H E hr => ?_
  have hu66 := room66 hr
  have hu := hr.units
  have nd := sc_is_time.nd
  refine ⟨_, (pss_one (ps_ret (pe_callF c_is_between (hr.mono (by decide)) rfl pass0 (pa_cons (pv 0) (pa_cons pe_int (pa_cons (pe_op op_subI (pe_gint T.g_TIMES rfl) pe_int) pa_nil)))))), ?_⟩
  clear hr hu hu66 nd F c_is_between
  rintro ds d ⟨x, hp, rfl, rfl⟩
  show WpD _ _ _ [.dat (x)] _
  k_offL
end
section

theorem ok_is_length {P : Program} {w : World} {K : PySem.W.Frag} {mg : Str → Option Value} {base : Heap} {a_BEARING : Addr} (T : Txt K mg a_BEARING)
    (c_is_between : FnB P w K mg base CX0 2 "is_between" ["thing", "low", "high"] (spV K R_is_between)) :
    FnB P w K mg base CX0 3 "is_length" ["thing"] (spV K R_is_length) := by
  refine T.t_is_length.ok (fun _ _ _ _ _ _ us hl => match us, hl with | [_], _ => rfl) fun f fd F => fn_ok F sc_is_length (by rintro ds d ⟨x, hp, rfl, rfl⟩; rfl) fun cdv A outer s H E hr => ?_
  have hu66 := room66 hr
  have hu := hr.units
  have nd := sc_is_length.nd
  refine ⟨_, (pss_one (ps_ret (pe_callF c_is_between (hr.mono (by decide)) rfl pass0 (pa_cons (pv 0) (pa_cons pe_int (pa_cons (pe_gint T.g_LONGEST rfl) pa_nil)))))), ?_⟩
  clear hr hu hu66 nd F c_is_between
  rintro ds d ⟨x, hp, rfl, rfl⟩
  show WpD _ _ _ [.dat (x)] _
  k_offL
end
section

theorem ok_is_plain {P : Program} {w : World} {K : PySem.W.Frag} {mg : Str → Option Value} {base : Heap} {a_BEARING : Addr} (T : Txt K mg a_BEARING)
    (c_is_row : FnB P w K mg base CX0 3 "is_row" ["thing", "below", "most"] (spV K R_is_row))
    (c_is_between : FnB P w K mg base CX0 2 "is_between" ["thing", "low", "high"] (spV K R_is_between))
    (c_is_time : FnB P w K mg base CX0 3 "is_time" ["thing"] (spV K R_is_time))
    (c_is_length : FnB P w K mg base CX0 3 "is_length" ["thing"] (spV K R_is_length)) :
    FnB P w K mg base CX0 4 "is_plain" ["thing"] (spV K R_is_plain) := by
  refine T.t_is_plain.ok (fun _ _ _ _ _ _ us hl => match us, hl with | [_], _ => rfl) fun f fd F => fn_ok F sc_is_plain (by rintro ds d ⟨w, a, b, rest, hp, rfl, rfl⟩; rfl) fun cdv A outer s H E hr => ?_
  have hu66 := room66 hr
  have hu := hr.units
  have nd := sc_is_plain.nd
  refine ⟨_, (pss_cons (ps_set (i := 1) nd rfl (by first | exact Or.inl rfl | exact Or.inr rfl) (pe_ix (kx_seq (K := K) rfl) (pv 0) pe_int (fun _ _ => rfl)))
    (pss_cons (ps_if (pt_cmpR (ok_eqA (K := K) rfl hu) (pv 1) pe_str (nomark _)) (pss_one (ps_ret (pe_and (pe_cmpR (ok_eqA (K := K) rfl hu) (pe_callB (kc_len (K := K) rfl) rfl T.b_len bb_len (pa_cons (pv 0) pa_nil)) pe_int (nomark _)) (pe_and (pe_callF c_is_time (hr.mono (by decide)) rfl pass0 (pa_cons (pe_ix (kx_seq (K := K) rfl) (pv 0) pe_int (fun _ _ => rfl)) pa_nil)) (pe_one (pe_callF c_is_length (hr.mono (by decide)) rfl pass0 (pa_cons (pe_ix (kx_seq (K := K) rfl) (pv 0) pe_int (fun _ _ => rfl)) pa_nil))))))) pss_nil)
    (pss_cons (ps_if (pt_cmpR (ok_neA (K := K) rfl hu) (pe_callB (kc_len (K := K) rfl) rfl T.b_len bb_len (pa_cons (pv 0) pa_nil)) pe_int (nomark _)) (pss_one (ps_ret pe_bl)) pss_nil)
    (pss_cons (ps_if (pt_cmpR (ok_eqA (K := K) rfl hu) (pv 1) pe_str (nomark _)) (pss_one (ps_ret (pe_and (pe_callF c_is_time (hr.mono (by decide)) rfl pass0 (pa_cons (pe_ix (kx_seq (K := K) rfl) (pv 0) pe_int (fun _ _ => rfl)) pa_nil)) (pe_and (pe_callF c_is_length (hr.mono (by decide)) rfl pass0 (pa_cons (pe_ix (kx_seq (K := K) rfl) (pv 0) pe_int (fun _ _ => rfl)) pa_nil)) (pe_one (pe_callF c_is_between (hr.mono (by decide)) rfl pass0 (pa_cons (pe_ix (kx_seq (K := K) rfl) (pv 0) pe_int (fun _ _ => rfl)) (pa_cons pe_int (pa_cons (pe_gint T.g_MOST_STEP rfl) pa_nil))))))))) pss_nil)
    (pss_cons (ps_if (PW.pt (pw_or (pt_not (pt_val (pe_callF c_is_between (hr.mono (by decide)) rfl pass0 (pa_cons (pe_ix (kx_seq (K := K) rfl) (pv 0) pe_int (fun _ _ => rfl)) (pa_cons pe_int (pa_cons pe_int pa_nil)))))) (pw_or1 (pt_not (pt_val (pe_callF c_is_length (hr.mono (by decide)) rfl pass0 (pa_cons (pe_ix (kx_seq (K := K) rfl) (pv 0) pe_int (fun _ _ => rfl)) pa_nil))))))) (pss_one (ps_ret pe_bl)) pss_nil)
    (pss_cons (ps_if (pt_cmpR (ok_eqA (K := K) rfl hu) (pv 1) pe_str (nomark _)) (pss_one (ps_ret (pe_callF c_is_row (hr.mono (by decide)) rfl pass0 (pa_cons (pe_ix (kx_seq (K := K) rfl) (pv 0) pe_int (fun _ _ => rfl)) (pa_cons pe_int (pa_cons pe_int pa_nil)))))) pss_nil)
    (pss_one (ps_ret (pe_and (pe_cmpR (ok_eqA (K := K) rfl hu) (pv 1) pe_str (nomark _)) (pe_and (pe_callF c_is_between (hr.mono (by decide)) rfl pass0 (pa_cons (pe_ix (kx_seq (K := K) rfl) (pv 0) pe_int (fun _ _ => rfl)) (pa_cons (pe_un un_neg pe_int) (pa_cons pe_int pa_nil)))) (pe_one (pe_cmpR (ok_neA (K := K) rfl hu) (pe_ix (kx_seq (K := K) rfl) (pv 0) pe_int (fun _ _ => rfl)) pe_int (nomark _))))))))))))), ?_⟩
  clear hr hu hu66 nd F c_is_row c_is_between c_is_time c_is_length
  rintro ds d ⟨w, a, b, rest, hp, rfl, rfl⟩
  show WpD _ _ _ [.dat (.tuple (.str w :: a :: b :: rest)), .no] _
  rcases rest with _ | ⟨c, _ | ⟨c2, rest⟩⟩
  all_goals
    by_cases h1 : w = "once"
    · subst h1; k_offL <;> (first | (simp_all [plainB, intOf]; done) | (cases hb : isBetween b 0 23 <;> cases hc : isLen c <;> simp_all [plainB, intOf] <;> done) | (exfalso; apply ha; assumption))
    by_cases h2 : w = "every"
    · subst h2; k_offL <;> (first | (simp_all [plainB, intOf]; done) | (cases hb : isBetween b 0 23 <;> cases hc : isLen c <;> simp_all [plainB, intOf] <;> done) | (exfalso; apply ha; assumption))
    by_cases h3 : w = "week"
    · subst h3; k_offL <;> (first | (simp_all [plainB, intOf]; done) | (cases hb : isBetween b 0 23 <;> cases hc : isLen c <;> simp_all [plainB, intOf] <;> done) | (exfalso; apply ha; assumption))
    by_cases h4 : w = "month"
    · subst h4
      by_cases ha : isBetween a (-31) 31 = true
      · obtain ⟨i, rfl, hi⟩ := isBetween_int ha
        k_offL
        all_goals simp only [plainB, if_neg h1, if_neg h2, if_neg h3]
        all_goals cases hb : isBetween b 0 23 <;> cases hc : isLen c <;> simp_all [intOf]
        all_goals rfl
      · k_offL <;> (first | (simp_all [plainB, intOf]; done) | (cases hb : isBetween b 0 23 <;> cases hc : isLen c <;> simp_all [plainB, intOf] <;> done) | (exfalso; apply ha; assumption))
    k_offL <;> (first | (simp_all [plainB, intOf]; done) | (cases hb : isBetween b 0 23 <;> cases hc : isLen c <;> simp_all [plainB, intOf] <;> done) | (exfalso; apply ha; assumption))
end
section

theorem ok_is_rule {P : Program} {w : World} {K : PySem.W.Frag} {mg : Str → Option Value} {base : Heap} {a_BEARING : Addr} (T : Txt K mg a_BEARING)
    (c_is_plain : FnB P w K mg base CX0 4 "is_plain" ["thing"] (spV K R_is_plain))
    (c_is_row : FnB P w K mg base CX0 3 "is_row" ["thing", "below", "most"] (spV K R_is_row))
    (c_is_time : FnB P w K mg base CX0 3 "is_time" ["thing"] (spV K R_is_time)) :
    FnB P w K mg base CX0 5 "is_rule" ["thing"] (spV K R_is_rule) := by
  refine T.t_is_rule.ok (fun _ _ _ _ _ _ us hl => match us, hl with | [_], _ => rfl) fun f fd F => fn_ok F sc_is_rule (by rintro ds d ⟨x, hp, rfl, rfl⟩; rfl) fun cdv A outer s H E hr => ?_
  have hu66 := room66 hr
  have hu := hr.units
  have nd := sc_is_rule.nd
  have hg_BEARING := T.g_BEARING.d
  refine ⟨_, (pss_cons (ps_for PassesOwn.never rfl (pi_range1 rfl T.b_range (pa_cons (pe_gint T.g_DEEPEST rfl) pa_nil)) (pg_name (i := 1) nd rfl (by first | exact Or.inl rfl | exact Or.inr rfl)) (pss_cons (ps_if (PW.pt (pw_or (pt_not (pt_val (pe_callB (kc_isi (K := K) rfl) rfl T.b_isinstance bb_isinstance (pa_cons (pv 0) (pa_cons (pe_ty T.b_tuple bb_tuple rfl) pa_nil))))) (pw_or (pt_cmpR op_ltI (pe_callB (kc_len (K := K) rfl) rfl T.b_len bb_len (pa_cons (pv 0) pa_nil)) pe_int (nomark _)) (pw_or1 (pt_not (pt_val (pe_callB (kc_isi (K := K) rfl) rfl T.b_isinstance bb_isinstance (pa_cons (pe_ix (kx_seq (K := K) rfl) (pv 0) pe_int (fun _ _ => rfl)) (pa_cons (pe_ty T.b_str bb_str rfl) pa_nil))))))))) (pss_one (ps_ret pe_bl)) pss_nil)
    (pss_cons (ps_if (pt_cmpR (ok_notInA (K := K) rfl) (pe_ix (kx_seq (K := K) rfl) (pv 0) pe_int (fun _ _ => rfl)) (pe_gdat T.g_BEARING rfl) rfl) (pss_one (ps_ret (pe_callF c_is_plain (hr.mono (by decide)) rfl pass0 (pa_cons (pv 0) pa_nil)))) pss_nil)
    (pss_cons (ps_if (PW.pt (pw_or (pt_cmpR op_gtI (pe_callB (kc_len (K := K) rfl) rfl T.b_len bb_len (pa_cons (pv 0) pa_nil)) pe_int (nomark _)) (pw_or1 (PW.pt (pw_and (pt_cmpR (ok_neA (K := K) rfl hu) (pe_ix (kx_seq (K := K) rfl) (pv 0) pe_int (fun _ _ => rfl)) pe_str (nomark _)) (pw_and1 (pt_not (pt_val (pe_callF c_is_time (hr.mono (by decide)) rfl pass0 (pa_cons (pe_ix (kx_seq (K := K) rfl) (pv 0) pe_int (fun _ _ => rfl)) pa_nil)))))))))) (pss_one (ps_ret pe_bl)) pss_nil)
    (pss_cons (ps_if (PW.pt (pw_and (pt_cmpR (ok_eqA (K := K) rfl hu) (pe_ix (kx_seq (K := K) rfl) (pv 0) pe_int (fun _ _ => rfl)) pe_str (nomark _)) (pw_and1 (pt_not (pt_val (pe_callF c_is_row (hr.mono (by decide)) rfl pass0 (pa_cons (pe_ix (kx_seq (K := K) rfl) (pv 0) pe_int (fun _ _ => rfl)) (pa_cons (pe_gint T.g_DAYS rfl) (pa_cons pe_int pa_nil))))))))) (pss_one (ps_ret pe_bl)) pss_nil)
    (pss_one (ps_set (i := 0) nd rfl (by first | exact Or.inl rfl | exact Or.inr rfl) (pe_ix (kx_seq (K := K) rfl) (pv 0) pe_int (fun _ _ => rfl)))))))))
    (pss_one (ps_ret pe_bl))), ?_⟩
  clear hr hu hu66 nd F c_is_plain c_is_row c_is_time
  rintro ds d ⟨x, hp, rfl, rfl⟩
  show WpD _ _ _ [.dat (x), .no] _
  refine wp_seq (wp_forn (xs := (List.range 8).map fun k : Nat => .int (0 + (k : Int))) (fun i Γ' => ∃ y e, ruleB (8 - i) y = ruleB 8 x ∧ Γ' = [.dat y, e]) (w_rng1 (n := 8) ?_ ⟨by decide⟩ ⟨by decide⟩) ⟨x, _, rfl, rfl⟩ ?_ ?_)
  · k_clsL
  · rintro i z _ hx ⟨y, e, hr, rfl⟩
    have hi := (List.getElem?_eq_some_iff.mp hx).1
    rw [List.length_map, List.length_range] at hi
    obtain ⟨n, hn, hn2⟩ : ∃ n, 8 - i = n + 1 ∧ 8 - (i + 1) = n := ⟨8 - (i + 1), by omega, rfl⟩
    rw [hn] at hr
    rw [← hr, hn2]
    dsimp only [List.set_cons_succ, List.set_cons_zero]
    cases y
    case tuple ds =>
      rcases ds with _ | ⟨a, _ | ⟨b, _ | ⟨c, rest⟩⟩⟩
      case cons.cons.cons =>
        cases a
        case str w =>
          k_offL
          · rename_i h1 h2
            show PyData.bool (plainB w b c rest) = .bool (if inD (.str w) BEARD = true then _ else plainB w b c rest)
            rw [if_neg (by unfold BEARD; rw [h2]; exact Bool.false_ne_true)]
          all_goals
            rcases rest with _ | ⟨c2, rest⟩
            all_goals first
              | (simp_all [ruleB, BEARD]; done)
              | (refine ⟨c, _, ?_, rfl⟩; simp_all [ruleB, BEARD]; done)
              | (simp at *; omega)
              | trace_state
        all_goals k_offL
      all_goals k_offL
      all_goals (cases a <;> rfl)
    all_goals k_offL
  rintro _ ⟨y, e, hr, rfl⟩
  have e0 : ruleB 8 x = false := by rw [← hr]; rfl
  rw [e0]
  k_offL
end
section

theorem ok__law_whole {P : Program} {w : World} {K : PySem.W.Frag} {mg : Str → Option Value} {base : Heap} {a_BEARING : Addr} (T : Txt K mg a_BEARING) :
    FnB P w K mg base CX0 1 "_law_whole" ["_law_found"] (spV K R__law_whole) := by
  refine T.t__law_whole.ok (fun _ _ _ _ _ _ us hl => match us, hl with | [_], _ => rfl) fun f fd F => fn_ok F sc__law_whole (by rintro ds d ⟨x, hp, rfl, rfl⟩; rfl) fun cdv A outer s H E hr => ?_
  have hu66 := room66 hr
  have hu := hr.units
  have nd := sc__law_whole.nd
  refine ⟨_, (pss_one (ps_ret (pe_and (pe_callB (kc_isi (K := K) rfl) rfl T.b_isinstance bb_isinstance (pa_cons (pv 0) (pa_cons (pe_ty T.b_int bb_int rfl) pa_nil))) (pe_one (pe_not (pe_callB (kc_isi (K := K) rfl) rfl T.b_isinstance bb_isinstance (pa_cons (pv 0) (pa_cons (pe_ty T.b_bool bb_bool rfl) pa_nil)))))))), ?_⟩
  clear hr hu hu66 nd F
  rintro ds d ⟨x, hp, rfl, rfl⟩
  show WpD _ _ _ [.dat (x)] _
  k_offL
end
section

theorem ok__law_between {P : Program} {w : World} {K : PySem.W.Frag} {mg : Str → Option Value} {base : Heap} {a_BEARING : Addr} (T : Txt K mg a_BEARING)
    (c__law_whole : FnB P w K mg base CX0 1 "_law_whole" ["_law_found"] (spV K R__law_whole)) :
    FnB P w K mg base CX0 2 "_law_between" ["_law_thing", "_law_low", "_law_high"] (spV K R__law_between) := by
  refine T.t__law_between.ok (fun _ _ _ _ _ _ us hl => match us, hl with | [_, _, _], _ => rfl) fun f fd F => fn_ok F sc__law_between (by rintro ds d ⟨x, lo, hi, hp, rfl, rfl⟩; rfl) fun cdv A outer s H E hr => ?_
  have hu66 := room66 hr
  have hu := hr.units
  have nd := sc__law_between.nd
  refine ⟨_, (pss_one (ps_ret (pe_and (pe_callF c__law_whole (hr.mono (by decide)) rfl pass0 (pa_cons (pv 0) pa_nil)) (pe_one (pe_chain op_leI op_leI (pv 1) (pv 0) (pv 2)))))), ?_⟩
  clear hr hu hu66 nd F c__law_whole
  rintro ds d ⟨x, lo, hi, hp, rfl, rfl⟩
  show WpD _ _ _ [.dat (x), .dat (.int lo), .dat (.int hi)] _
  cases x <;> k_offL
end
section

theorem ok__law_good_days {P : Program} {w : World} {K : PySem.W.Frag} {mg : Str → Option Value} {base : Heap} {a_BEARING : Addr} (T : Txt K mg a_BEARING)
    (c__law_between : FnB P w K mg base CX0 2 "_law_between" ["_law_thing", "_law_low", "_law_high"] (spV K R__law_between)) :
    FnB P w K mg base CX0 3 "_law_good_days" ["_law_thing", "_law_below", "_law_most"] (spV K R__law_good_days) := by
  refine T.t__law_good_days.ok (fun _ _ _ _ _ _ us hl => match us, hl with | [_, _, _], _ => rfl) fun f fd F => fn_ok F sc__law_good_days (by rintro ds d ⟨x, below, most, hp, rfl, rfl⟩; rfl) fun cdv A outer s H E hr => ?_
  have hu66 := room66 hr
  have hu := hr.units
  have nd := sc__law_good_days.nd
  refine ⟨_, (pss_cons (ps_if (PW.pt (pw_or (pt_not (pt_val (pe_callB (kc_isi (K := K) rfl) rfl T.b_isinstance bb_isinstance (pa_cons (pv 0) (pa_cons (pe_ty T.b_tuple bb_tuple rfl) pa_nil))))) (pw_or1 (pt_not (pt_chain op_leI op_leI pe_int (pe_callB (kc_len (K := K) rfl) rfl T.b_len bb_len (pa_cons (pv 0) pa_nil)) (pv 2)))))) (pss_one (ps_ret pe_bl)) pss_nil)
    (pss_cons (ps_if (pt_not (pt_val (pe_callB (kc_all (K := K) rfl rfl) rfl T.b_all bb_all (pa_cons (pe_lc (own := [("_law_one", 3)]) rfl nd (ki_any (K := K) rfl (pv 0)) (blkOk_by (N := ["_law_thing", "_law_below", "_law_most", "_law_one", "_law_two"]) (sc := defScope s__law_good_days) (by decide +kernel)) (fun _ _ _ _ _ => (pg_name (i := 3) nd rfl (by first | exact Or.inl rfl | exact Or.inr rfl))) (fun _ _ _ _ _ => pts_nil) (fun _ _ _ _ _ => (pe_callF c__law_between (hr.mono (by decide)) rfl pass0 (pa_cons (pv 3) (pa_cons pe_int (pa_cons (pe_op op_subI (pv 1) pe_int) pa_nil)))))) pa_nil)))) (pss_one (ps_ret pe_bl)) pss_nil)
    (pss_one (ps_ret (pe_callB (kc_all (K := K) rfl rfl) rfl T.b_all bb_all (pa_cons (pe_lc (own := [("_law_one", 3), ("_law_two", 4)]) rfl nd (ki_zip (K := K) rfl rfl T.b_zip (pa_cons (pv 0) (pa_cons (pe_slice (kl_any (K := K) rfl) (pv 0) (po_some pe_int) po_none) pa_nil))) (blkOk_by (N := ["_law_thing", "_law_below", "_law_most", "_law_one", "_law_two"]) (sc := defScope s__law_good_days) (by decide +kernel)) (fun _ _ _ _ _ => (kg_tup (K := K) (n := 2) rfl rfl (pgs_cons (pg_name (i := 3) nd rfl (by first | exact Or.inl rfl | exact Or.inr rfl)) (pgs_cons (pg_name (i := 4) nd rfl (by first | exact Or.inl rfl | exact Or.inr rfl)) pgs_nil)))) (fun _ _ _ _ _ => pts_nil) (fun _ _ _ _ _ => (pe_cmpR op_ltI (pv 3) (pv 4) (nomark _)))) pa_nil)))))), ?_⟩
  clear hr hu hu66 nd F c__law_between
  rintro ds d ⟨x, below, most, hp, rfl, rfl⟩
  show WpD _ _ _ [.dat (x), .dat (.int below), .dat (.int most), .no, .no] _
  cases x
  case tuple ds =>
    by_cases hl : 1 ≤ (ds.length : Int) ∧ (ds.length : Int) ≤ most
    · refine wp_seq ?_
      with_reducible apply wp_ifF
      · k_clsL
      · simp [isTup, hl]
      refine wp_next ?_
      dsimp only
      have e0 : rowB (.tuple ds) below most = rowGo below (-1) ds := by simp [rowB, hl]
      rw [e0]
      have hlen : ds.length ≤ 1000 := by omega
      refine wp_seq ?_
      with_reducible apply wp_if (b := !((ds.map fun d => PyData.bool (isBetween d 0 (below - 1))).all boD))
      · k_clsL
      · intro hb
        have hb : ds.all (fun d => isBetween d 0 (below - 1)) = false := by
          rw [List.all_map] at hb
          simpa [boD, Function.comp_def] using hb
        rw [go_bad (Int.le_refl _) hb]
        k_offL
      · intro hb
        have hb : ds.all (fun d => isBetween d 0 (below - 1)) = true := by
          rw [List.all_map] at hb
          simpa [boD, Function.comp_def] using hb
        obtain ⟨ns, rfl, hn⟩ := all_ints hb
        rw [List.length_map] at hlen hl
        refine wp_next ?_
        dsimp only
        cases ns with
        | nil => simp at hl
        | cons n ns =>
          rw [go_rising ns n (-1) hn (by have := hn n (by simp); omega)]
          simp only [List.map_cons]
          refine wp_ret (ev_cb (ea_cons (EvF.ev (w_lc2 (zs := (n :: ns).zip ns) (c1 := fun z => .int z.1) (c2 := fun z => .int z.2) (h := fun z => .bool (decide (z.1 < z.2))) (it_to (it_zip_tup (xs := (n :: ns).map .int) (ys := ns.map .int) (ea_cons (ev_var rfl) (ea_cons (c_sl_restT (ev_var rfl)) ea_nil))) ?_) ⟨?_⟩ ⟨by decide⟩ ⟨by decide⟩ fun y hy => ?_)) ea_nil) (cq_all ⟨?_⟩)) ?_
          · rw [List.zipWith_map]
            simp [List.zip, List.map_zipWith]
          · rw [List.length_zip, List.length_cons] at *; omega
          · k_clsL
          · intro d hd
            obtain ⟨z, -, rfl⟩ := List.mem_map.mp hd
            exact ⟨_, rfl⟩
          · rw [List.all_map]; rfl
    · have e0 : rowB (.tuple ds) below most = false := by
        show (decide (1 ≤ (ds.length : Int)) && decide ((ds.length : Int) ≤ most) && rowGo below (-1) ds) = false
        rw [← Bool.decide_and, decide_eq_false hl]; rfl
      rw [e0]
      refine wp_seq ?_
      with_reducible apply wp_ifT
      · k_clsL
      · rw [← Bool.decide_and, decide_eq_false hl]; rfl
      k_offL
  all_goals k_offL
end
section

theorem ok__law_good_plain {P : Program} {w : World} {K : PySem.W.Frag} {mg : Str → Option Value} {base : Heap} {a_BEARING : Addr} (T : Txt K mg a_BEARING)
    (c__law_between : FnB P w K mg base CX0 2 "_law_between" ["_law_thing", "_law_low", "_law_high"] (spV K R__law_between))
    (c__law_good_days : FnB P w K mg base CX0 3 "_law_good_days" ["_law_thing", "_law_below", "_law_most"] (spV K R__law_good_days)) :
    FnB P w K mg base CX0 4 "_law_good_plain" ["_law_thing"] (spV K R__law_good_plain) := by
  refine T.t__law_good_plain.ok (fun _ _ _ _ _ _ us hl => match us, hl with | [_], _ => rfl) fun f fd F => fn_ok F sc__law_good_plain (by rintro ds d ⟨a, ps, hp, rfl, rfl⟩; rfl) fun cdv A outer s H E hr => ?_
  have hu66 := room66 hr
  have hu := hr.units
  have nd := sc__law_good_plain.nd
  refine ⟨_, (pss_cons (ps_set (i := 1) nd rfl (by first | exact Or.inl rfl | exact Or.inr rfl) (pe_slice (kl_any (K := K) rfl) (pv 0) (po_some pe_int) po_none))
    (pss_cons (ps_if (pt_cmpR (ok_inX (K := K) rfl hu66) (pe_ix (kx_seq (K := K) rfl) (pv 0) pe_int (fun _ _ => rfl)) (pe_lst (pa_cons pe_str (pa_cons pe_str pa_nil))) rfl) (pss_cons (ps_if (pt_cmpR (ok_neA (K := K) rfl hu) (pe_callB (kc_len (K := K) rfl) rfl T.b_len bb_len (pa_cons (pv 1) pa_nil)) (pe_ix (kx_seq (K := K) rfl) (pe_lst (pa_cons pe_int (pa_cons pe_int pa_nil))) (pe_callTy call_intA rfl T.b_int bb_int (pa_cons (pe_cmpR (ok_eqA (K := K) rfl hu) (pe_ix (kx_seq (K := K) rfl) (pv 0) pe_int (fun _ _ => rfl)) pe_str (nomark _)) pa_nil)) (fun _ _ => rfl)) (nomark _)) (pss_one (ps_ret pe_bl)) pss_nil)
    (pss_cons (ps_set (i := 2) nd rfl (by first | exact Or.inl rfl | exact Or.inr rfl) (pe_ifExp (pt_cmpR (ok_eqA (K := K) rfl hu) (pe_callB (kc_len (K := K) rfl) rfl T.b_len bb_len (pa_cons (pv 1) pa_nil)) pe_int (nomark _)) (pe_ix (kx_seq (K := K) rfl) (pv 1) (pe_un un_neg pe_int) (fun _ _ => rfl)) pe_int))
    (pss_cons (ps_if (PW.pt (pw_or (pt_not (pt_val (pe_callF c__law_between (hr.mono (by decide)) rfl pass0 (pa_cons (pv 2) (pa_cons pe_int (pa_cons (pe_op op_powI pe_int pe_int) pa_nil)))))) (pw_or1 (pt_not (pt_val (pe_callF c__law_between (hr.mono (by decide)) rfl pass0 (pa_cons (pe_ix (kx_seq (K := K) rfl) (pv 1) pe_int (fun _ _ => rfl)) (pa_cons pe_int (pa_cons pe_int pa_nil))))))))) (pss_one (ps_ret pe_bl)) pss_nil)
    (pss_one (ps_ret (pe_callF c__law_between (hr.mono (by decide)) rfl pass0 (pa_cons (pe_ix (kx_seq (K := K) rfl) (pv 1) pe_int (fun _ _ => rfl)) (pa_cons pe_int (pa_cons (pe_op op_subI (pe_op op_powI pe_int pe_int) pe_int) pa_nil))))))))) pss_nil)
    (pss_cons (ps_if (PW.pt (pw_or (pt_cmpR (ok_notInX (K := K) rfl hu66) (pe_ix (kx_seq (K := K) rfl) (pv 0) pe_int (fun _ _ => rfl)) (pe_lst (pa_cons pe_str (pa_cons pe_str pa_nil))) rfl) (pw_or1 (pt_cmpR (ok_neA (K := K) rfl hu) (pe_callB (kc_len (K := K) rfl) rfl T.b_len bb_len (pa_cons (pv 1) pa_nil)) pe_int (nomark _))))) (pss_one (ps_ret pe_bl)) pss_nil)
    (pss_cons (ps_if (PW.pt (pw_or (pt_not (pt_val (pe_callF c__law_between (hr.mono (by decide)) rfl pass0 (pa_cons (pe_ix (kx_seq (K := K) rfl) (pv 1) pe_int (fun _ _ => rfl)) (pa_cons pe_int (pa_cons pe_int pa_nil)))))) (pw_or1 (pt_not (pt_val (pe_callF c__law_between (hr.mono (by decide)) rfl pass0 (pa_cons (pe_ix (kx_seq (K := K) rfl) (pv 1) pe_int (fun _ _ => rfl)) (pa_cons pe_int (pa_cons pe_int pa_nil))))))))) (pss_one (ps_ret pe_bl)) pss_nil)
    (pss_cons (ps_if (pt_cmpR (ok_eqA (K := K) rfl hu) (pe_ix (kx_seq (K := K) rfl) (pv 0) pe_int (fun _ _ => rfl)) pe_str (nomark _)) (pss_one (ps_ret (pe_callF c__law_good_days (hr.mono (by decide)) rfl pass0 (pa_cons (pe_ix (kx_seq (K := K) rfl) (pv 1) pe_int (fun _ _ => rfl)) (pa_cons pe_int (pa_cons pe_int pa_nil)))))) pss_nil)
    (pss_one (ps_ret (pe_or (pe_callF c__law_between (hr.mono (by decide)) rfl pass0 (pa_cons (pe_ix (kx_seq (K := K) rfl) (pv 1) pe_int (fun _ _ => rfl)) (pa_cons pe_int (pa_cons pe_int pa_nil)))) (pe_one (pe_callF c__law_between (hr.mono (by decide)) rfl pass0 (pa_cons (pe_ix (kx_seq (K := K) rfl) (pv 1) pe_int (fun _ _ => rfl)) (pa_cons (pe_un un_neg pe_int) (pa_cons (pe_un un_neg pe_int) pa_nil))))))))))))), ?_⟩
  clear hr hu hu66 nd F c__law_between c__law_good_days
  rintro ds d ⟨a, ps, hp, rfl, rfl⟩
  show WpD _ _ _ [.dat (.tuple (a :: ps)), .no, .no] _
  by_cases ha : isStr a = true
  · cases a <;> first | (exfalso; cases ha; done) | skip
    rename_i w
    clear hp
    show WpD _ _ _ _ { nx := fun _ => PyData.bool (endB w ps) = .none, rt := fun d' => d' = .bool (endB w ps) }
    rcases ps with _ | ⟨a, _ | ⟨b, _ | ⟨c, _ | ⟨c2, rest⟩⟩⟩⟩
    · rw [end_zero]
      by_cases h1 : w = "once"
      · subst h1; k_offL <;> (exfalso; simp_all)
      by_cases h2 : w = "every"
      · subst h2; k_offL <;> (exfalso; simp_all)
      have q1 := two_not (a := "once") (b := "every") h1 h2
      k_offL <;> (first | rfl | (exfalso; simp_all))
    · rw [end_ein]
      by_cases h1 : w = "once"
      · subst h1; k_offL <;> (exfalso; simp_all)
      by_cases h2 : w = "every"
      · subst h2; k_offL <;> (exfalso; simp_all)
      have q1 := two_not (a := "once") (b := "every") h1 h2
      k_offL <;> (first | rfl | (exfalso; simp_all))
    · by_cases h1 : w = "once"
      · subst h1
        rw [end_once]
        k_offL <;> (first | (simp_all [isBetween]; done) | (congr 1; simp_all [isBetween]; done) | (exfalso; simp_all; done) | trace_state)
      rw [end_two h1]
      by_cases h2 : w = "every"
      · subst h2; k_offL <;> (exfalso; simp_all)
      have q1 := two_not (a := "once") (b := "every") h1 h2
      k_offL <;> (first | rfl | (exfalso; simp_all))
    · by_cases h1 : w = "once"
      · subst h1
        rw [end_once3]
        k_offL <;> (first | rfl | (exfalso; simp_all))
      by_cases h2 : w = "every"
      · subst h2
        rw [end_every]
        k_offL
        all_goals (cases hb : isBetween b 1 48 <;> cases hc : isBetween c 1 1000000 <;> simp_all)
      by_cases h3 : w = "week"
      · subst h3
        rw [end_week]
        k_offL
        all_goals (cases hb : isBetween b 0 23 <;> cases hc : isBetween c 1 48 <;> simp_all)
      by_cases h4 : w = "month"
      · subst h4
        rw [end_month]
        k_offL
        all_goals (cases hb : isBetween b 0 23 <;> cases hc : isBetween c 1 48 <;> simp_all)
      rw [end_other h1 h2 h3 h4]
      have q1 := two_not (a := "once") (b := "every") h1 h2
      have q2 := two_not (a := "week") (b := "month") h3 h4
      k_offL <;> (first | rfl | (exfalso; simp_all))
    · rw [end_four]
      by_cases h1 : w = "once"
      · subst h1; k_offL <;> (first | rfl | (exfalso; simp_all; done) | (exfalso; simp_all; omega))
      by_cases h2 : w = "every"
      · subst h2; k_offL <;> (first | rfl | (exfalso; simp_all; done) | (exfalso; simp_all; omega))
      have q1 := two_not (a := "once") (b := "every") h1 h2
      k_offL <;> (first | rfl | (exfalso; simp_all; done) | (exfalso; simp_all; omega))
  · rw [Bool.not_eq_true] at ha
    have q1 := inD_nostr ha "once" "every"
    have q2 := inD_nostr ha "week" "month"
    have e : endA a ps = false := by cases a <;> first | rfl | cases ha
    rw [e]
    k_offL
    all_goals first | rfl | (exfalso; simp_all; done) | trace_state
end
section

theorem ok__law_good {P : Program} {w : World} {K : PySem.W.Frag} {mg : Str → Option Value} {base : Heap} {a_BEARING : Addr} (T : Txt K mg a_BEARING)
    (c__law_good_plain : FnB P w K mg base CX0 4 "_law_good_plain" ["_law_thing"] (spV K R__law_good_plain))
    (c__law_good_days : FnB P w K mg base CX0 3 "_law_good_days" ["_law_thing", "_law_below", "_law_most"] (spV K R__law_good_days))
    (c__law_between : FnB P w K mg base CX0 2 "_law_between" ["_law_thing", "_law_low", "_law_high"] (spV K R__law_between)) :
    FnB P w K mg base CX0 5 "_law_good" ["_law_thing"] (spV K R__law_good) := by
  refine T.t__law_good.ok (fun _ _ _ _ _ _ us hl => match us, hl with | [_], _ => rfl) fun f fd F => fn_ok F sc__law_good (by rintro ds d ⟨x, hp, rfl, rfl⟩; rfl) fun cdv A outer s H E hr => ?_
  have hu66 := room66 hr
  have hu := hr.units
  have nd := sc__law_good.nd
  refine ⟨_, (pss_cons (ps_set (i := 1) nd rfl (by first | exact Or.inl rfl | exact Or.inr rfl) pe_int)
    (pss_cons (ps_while PassesOwn.never (PW.pt (pw_and (pt_val (pe_callB (kc_isi (K := K) rfl) rfl T.b_isinstance bb_isinstance (pa_cons (pv 0) (pa_cons (pe_ty T.b_tuple bb_tuple rfl) pa_nil)))) (pw_and (pt_cmpR (ok_eqA (K := K) rfl hu) (pe_callB (kc_len (K := K) rfl) rfl T.b_len bb_len (pa_cons (pv 0) pa_nil)) pe_int (nomark _)) (pw_and1 (pt_cmpR (ok_inX (K := K) rfl hu66) (pe_ix (kx_seq (K := K) rfl) (pv 0) pe_int (fun _ _ => rfl)) (pe_lst (pa_cons pe_str (pa_cons pe_str (pa_cons pe_str (pa_cons pe_str pa_nil))))) rfl))))) (pss_cons (ps_if (PW.pt (pw_and (pt_cmpR (ok_eqA (K := K) rfl hu) (pe_ix (kx_seq (K := K) rfl) (pv 0) pe_int (fun _ _ => rfl)) pe_str (nomark _)) (pw_and1 (pt_not (pt_val (pe_callF c__law_good_days (hr.mono (by decide)) rfl pass0 (pa_cons (pe_ix (kx_seq (K := K) rfl) (pv 0) pe_int (fun _ _ => rfl)) (pa_cons (pe_op op_powI pe_int pe_int) (pa_cons pe_int pa_nil))))))))) (pss_one (ps_ret pe_bl)) pss_nil)
    (pss_cons (ps_if (PW.pt (pw_and (pt_cmpR (ok_neA (K := K) rfl hu) (pe_ix (kx_seq (K := K) rfl) (pv 0) pe_int (fun _ _ => rfl)) pe_str (nomark _)) (pw_and1 (pt_not (pt_val (pe_callF c__law_between (hr.mono (by decide)) rfl pass0 (pa_cons (pe_ix (kx_seq (K := K) rfl) (pv 0) pe_int (fun _ _ => rfl)) (pa_cons pe_int (pa_cons (pe_op op_subI (pe_op op_powI pe_int pe_int) pe_int) pa_nil))))))))) (pss_one (ps_ret pe_bl)) pss_nil)
    (pss_cons (ps_set (i := 0) nd rfl (by first | exact Or.inl rfl | exact Or.inr rfl) (pe_ix (kx_seq (K := K) rfl) (pv 0) pe_int (fun _ _ => rfl)))
    (pss_one (ps_set (i := 1) nd rfl (by first | exact Or.inl rfl | exact Or.inr rfl) (pe_op (ok_addA (K := K) rfl) (pv 1) pe_int)))))))
    (pss_one (ps_ret (pe_and (pe_cmpR op_leI (pv 1) pe_int (nomark _)) (pe_and (pe_callB (kc_isi (K := K) rfl) rfl T.b_isinstance bb_isinstance (pa_cons (pv 0) (pa_cons (pe_ty T.b_tuple bb_tuple rfl) pa_nil))) (pe_and (pe_cmpR op_gtI (pe_callB (kc_len (K := K) rfl) rfl T.b_len bb_len (pa_cons (pv 0) pa_nil)) pe_int (nomark _)) (pe_one (pe_callF c__law_good_plain (hr.mono (by decide)) rfl pass0 (pa_cons (pv 0) pa_nil)))))))))), ?_⟩
  clear hr hu hu66 nd F c__law_good_plain c__law_good_days c__law_between
  rintro ds d ⟨x, hp, rfl, rfl⟩
  show WpD _ _ _ [.dat (x), .no] _
  refine wp_seq (wp_asg (d := .int (1 + ((0 : Nat) : Int))) (ev_to ev_int rfl) ?_)
  dsimp only [List.set_cons_succ, List.set_cons_zero]
  refine wp_seq (wp_cut (fun Γ' => ∃ (k : Nat) (y : PyData), LayD y ∧ ruleB (8 - k) y = ruleB 8 x ∧ (∀ m, ruleB (m + 1) y = endY y) ∧ Γ' = [.dat y, .dat (.int (1 + (k : Int)))]) (wp_wh (fun n Γ' => ∃ (k : Nat) (y : PyData), PyData.depth y = n ∧ LayD y ∧ ruleB (8 - k) y = ruleB 8 x ∧ Γ' = [.dat y, .dat (.int (1 + (k : Int)))]) (PyData.depth x) ⟨0, x, rfl, hp, rfl, rfl⟩ ?_) ?_)
  · rintro _ _ ⟨k, y, rfl, hy, hr, rfl⟩
    by_cases ht : isTup y = true
    · cases y <;> first | (exfalso; cases ht; done) | skip
      rename_i ds
      have hsh : ∀ a ∈ ds, SeqAt.shaped a = true := fun a ha => (hy.mem ha).1.shaped
      rcases ds with _ | ⟨a, _ | ⟨b, _ | ⟨c, _ | ⟨c2, rest⟩⟩⟩⟩
      · refine wh_mk (b := false) ?_ (fun z => by cases z) fun _ => ⟨k, _, hy, hr, fun _ => rfl, rfl⟩
        with_reducible apply et_to
        · k_clsL
        · rfl
      · refine wh_mk (b := false) ?_ (fun z => by cases z) fun _ => ⟨k, _, hy, hr, fun m => by cases a <;> rfl, rfl⟩
        have hsa := hsh a (by simp)
        with_reducible apply et_to
        · k_clsL
        · rfl
      · refine wh_mk (b := false) ?_ (fun z => by cases z) fun _ => ⟨k, _, hy, hr, fun m => by cases a <;> rfl, rfl⟩
        have hsa := hsh a (by simp)
        with_reducible apply et_to
        · k_clsL
        · rfl
      · have hsa := hsh a (by simp)
        by_cases hb : inD a BEARD = true
        · have hs : isStr a = true := by
            cases h : isStr a with
            | true => rfl
            | false => unfold BEARD at hb; rw [inD_nostr4 h] at hb; cases hb
          cases a <;> first | (exfalso; cases hs; done) | skip
          rename_i v
          clear hsa hsh
          have hv : inD (.str v) BEARD = true := hb
          have hstep : ∀ t, (if v = "but" then rowB b 100000000000 20 else isTime b) = t → ruleB (8 - k) (.tuple [.str v, b, c]) = (t && ruleB (8 - (k + 1)) c) := fun t ht => by
            by_cases hk : k < 8
            · rw [show 8 - k = (8 - (k + 1)) + 1 by omega, bearW v hv, ht]
            · rw [show 8 - k = 0 by omega, show 8 - (k + 1) = 0 by omega, ruleB_zero, ruleB_zero, Bool.and_false]
          have hc := hy.mem (a := c) (by simp)
          have hnext : ruleB (8 - (k + 1)) c = ruleB 8 x → ∃ m', m' < PyData.depth (.tuple [.str v, b, c]) ∧ ∃ (k' : Nat) (y' : PyData), PyData.depth y' = m' ∧ LayD y' ∧ ruleB (8 - k') y' = ruleB 8 x ∧ [Ent.dat c, .dat (.int (1 + (k : Int) + 1))] = [.dat y', .dat (.int (1 + (k' : Int)))] := fun z =>
            ⟨_, hc.2, k + 1, c, rfl, hc.1, z, by rw [show (1 : Int) + (k : Int) + 1 = 1 + ((k + 1 : Nat) : Int) by omega]⟩
          refine wh_mk (b := true) ?_ (fun _ => ?_) (fun z => by cases z)
          · with_reducible apply et_to
            · k_clsL
            · show (true && (true && inD (.str v) BEARD)) = true
              rw [hv]; rfl
          by_cases hw : v = "but"
          · subst hw
            rw [if_pos rfl] at hstep
            cases hd : rowB b 100000000000 20 with
            | false =>
              rw [hstep _ hd, Bool.false_and] at hr
              rw [← hr]
              k_offL
              all_goals first | decide | (exfalso; simp_all; done) | trace_state
            | true =>
              rw [hstep _ hd, Bool.true_and] at hr
              k_offL
              all_goals first | decide | exact hnext hr | (exfalso; simp_all; done) | trace_state
          · rw [if_neg hw] at hstep
            cases hd : isTime b with
            | false =>
              have hd2 : isBetween b 0 (1000000000000 - 1) = false := hd
              rw [hstep _ hd, Bool.false_and] at hr
              rw [← hr]
              k_offL
              all_goals first | decide | (exfalso; simp_all; done) | trace_state
            | true =>
              have hd2 : isBetween b 0 (1000000000000 - 1) = true := hd
              rw [hstep _ hd, Bool.true_and] at hr
              k_offL
              all_goals first | decide | exact hnext hr | (exfalso; simp_all; done) | trace_state
        · refine wh_mk (b := false) ?_ (fun z => by cases z) fun _ => ⟨k, _, hy, hr, fun m => ?_, rfl⟩
          · with_reducible apply et_to
            · k_clsL
            · show (true && (true && inD a BEARD)) = false
              rw [Bool.not_eq_true] at hb
              rw [hb]; rfl
          · cases a with
            | str w => exact ruleB_end (fun z => hb z.2)
            | _ => rfl
      · have hsa := hsh a (by simp)
        refine wh_mk (b := false) ?_ (fun z => by cases z) fun _ => ⟨k, _, hy, hr, fun m => ?_, rfl⟩
        · with_reducible apply et_to
          · k_clsL
          · rw [decide_eq_false (by simp; omega)]; rfl
        · cases a with
          | str w => exact ruleB_end (fun z => by simp at z)
          | _ => rfl
    · rw [Bool.not_eq_true] at ht
      refine wh_mk (b := false) ?_ (fun z => by cases z) fun _ => ⟨k, y, hy, hr, fun m => ?_, rfl⟩
      · with_reducible apply et_to
        · exact et_and (b := false) (et_B (ev_isTup (ev_var rfl))) fun z => by rw [ht] at z; cases z
        · rw [ht]; rfl
      · cases y <;> first | (exfalso; cases ht; done) | rfl
  rintro _ ⟨k, y, hy, hr, he, rfl⟩
  rw [← hr]
  have hfin : ruleB (8 - k) y = (decide (1 + (k : Int) ≤ 8) && endY y) := by
    by_cases hk : k < 8
    · rw [show 8 - k = (8 - (k + 1)) + 1 by omega, he, decide_eq_true (by omega)]; rfl
    · rw [show 8 - k = 0 by omega, ruleB_zero, decide_eq_false (by omega)]; rfl
  rw [hfin]
  dsimp only
  by_cases ht : isTup y = true
  · cases y <;> first | (exfalso; cases ht; done) | skip
    rename_i ds
    rcases ds with _ | ⟨a, ps⟩
    · k_offL
    · have hsa := (hy.mem (a := a) (by simp)).1.shaped
      k_offL
      rw [decide_eq_true (show (0 : Int) < ((a :: ps : List PyData).length : Int) by rw [List.length_cons]; omega)]; rfl
  · rw [Bool.not_eq_true] at ht
    have e0 : endY y = false := by cases y <;> first | (exfalso; cases ht; done) | rfl
    rw [e0, Bool.and_false]
    cases y <;> first | (exfalso; cases ht; done) | (k_offL; simp [isTup])
end
section

theorem ok_law {P : Program} {w : World} {K : PySem.W.Frag} {mg : Str → Option Value} {base : Heap} {a_BEARING : Addr} (T : Txt K mg a_BEARING)
    (c__law_cell_at : FnB P w K mg base CX0 1 "_law_cell_at" ["_law_script", "_law_k"] (spV K R__law_cell_at))
    (c__law_levels : FnB P w K mg base CX0 3 "_law_levels" ["_law_script"] (spW (nestW K) R__law_levels))
    (c__law_spoilt : FnB P w K mg base CX0 2 "_law_spoilt" ["_law_levels_here", "_law_way", "_law_cell"] (spW (nestW K) R__law_spoilt))
    (c__law_built : FnB P w K mg base CX0 1 "_law_built" ["_law_levels_here", "_law_at"] (spW (nestW K) R__law_built))
    (c_is_rule : FnB P w K mg base CX0 5 "is_rule" ["thing"] (spV K R_is_rule))
    (c__law_good : FnB P w K mg base CX0 5 "_law_good" ["_law_thing"] (spV K R__law_good)) :
    ∀ f fd, Fun K "law" "law" s_law f fd → LawRun P w K mg base f fd "_law_script" (spV K R_law) := by
  refine fun f fd F => law_okW (nestW K) none rfl (fun _ => trivial) (k := 5) F sc_law ⟨rfl, by decide, by decide⟩ (by rintro ds d ⟨ns, hp, rfl, rfl⟩; rfl) fun cdv s H E hr => ?_
  have hu66 := room66 hr
  have hu := hr.units
  have nd := sc_law.nd
  refine ⟨_, (pss_cons (ps_set (i := 1) nd rfl (by first | exact Or.inl rfl | exact Or.inr rfl) (pe_op op_modI (pe_callF c__law_cell_at (hr.mono (by decide)) rfl pass0 (pa_cons (pv 0) (pa_cons pe_int pa_nil))) pe_int))
    (pss_cons (ps_set (i := 2) nd rfl (by first | exact Or.inl rfl | exact Or.inr rfl) (pe_callF c__law_cell_at (hr.mono (by decide)) rfl pass0 (pa_cons (pv 0) (pa_cons pe_int pa_nil))))
    (pss_cons (ps_set (i := 3) nd rfl (by first | exact Or.inl rfl | exact Or.inr rfl) (pe_callF c__law_levels (hr.mono (by decide)) rfl pass0 (pa_cons (pv 0) pa_nil)))
    (pss_cons (ps_expr (pe_callF c__law_spoilt (hr.mono (by decide)) rfl pass0 (pa_cons (pv 3) (pa_cons (pv 1) (pa_cons (pv 2) pa_nil)))))
    (pss_cons (ps_set (i := 4) nd rfl (by first | exact Or.inl rfl | exact Or.inr rfl) (pe_un un_neg pe_int))
    (pss_cons (ps_if (pt_cmpR (ok_eqA (K := K) rfl hu) (pv 1) pe_int (nomark _)) (pss_one (ps_set (i := 4) nd rfl (by first | exact Or.inl rfl | exact Or.inr rfl) (pe_op op_modI (pv 2) (pe_callB (kc_len (K := K) rfl) rfl T.b_len bb_len (pa_cons (pv 3) pa_nil))))) pss_nil)
    (pss_cons (ps_set (i := 5) nd rfl (by first | exact Or.inl rfl | exact Or.inr rfl) (pe_callF c__law_built (hr.mono (by decide)) rfl pass0 (pa_cons (pv 3) (pa_cons (pv 4) pa_nil))))
    (pss_cons (ps_if (pt_cmpR (ok_eqA (K := K) rfl hu) (pv 1) pe_int (nomark _)) (pss_cons (ps_set (i := 8) nd rfl (by first | exact Or.inl rfl | exact Or.inr rfl) (pe_lst (pa_cons pe_non (pa_cons pe_bl (pa_cons pe_int (pa_cons pe_str (pa_cons (pe_lst pa_nil) (pa_cons (pe_tup pa_nil) (pa_cons (pe_tup (pa_cons pe_str pa_nil)) (pa_cons (pe_tup (pa_cons pe_str (pa_cons pe_int pa_nil))) (pa_cons (pe_lst (pa_cons pe_str (pa_cons pe_int (pa_cons pe_int pa_nil)))) (pa_cons (pe_lst (pa_cons (pe_tup (pa_cons pe_str (pa_cons pe_int (pa_cons pe_int pa_nil)))) pa_nil)) pa_nil))))))))))))
    (pss_cons (ps_set (i := 8) nd rfl (by first | exact Or.inl rfl | exact Or.inr rfl) (pe_op (ok_addA (K := K) rfl) (pv 8) (pe_lst (pa_cons (pe_tup (pa_cons pe_str pa_nil)) (pa_cons (pe_tup (pa_cons (pe_tup (pa_cons pe_str (pa_cons pe_int (pa_cons pe_int pa_nil)))) pa_nil)) pa_nil)))))
    (pss_one (ps_set (i := 5) nd rfl (by first | exact Or.inl rfl | exact Or.inr rfl) (pe_ix (kx_seq (K := K) rfl) (pv 8) (pe_op op_modI (pv 2) pe_int) (fun _ _ => rfl)))))) pss_nil)
    (pss_cons (ps_set (i := 6) nd rfl (by first | exact Or.inl rfl | exact Or.inr rfl) (pe_callB (kc_repr (K := K) rfl rfl hu66) rfl T.b_repr bb_repr (pa_cons (pv 5) pa_nil)))
    (pss_cons (ps_set (i := 7) nd rfl (by first | exact Or.inl rfl | exact Or.inr rfl) (pe_callF c_is_rule (hr.mono (by decide)) rfl pass0 (pa_cons (pv 5) pa_nil)))
    (pss_one (ps_ret (pe_and (pe_callB (kc_isi (K := K) rfl) rfl T.b_isinstance bb_isinstance (pa_cons (pv 7) (pa_cons (pe_ty T.b_bool bb_bool rfl) pa_nil))) (pe_and (pe_cmpR (ok_eqA (K := K) rfl hu) (pv 7) (pe_callF c__law_good (hr.mono (by decide)) rfl pass0 (pa_cons (pv 5) pa_nil)) (nomark _)) (pe_one (pe_cmpR (ok_eqA (K := K) rfl hu) (pe_callB (kc_repr (K := K) rfl rfl hu66) rfl T.b_repr bb_repr (pa_cons (pv 5) pa_nil)) (pv 6) (nomark _))))))))))))))))), ?_⟩
  clear hr hu hu66 nd F c__law_cell_at c__law_levels c__law_spoilt c__law_built c_is_rule c__law_good
  rintro ds d ⟨ns, hp, rfl, rfl⟩
  show WpW _ _ _ [.dat (.list (ns.map .int)), .no, .no, .no, .no, .no, .no, .no, .no] none _
  refine ww_seq (ww_pure (wp_asg (d := .int (cell ns 4 % 8)) ?_ ?_))
  · k_clsL
  dsimp only [List.set_cons_succ, List.set_cons_zero]
  refine ww_seq (ww_pure (wp_asg (d := .int (cell ns 5)) ?_ ?_))
  · k_clsL
  dsimp only [List.set_cons_succ, List.set_cons_zero]
  generalize cell ns 4 % 8 = way
  generalize cell ns 5 = c
  refine ww_seq (ww_asg (ew_call (eae_cons (ee_dat (ev_var rfl)) eae_nil) ⟨ns, hp, rfl, rfl, rfl⟩ (by rintro _ _ ⟨n, h, _⟩; cases h)) ?_)
  rintro _ _ ⟨n, h, hne, hnl, hrow⟩
  cases h
  dsimp only [List.set_cons_succ, List.set_cons_zero]
  refine ww_seq (ww_drop (ew_call (eae_cons (ee_val (v := .ref n.p) rfl) (eae_cons (ee_dat (ev_var rfl)) (eae_cons (ee_dat (ev_var rfl)) eae_nil))) ⟨n, way, c, ⟨hne, hrow⟩, rfl, rfl, rfl⟩ (by rintro _ _ ⟨n, h, _⟩; cases h)) ?_)
  rintro _ _ ⟨n', h, hp', hl', hrow'⟩
  cases h
  rw [← hp']
  refine ww_seq (ww_pure (wp_asg (d := .int (-1)) (by k_clsL) ?_))
  dsimp only [List.set_cons_succ, List.set_cons_zero]
  have hpos : 0 < n'.rows.length := by rw [hl']; exact List.length_pos_iff.mpr hne
  refine ww_seq (ww_cut (fun Γ' s' => ∃ a0 : Int, s' = some n' ∧ Γ' = [.dat (.list (ns.map .int)), .dat (.int way), .dat (.int c), .val (.ref n'.p), .dat (.int a0), .no, .no, .no, .no]) (ww_pure ?_) ?_)
  · refine wp_if (b := decide (way = 5)) (by k_clsL) (fun _ => ?_) fun _ => wp_next ⟨_, rfl, rfl⟩
    refine wp_asg (w_mod (ev_var rfl) (ed_clen (ee_val (v := .ref n'.p) rfl) (nest_top (K := K) (n := n'))) ⟨by rw [List.length_map]; omega⟩) ⟨_, rfl, rfl⟩
  rintro _ _ ⟨a0, rfl, rfl⟩
  dsimp only
  refine ww_seq (ww_asg (ew_call (eae_cons (ee_val (v := .ref n'.p) rfl) (eae_cons (ee_dat (ev_var rfl)) eae_nil)) ⟨n', a0, ⟨by omega, hrow'⟩, rfl, rfl, rfl⟩ (by rintro _ _ ⟨n, h, _⟩; cases h)) ?_)
  rintro _ _ ⟨d, h, hd⟩
  cases h
  dsimp only [List.set_cons_succ, List.set_cons_zero]
  refine ww_pure ?_
  refine wp_seq (wp_cut (fun Γ' => ∃ d e8, Th d 300000 20 ∧ Γ' = [.dat (.list (ns.map .int)), .dat (.int way), .dat (.int c), .val (.ref n'.p), .dat (.int a0), .dat d, .no, .no, e8]) ?_ ?_)
  · refine wp_if (b := decide (way = 6)) (by k_clsL) (fun _ => ?_) fun _ => wp_next ⟨d, _, hd, rfl⟩
    refine wp_seq ?_
    with_reducible apply wp_asg
    · k_clsL
    dsimp only [List.set_cons_succ, List.set_cons_zero]
    refine wp_seq ?_
    with_reducible apply wp_asg
    · k_clsL
    dsimp only [List.set_cons_succ, List.set_cons_zero]
    show WpD _ _ _ [.dat (.list (ns.map .int)), .dat (.int way), .dat (.int c), .val (.ref n'.p), .dat (.int a0), .dat d, .no, .no, .dat (.list W12)] _
    refine wp_asg (ev_op (ev_var rfl) ?_ (oq_ix_list (i := c % 12) ⟨atI_getD (xs := W12) .none (by omega) (by show c % 12 < 12; omega)⟩)) ⟨_, _, (w12_th c).le (by decide) (by decide), rfl⟩
    k_clsL
  rintro _ ⟨d, e8, hd, rfl⟩
  dsimp only
  obtain ⟨hlay, hR1, hR2, hR3, hR4⟩ := hd
  have hL : LayD d := ⟨hlay, by omega⟩
  have hR3 : PyData.depth d ≤ 64 := by omega
  have hR4 : (PyData.shown d).length ≤ sizeLine := Nat.le_trans hR4 (by decide)
  k_offL
  simp [isBool]
end
theorem all_mk {l : PySem.W.OpenLaw} {w : World} {K : PySem.W.Frag} {h : Heap} {mg : Str → Option Value} {fa : Addr} (X : K.In h) (G : h.Ns mainGlobals mg) (hfa : mg "law" = some (.ref fa))
    {f0 : Addr} {od0 an0 : Option Addr} {sl0 : Array (Option Value)} {oc0 kV0 dc0 pm0 cd0 ct0 : Value}
    {f1 : Addr} {od1 an1 : Option Addr} {sl1 : Array (Option Value)} {oc1 kV1 dc1 pm1 cd1 ct1 : Value}
    {f2 : Addr} {od2 an2 : Option Addr} {sl2 : Array (Option Value)} {oc2 kV2 dc2 pm2 cd2 ct2 : Value}
    {f3 : Addr} {od3 an3 : Option Addr} {sl3 : Array (Option Value)} {oc3 kV3 dc3 pm3 cd3 ct3 : Value}
    {f4 : Addr} {od4 an4 : Option Addr} {sl4 : Array (Option Value)} {oc4 kV4 dc4 pm4 cd4 ct4 : Value}
    {f5 : Addr} {od5 an5 : Option Addr} {sl5 : Array (Option Value)} {oc5 kV5 dc5 pm5 cd5 ct5 : Value}
    {f6 : Addr} {od6 an6 : Option Addr} {sl6 : Array (Option Value)} {oc6 kV6 dc6 pm6 cd6 ct6 : Value}
    {f7 : Addr} {od7 an7 : Option Addr} {sl7 : Array (Option Value)} {oc7 kV7 dc7 pm7 cd7 ct7 : Value}
    {f8 : Addr} {od8 an8 : Option Addr} {sl8 : Array (Option Value)} {oc8 kV8 dc8 pm8 cd8 ct8 : Value}
    {f9 : Addr} {od9 an9 : Option Addr} {sl9 : Array (Option Value)} {oc9 kV9 dc9 pm9 cd9 ct9 : Value}
    {f10 : Addr} {od10 an10 : Option Addr} {sl10 : Array (Option Value)} {oc10 kV10 dc10 pm10 cd10 ct10 : Value}
    {f11 : Addr} {od11 an11 : Option Addr} {sl11 : Array (Option Value)} {oc11 kV11 dc11 pm11 cd11 ct11 : Value}
    {f12 : Addr} {od12 an12 : Option Addr} {sl12 : Array (Option Value)} {oc12 kV12 dc12 pm12 cd12 ct12 : Value}
    {f13 : Addr} {od13 an13 : Option Addr} {sl13 : Array (Option Value)} {oc13 kV13 dc13 pm13 cd13 ct13 : Value}
    {f14 : Addr} {od14 an14 : Option Addr} {sl14 : Array (Option Value)} {oc14 kV14 dc14 pm14 cd14 ct14 : Value}
    {f15 : Addr} {od15 an15 : Option Addr} {sl15 : Array (Option Value)} {oc15 kV15 dc15 pm15 cd15 ct15 : Value}
    {f16 : Addr} {od16 an16 : Option Addr} {sl16 : Array (Option Value)} {oc16 kV16 dc16 pm16 cd16 ct16 : Value}
    {f17 : Addr} {od17 an17 : Option Addr} {sl17 : Array (Option Value)} {oc17 kV17 dc17 pm17 cd17 ct17 : Value}
    {f18 : Addr} {od18 an18 : Option Addr} {sl18 : Array (Option Value)} {oc18 kV18 dc18 pm18 cd18 ct18 : Value}
    {f19 : Addr} {od19 an19 : Option Addr} {sl19 : Array (Option Value)} {oc19 kV19 dc19 pm19 cd19 ct19 : Value}
    {f20 : Addr} {od20 an20 : Option Addr} {sl20 : Array (Option Value)} {oc20 kV20 dc20 pm20 cd20 ct20 : Value}
    {f21 : Addr} {od21 an21 : Option Addr} {sl21 : Array (Option Value)} {oc21 kV21 dc21 pm21 cd21 ct21 : Value}
    {t_TIMES : Tok}
    {t_DAYS : Tok}
    {t_LONGEST : Tok}
    {t_MOST_STEP : Tok}
    {t_DEEPEST : Tok}
    {a_BEARING : Addr} {i_BEARING : Array Value} {n_BEARING : Nat} {sl_BEARING : Array (Option Value)}
    (a0 : PySem.W.nsIn K mainGlobals "is_whole" = some (some (.ref f0))) (l0 : K.lookup f0 = some ⟨oc0, od0, .func (PySem.W.fnOf "is_whole" "is_whole" (defArgs s_is_whole) (defBody s_is_whole) (defScope s_is_whole) .none kV0 dc0 pm0 an0 cd0 ct0), sl0⟩) (c0 : PySem.W.codeIn K cd0 "is_whole" = true) (k0 : PySem.W.keepIn K (.ref f0) = true)
    (a1 : PySem.W.nsIn K mainGlobals "is_between" = some (some (.ref f1))) (l1 : K.lookup f1 = some ⟨oc1, od1, .func (PySem.W.fnOf "is_between" "is_between" (defArgs s_is_between) (defBody s_is_between) (defScope s_is_between) .none kV1 dc1 pm1 an1 cd1 ct1), sl1⟩) (c1 : PySem.W.codeIn K cd1 "is_between" = true) (k1 : PySem.W.keepIn K (.ref f1) = true)
    (a2 : PySem.W.nsIn K mainGlobals "is_time" = some (some (.ref f2))) (l2 : K.lookup f2 = some ⟨oc2, od2, .func (PySem.W.fnOf "is_time" "is_time" (defArgs s_is_time) (defBody s_is_time) (defScope s_is_time) .none kV2 dc2 pm2 an2 cd2 ct2), sl2⟩) (c2 : PySem.W.codeIn K cd2 "is_time" = true) (k2 : PySem.W.keepIn K (.ref f2) = true)
    (a3 : PySem.W.nsIn K mainGlobals "is_length" = some (some (.ref f3))) (l3 : K.lookup f3 = some ⟨oc3, od3, .func (PySem.W.fnOf "is_length" "is_length" (defArgs s_is_length) (defBody s_is_length) (defScope s_is_length) .none kV3 dc3 pm3 an3 cd3 ct3), sl3⟩) (c3 : PySem.W.codeIn K cd3 "is_length" = true) (k3 : PySem.W.keepIn K (.ref f3) = true)
    (a4 : PySem.W.nsIn K mainGlobals "is_row" = some (some (.ref f4))) (l4 : K.lookup f4 = some ⟨oc4, od4, .func (PySem.W.fnOf "is_row" "is_row" (defArgs s_is_row) (defBody s_is_row) (defScope s_is_row) .none kV4 dc4 pm4 an4 cd4 ct4), sl4⟩) (c4 : PySem.W.codeIn K cd4 "is_row" = true) (k4 : PySem.W.keepIn K (.ref f4) = true)
    (a5 : PySem.W.nsIn K mainGlobals "is_plain" = some (some (.ref f5))) (l5 : K.lookup f5 = some ⟨oc5, od5, .func (PySem.W.fnOf "is_plain" "is_plain" (defArgs s_is_plain) (defBody s_is_plain) (defScope s_is_plain) .none kV5 dc5 pm5 an5 cd5 ct5), sl5⟩) (c5 : PySem.W.codeIn K cd5 "is_plain" = true) (k5 : PySem.W.keepIn K (.ref f5) = true)
    (a6 : PySem.W.nsIn K mainGlobals "is_rule" = some (some (.ref f6))) (l6 : K.lookup f6 = some ⟨oc6, od6, .func (PySem.W.fnOf "is_rule" "is_rule" (defArgs s_is_rule) (defBody s_is_rule) (defScope s_is_rule) .none kV6 dc6 pm6 an6 cd6 ct6), sl6⟩) (c6 : PySem.W.codeIn K cd6 "is_rule" = true) (k6 : PySem.W.keepIn K (.ref f6) = true)
    (a7 : PySem.W.nsIn K mainGlobals "_law_cell_at" = some (some (.ref f7))) (l7 : K.lookup f7 = some ⟨oc7, od7, .func (PySem.W.fnOf "_law_cell_at" "_law_cell_at" (defArgs s__law_cell_at) (defBody s__law_cell_at) (defScope s__law_cell_at) .none kV7 dc7 pm7 an7 cd7 ct7), sl7⟩) (c7 : PySem.W.codeIn K cd7 "_law_cell_at" = true) (k7 : PySem.W.keepIn K (.ref f7) = true)
    (a8 : PySem.W.nsIn K mainGlobals "_law_whole" = some (some (.ref f8))) (l8 : K.lookup f8 = some ⟨oc8, od8, .func (PySem.W.fnOf "_law_whole" "_law_whole" (defArgs s__law_whole) (defBody s__law_whole) (defScope s__law_whole) .none kV8 dc8 pm8 an8 cd8 ct8), sl8⟩) (c8 : PySem.W.codeIn K cd8 "_law_whole" = true) (k8 : PySem.W.keepIn K (.ref f8) = true)
    (a9 : PySem.W.nsIn K mainGlobals "_law_weekdays" = some (some (.ref f9))) (l9 : K.lookup f9 = some ⟨oc9, od9, .func (PySem.W.fnOf "_law_weekdays" "_law_weekdays" (defArgs s__law_weekdays) (defBody s__law_weekdays) (defScope s__law_weekdays) .none kV9 dc9 pm9 an9 cd9 ct9), sl9⟩) (c9 : PySem.W.codeIn K cd9 "_law_weekdays" = true) (k9 : PySem.W.keepIn K (.ref f9) = true)
    (a10 : PySem.W.nsIn K mainGlobals "_law_time" = some (some (.ref f10))) (l10 : K.lookup f10 = some ⟨oc10, od10, .func (PySem.W.fnOf "_law_time" "_law_time" (defArgs s__law_time) (defBody s__law_time) (defScope s__law_time) .none kV10 dc10 pm10 an10 cd10 ct10), sl10⟩) (c10 : PySem.W.codeIn K cd10 "_law_time" = true) (k10 : PySem.W.keepIn K (.ref f10) = true)
    (a11 : PySem.W.nsIn K mainGlobals "_law_wide_plain" = some (some (.ref f11))) (l11 : K.lookup f11 = some ⟨oc11, od11, .func (PySem.W.fnOf "_law_wide_plain" "_law_wide_plain" (defArgs s__law_wide_plain) (defBody s__law_wide_plain) (defScope s__law_wide_plain) .none kV11 dc11 pm11 an11 cd11 ct11), sl11⟩) (c11 : PySem.W.codeIn K cd11 "_law_wide_plain" = true) (k11 : PySem.W.keepIn K (.ref f11) = true)
    (a12 : PySem.W.nsIn K mainGlobals "_law_wide_head" = some (some (.ref f12))) (l12 : K.lookup f12 = some ⟨oc12, od12, .func (PySem.W.fnOf "_law_wide_head" "_law_wide_head" (defArgs s__law_wide_head) (defBody s__law_wide_head) (defScope s__law_wide_head) .none kV12 dc12 pm12 an12 cd12 ct12), sl12⟩) (c12 : PySem.W.codeIn K cd12 "_law_wide_head" = true) (k12 : PySem.W.keepIn K (.ref f12) = true)
    (a13 : PySem.W.nsIn K mainGlobals "_law_between" = some (some (.ref f13))) (l13 : K.lookup f13 = some ⟨oc13, od13, .func (PySem.W.fnOf "_law_between" "_law_between" (defArgs s__law_between) (defBody s__law_between) (defScope s__law_between) .none kV13 dc13 pm13 an13 cd13 ct13), sl13⟩) (c13 : PySem.W.codeIn K cd13 "_law_between" = true) (k13 : PySem.W.keepIn K (.ref f13) = true)
    (a14 : PySem.W.nsIn K mainGlobals "_law_good_days" = some (some (.ref f14))) (l14 : K.lookup f14 = some ⟨oc14, od14, .func (PySem.W.fnOf "_law_good_days" "_law_good_days" (defArgs s__law_good_days) (defBody s__law_good_days) (defScope s__law_good_days) .none kV14 dc14 pm14 an14 cd14 ct14), sl14⟩) (c14 : PySem.W.codeIn K cd14 "_law_good_days" = true) (k14 : PySem.W.keepIn K (.ref f14) = true)
    (a15 : PySem.W.nsIn K mainGlobals "_law_good_plain" = some (some (.ref f15))) (l15 : K.lookup f15 = some ⟨oc15, od15, .func (PySem.W.fnOf "_law_good_plain" "_law_good_plain" (defArgs s__law_good_plain) (defBody s__law_good_plain) (defScope s__law_good_plain) .none kV15 dc15 pm15 an15 cd15 ct15), sl15⟩) (c15 : PySem.W.codeIn K cd15 "_law_good_plain" = true) (k15 : PySem.W.keepIn K (.ref f15) = true)
    (a16 : PySem.W.nsIn K mainGlobals "_law_good" = some (some (.ref f16))) (l16 : K.lookup f16 = some ⟨oc16, od16, .func (PySem.W.fnOf "_law_good" "_law_good" (defArgs s__law_good) (defBody s__law_good) (defScope s__law_good) .none kV16 dc16 pm16 an16 cd16 ct16), sl16⟩) (c16 : PySem.W.codeIn K cd16 "_law_good" = true) (k16 : PySem.W.keepIn K (.ref f16) = true)
    (a17 : PySem.W.nsIn K mainGlobals "_law_odd" = some (some (.ref f17))) (l17 : K.lookup f17 = some ⟨oc17, od17, .func (PySem.W.fnOf "_law_odd" "_law_odd" (defArgs s__law_odd) (defBody s__law_odd) (defScope s__law_odd) .none kV17 dc17 pm17 an17 cd17 ct17), sl17⟩) (c17 : PySem.W.codeIn K cd17 "_law_odd" = true) (k17 : PySem.W.keepIn K (.ref f17) = true)
    (a18 : PySem.W.nsIn K mainGlobals "_law_levels" = some (some (.ref f18))) (l18 : K.lookup f18 = some ⟨oc18, od18, .func (PySem.W.fnOf "_law_levels" "_law_levels" (defArgs s__law_levels) (defBody s__law_levels) (defScope s__law_levels) .none kV18 dc18 pm18 an18 cd18 ct18), sl18⟩) (c18 : PySem.W.codeIn K cd18 "_law_levels" = true) (k18 : PySem.W.keepIn K (.ref f18) = true)
    (a19 : PySem.W.nsIn K mainGlobals "_law_spoilt" = some (some (.ref f19))) (l19 : K.lookup f19 = some ⟨oc19, od19, .func (PySem.W.fnOf "_law_spoilt" "_law_spoilt" (defArgs s__law_spoilt) (defBody s__law_spoilt) (defScope s__law_spoilt) .none kV19 dc19 pm19 an19 cd19 ct19), sl19⟩) (c19 : PySem.W.codeIn K cd19 "_law_spoilt" = true) (k19 : PySem.W.keepIn K (.ref f19) = true)
    (a20 : PySem.W.nsIn K mainGlobals "_law_built" = some (some (.ref f20))) (l20 : K.lookup f20 = some ⟨oc20, od20, .func (PySem.W.fnOf "_law_built" "_law_built" (defArgs s__law_built) (defBody s__law_built) (defScope s__law_built) .none kV20 dc20 pm20 an20 cd20 ct20), sl20⟩) (c20 : PySem.W.codeIn K cd20 "_law_built" = true) (k20 : PySem.W.keepIn K (.ref f20) = true)
    (a21 : PySem.W.nsIn K mainGlobals "law" = some (some (.ref f21))) (l21 : K.lookup f21 = some ⟨oc21, od21, .func (PySem.W.fnOf "law" "law" (defArgs s_law) (defBody s_law) (defScope s_law) .none kV21 dc21 pm21 an21 cd21 ct21), sl21⟩) (c21 : PySem.W.codeIn K cd21 "law" = true) (k21 : PySem.W.keepIn K (.ref f21) = true)
    (b_all : PySem.W.nsIn K mainGlobals "all" = some none)
    (b_bool : PySem.W.nsIn K mainGlobals "bool" = some none)
    (b_int : PySem.W.nsIn K mainGlobals "int" = some none)
    (b_isinstance : PySem.W.nsIn K mainGlobals "isinstance" = some none)
    (b_len : PySem.W.nsIn K mainGlobals "len" = some none)
    (b_list : PySem.W.nsIn K mainGlobals "list" = some none)
    (b_range : PySem.W.nsIn K mainGlobals "range" = some none)
    (b_repr : PySem.W.nsIn K mainGlobals "repr" = some none)
    (b_str : PySem.W.nsIn K mainGlobals "str" = some none)
    (b_tuple : PySem.W.nsIn K mainGlobals "tuple" = some none)
    (b_zip : PySem.W.nsIn K mainGlobals "zip" = some none)
    (g_TIMES : PySem.W.nsIn K mainGlobals "TIMES" = some (some (.int (1000000000000) t_TIMES)))
    (g_DAYS : PySem.W.nsIn K mainGlobals "DAYS" = some (some (.int (100000000000) t_DAYS)))
    (g_LONGEST : PySem.W.nsIn K mainGlobals "LONGEST" = some (some (.int (48) t_LONGEST)))
    (g_MOST_STEP : PySem.W.nsIn K mainGlobals "MOST_STEP" = some (some (.int (1000000) t_MOST_STEP)))
    (g_DEEPEST : PySem.W.nsIn K mainGlobals "DEEPEST" = some (some (.int (8) t_DEEPEST)))
    (g_BEARING : PySem.W.nsIn K mainGlobals "BEARING" = some (some (.ref a_BEARING))) (l_BEARING : K.lookup a_BEARING = some ⟨.type "list", none, .seq i_BEARING n_BEARING, sl_BEARING⟩) (v_BEARING : i_BEARING.toList.map absV = ([V.str "from", V.str "until", V.str "also", V.str "but"] : List V).map some) :
    ∃ fd : FuncData, (∀ (s : Shared) (v : Value), BindsTo s fd ⟨[v], []⟩ [("_law_script", v)]) ∧ ∀ base : Heap, K.In base → base.Ns mainGlobals mg → LawRun l.prog w K mg base fa fd "_law_script" (spV K rLaw) := by
  have e := hfa.symm.trans (PySem.W.mg_of X G a21)
  cases e
  have T : Txt K mg a_BEARING := ⟨fnT_mk X G a0 l0 c0 k0, fnT_mk X G a1 l1 c1 k1, fnT_mk X G a2 l2 c2 k2, fnT_mk X G a3 l3 c3 k3, fnT_mk X G a4 l4 c4 k4, fnT_mk X G a5 l5 c5 k5, fnT_mk X G a6 l6 c6 k6, fnT_mk X G a7 l7 c7 k7, fnT_mk X G a8 l8 c8 k8, fnT_mk X G a9 l9 c9 k9, fnT_mk X G a10 l10 c10 k10, fnT_mk X G a11 l11 c11 k11, fnT_mk X G a12 l12 c12 k12, fnT_mk X G a13 l13 c13 k13, fnT_mk X G a14 l14 c14 k14, fnT_mk X G a15 l15 c15 k15, fnT_mk X G a16 l16 c16 k16, fnT_mk X G a17 l17 c17 k17, fnT_mk X G a18 l18 c18 k18, fnT_mk X G a19 l19 c19 k19, fnT_mk X G a20 l20 c20 k20, fnT_mk X G a21 l21 c21 k21, PySem.W.mg_none_of X G b_all, PySem.W.mg_none_of X G b_bool, PySem.W.mg_none_of X G b_int, PySem.W.mg_none_of X G b_isinstance, PySem.W.mg_none_of X G b_len, PySem.W.mg_none_of X G b_list, PySem.W.mg_none_of X G b_range, PySem.W.mg_none_of X G b_repr, PySem.W.mg_none_of X G b_str, PySem.W.mg_none_of X G b_tuple, PySem.W.mg_none_of X G b_zip, gint_mk X G g_TIMES, gint_mk X G g_DAYS, gint_mk X G g_LONGEST, gint_mk X G g_MOST_STEP, gint_mk X G g_DEEPEST, gdat_mk X G ([V.str "from", V.str "until", V.str "also", V.str "but"]) g_BEARING l_BEARING v_BEARING (by decide) (fun B => (.cons (.str _) (.cons (.str _) (.cons (.str _) (.cons (.str _) .nil)))))⟩
  refine ⟨PySem.W.fnOf "law" "law" (defArgs s_law) (defBody s_law) (defScope s_law) .none kV21 dc21 pm21 an21 cd21 ct21, fun s v => .of_eq rfl, fun base _ _ => ?_⟩
  have d__law_cell_at := ok__law_cell_at (P := l.prog) (w := w) (base := base) T
  have d__law_time := ok__law_time (P := l.prog) (w := w) (base := base) T
  have d__law_weekdays := ok__law_weekdays (P := l.prog) (w := w) (base := base) T
  have d__law_wide_plain := ok__law_wide_plain (P := l.prog) (w := w) (base := base) T d__law_time d__law_weekdays
  have d__law_wide_head := ok__law_wide_head (P := l.prog) (w := w) (base := base) T d__law_time
  have d__law_levels := ok__law_levels (P := l.prog) (w := w) (base := base) T d__law_wide_plain d__law_cell_at d__law_wide_head
  have d__law_odd := ok__law_odd (P := l.prog) (w := w) (base := base) T
  have d__law_spoilt := ok__law_spoilt (P := l.prog) (w := w) (base := base) T d__law_odd
  have d__law_built := ok__law_built (P := l.prog) (w := w) (base := base) T
  have d_is_whole := ok_is_whole (P := l.prog) (w := w) (base := base) T
  have d_is_between := ok_is_between (P := l.prog) (w := w) (base := base) T d_is_whole
  have d_is_row := ok_is_row (P := l.prog) (w := w) (base := base) T d_is_between
  have d_is_time := ok_is_time (P := l.prog) (w := w) (base := base) T d_is_between
  have d_is_length := ok_is_length (P := l.prog) (w := w) (base := base) T d_is_between
  have d_is_plain := ok_is_plain (P := l.prog) (w := w) (base := base) T d_is_row d_is_between d_is_time d_is_length
  have d_is_rule := ok_is_rule (P := l.prog) (w := w) (base := base) T d_is_plain d_is_row d_is_time
  have d__law_whole := ok__law_whole (P := l.prog) (w := w) (base := base) T
  have d__law_between := ok__law_between (P := l.prog) (w := w) (base := base) T d__law_whole
  have d__law_good_days := ok__law_good_days (P := l.prog) (w := w) (base := base) T d__law_between
  have d__law_good_plain := ok__law_good_plain (P := l.prog) (w := w) (base := base) T d__law_between d__law_good_days
  have d__law_good := ok__law_good (P := l.prog) (w := w) (base := base) T d__law_good_plain d__law_good_days d__law_between
  exact ok_law (P := l.prog) (w := w) (base := base) T d__law_cell_at d__law_levels d__law_spoilt d__law_built d_is_rule d__law_good _ _ (fun_mk (st := s_law) l21 c21 k21)
end K05
open PySem PySem.W PyProof.Rows
set_option maxRecDepth 100000 in
set_option maxHeartbeats 0 in
theorem PySem.Challenge.cw_freehour_k05_what_is_a_rule_holds : PySem.Challenge.rw_freehour_k05_what_is_a_rule.Holds := by
  w_on; o_law; k_head; (case hw => w_witness2)
  k_fill
  refine Pd.law_walkG (x := "_law_script") (l := PySem.Challenge.rw_freehour_k05_what_is_a_rule) rfl rfl (fun w h Y => PySem.W.kIn_of Y) ?F
  case F =>
    intro w mg fa h KX G hmg
    refine' K05.all_mk KX G hmg ?a0 ?l0 ?c0 ?k0 ?a1 ?l1 ?c1 ?k1 ?a2 ?l2 ?c2 ?k2 ?a3 ?l3 ?c3 ?k3 ?a4 ?l4 ?c4 ?k4 ?a5 ?l5 ?c5 ?k5 ?a6 ?l6 ?c6 ?k6 ?a7 ?l7 ?c7 ?k7 ?a8 ?l8 ?c8 ?k8 ?a9 ?l9 ?c9 ?k9 ?a10 ?l10 ?c10 ?k10 ?a11 ?l11 ?c11 ?k11 ?a12 ?l12 ?c12 ?k12 ?a13 ?l13 ?c13 ?k13 ?a14 ?l14 ?c14 ?k14 ?a15 ?l15 ?c15 ?k15 ?a16 ?l16 ?c16 ?k16 ?a17 ?l17 ?c17 ?k17 ?a18 ?l18 ?c18 ?k18 ?a19 ?l19 ?c19 ?k19 ?a20 ?l20 ?c20 ?k20 ?a21 ?l21 ?c21 ?k21 ?b_all ?b_bool ?b_int ?b_isinstance ?b_len ?b_list ?b_range ?b_repr ?b_str ?b_tuple ?b_zip ?g_TIMES ?g_DAYS ?g_LONGEST ?g_MOST_STEP ?g_DEEPEST ?g_BEARING ?l_BEARING ?v_BEARING
    (case a0 => k_is); (case l0 => k_is); (case c0 => k_is); (case k0 => k_is); (case a1 => k_is); (case l1 => k_is); (case c1 => k_is); (case k1 => k_is)
    (case a2 => k_is); (case l2 => k_is); (case c2 => k_is); (case k2 => k_is); (case a3 => k_is); (case l3 => k_is); (case c3 => k_is); (case k3 => k_is)
    (case a4 => k_is); (case l4 => k_is); (case c4 => k_is); (case k4 => k_is); (case a5 => k_is); (case l5 => k_is); (case c5 => k_is); (case k5 => k_is)
    (case a6 => k_is); (case l6 => k_is); (case c6 => k_is); (case k6 => k_is); (case a7 => k_is); (case l7 => k_is); (case c7 => k_is); (case k7 => k_is)
    (case a8 => k_is); (case l8 => k_is); (case c8 => k_is); (case k8 => k_is); (case a9 => k_is); (case l9 => k_is); (case c9 => k_is); (case k9 => k_is)
    (case a10 => k_is); (case l10 => k_is); (case c10 => k_is); (case k10 => k_is); (case a11 => k_is); (case l11 => k_is); (case c11 => k_is); (case k11 => k_is)
    (case a12 => k_is); (case l12 => k_is); (case c12 => k_is); (case k12 => k_is); (case a13 => k_is); (case l13 => k_is); (case c13 => k_is); (case k13 => k_is)
    (case a14 => k_is); (case l14 => k_is); (case c14 => k_is); (case k14 => k_is); (case a15 => k_is); (case l15 => k_is); (case c15 => k_is); (case k15 => k_is)
    (case a16 => k_is); (case l16 => k_is); (case c16 => k_is); (case k16 => k_is); (case a17 => k_is); (case l17 => k_is); (case c17 => k_is); (case k17 => k_is)
    (case a18 => k_is); (case l18 => k_is); (case c18 => k_is); (case k18 => k_is); (case a19 => k_is); (case l19 => k_is); (case c19 => k_is); (case k19 => k_is)
    (case a20 => k_is); (case l20 => k_is); (case c20 => k_is); (case k20 => k_is); (case a21 => k_is); (case l21 => k_is); (case c21 => k_is); (case k21 => k_is)
    (case b_all => k_is); (case b_bool => k_is); (case b_int => k_is); (case b_isinstance => k_is); (case b_len => k_is); (case b_list => k_is); (case b_range => k_is); (case b_repr => k_is)
    (case b_str => k_is); (case b_tuple => k_is); (case b_zip => k_is); (case g_TIMES => k_is); (case g_DAYS => k_is); (case g_LONGEST => k_is); (case g_MOST_STEP => k_is); (case g_DEEPEST => k_is)
    (case g_BEARING => k_is); (case l_BEARING => k_is); (case v_BEARING => rfl)
