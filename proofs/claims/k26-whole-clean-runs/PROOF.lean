import PyProof.Rows.All
import Wide.All
import OpenK.AllK
import Wide.FinOn
import HandS.ForMost
import HandS.Evl
import HandS.SetKeys
import HandS.TupAny
import HandS.IsInst
import HandS.NoneIn
import HandS.Strs
import HandS.Style
import HandS.Zip
import HandS.Wide
import HandS.Flow
import HandS.Conv
import KE.KStateDown
import HandS.Head0
import HandS.Head1
import HandS.Head2
import HandS.HeadEnd
import HandS.HeadHook1
import Lean
import PySem.Challenge.RW_backstair_k26_whole_clean_runs
set_option Elab.async false
set_option linter.all false
set_option maxRecDepth 100000
set_option maxHeartbeats 4000000
set_option maxRecDepth 100000
set_option maxHeartbeats 4000000
/-! DL1: data evaluation over the hand layer: an expression's reading gives data (PyData), the heap hidden. -/
namespace DL
open PySem L2
abbrev Ex := Evl.Ex
abbrev Ss := List (Option V)

/-! ### the data heap B within the heap H -/
structure Grow (B H B' H' : Hp) : Prop where
  b : Ex B B'
  h : Ex H H'
  sub : Ex B' H'
  out : ∀ l, H l ≠ none → B l = none → B' l = none
theorem Ex.rfl {H : Hp} : Ex H H := Evl.Ex.refl H
theorem ex_none {B H : Hp} (e : Ex B H) {p : Addr} (hp : H p = none) : B p = none := by
  cases q : B p with
  | none => rfl
  | some o => rw [e p o q] at hp; cases hp
theorem ex_ne {H H' : Hp} (e : Ex H H') {l : Addr} (h : H l ≠ none) : H' l ≠ none := by
  cases q : H l with
  | none => exact absurd q h
  | some o => rw [e l o q]; intro z; cases z
theorem Grow.refl {B H : Hp} (e : Ex B H) : Grow B H B H := ⟨Ex.rfl, Ex.rfl, e, fun _ _ h => h⟩
theorem Grow.trans {B H B1 H1 B2 H2 : Hp} (g : Grow B H B1 H1) (k : Grow B1 H1 B2 H2) : Grow B H B2 H2 :=
  ⟨g.b.trans k.b, g.h.trans k.h, k.sub, fun l h1 h2 => k.out l (ex_ne g.h h1) (g.out l h1 h2)⟩
theorem Grow.new {B H : Hp} {p : Addr} {o : HO} (e : Ex B H) (hp : H p = none) : Grow B H (upd B p o) (upd H p o) := by
  refine ⟨Evl.Ex.new (ex_none e hp), Evl.Ex.new hp, fun a u h => ?_, fun l h1 h2 => ?_⟩
  · by_cases q : a = p
    · rw [q, upd_same] at h
      rw [q, upd_same]
      exact h
    · rw [upd_ne q] at h
      rw [upd_ne q]
      exact e a u h
  · have q : l ≠ p := fun z => h1 (by rw [z]; exact hp)
    rw [upd_ne q]
    exact h2
theorem ex_upd {B H : Hp} {p : Addr} {o : HO} (e : Ex B H) (hp : B p = none) : Ex B (upd H p o) := Evl.Ex.mut e hp
theorem Grow.new0 {B H : Hp} {p : Addr} {o : HO} (e : Ex B H) (hp : H p = none) : Grow B H B (upd H p o) :=
  ⟨Ex.rfl, Evl.Ex.new hp, ex_upd e (ex_none e hp), fun _ _ h => h⟩
theorem ex_put {B H : Hp} {p : Addr} {o : HO} (e : Ex B H) (hH : H p = some o) : Ex (upd B p o) H := fun a u h => by
  by_cases q : a = p
  · rw [q, upd_same] at h
    rw [q, hH]
    exact h
  · rw [upd_ne q] at h
    exact e a u h

/-! ### data in the heap -/
mutual
inductive DD (H : Hp) : V → PyData → Prop
  | non : DD H .non .none
  | bl (b : Bool) : DD H (.bl b) (.bool b)
  | int (i : Int) : DD H (.int i) (.int i)
  | str (x : Str) : DD H (.str x) (.str x)
  | lst {a : Addr} {xs : List V} {ds : List PyData} : H a = some (.lst xs) → DDs H xs ds → DD H (.ref a) (.list ds)
  | tup {a : Addr} {xs : List V} {ds : List PyData} : H a = some (.tup xs) → DDs H xs ds → DD H (.ref a) (.tuple ds)
inductive DDs (H : Hp) : List V → List PyData → Prop
  | nil : DDs H [] []
  | cons {v : V} {vs : List V} {d : PyData} {ds : List PyData} : DD H v d → DDs H vs ds → DDs H (v :: vs) (d :: ds)
end
mutual
theorem dd_mono {H H' : Hp} (e : Ex H H') : ∀ (d : PyData) (v : V), DD H v d → DD H' v d
  | .none, _, h => by cases h; exact .non
  | .bool b, _, h => by cases h; exact .bl b
  | .int i, _, h => by cases h; exact .int i
  | .str x, _, h => by cases h; exact .str x
  | .list ds, _, h => by
    cases h with
    | lst h1 h2 => exact .lst (e _ _ h1) (dds_mono e ds _ h2)
  | .tuple ds, _, h => by
    cases h with
    | tup h1 h2 => exact .tup (e _ _ h1) (dds_mono e ds _ h2)
  | .dict _, _, h => by cases h
theorem dds_mono {H H' : Hp} (e : Ex H H') : ∀ (ds : List PyData) (vs : List V), DDs H vs ds → DDs H' vs ds
  | [], _, h => by cases h; exact .nil
  | d :: ds, _, h => by
    cases h with
    | cons h1 h2 => exact .cons (dd_mono e d _ h1) (dds_mono e ds _ h2)
end
theorem DD.mono {H H' : Hp} {v : V} {d : PyData} (h : DD H v d) (e : Ex H H') : DD H' v d := dd_mono e d v h
theorem DDs.mono {H H' : Hp} {v : List V} {d : List PyData} (h : DDs H v d) (e : Ex H H') : DDs H' v d := dds_mono e d v h
mutual
theorem dd_dp {K : PySem.W.Frag} {H : Hp} : ∀ (d : PyData) (v : V), DD H v d → Dp K H v d
  | .none, _, h => by cases h; exact .non
  | .bool b, _, h => by cases h; exact .bl b
  | .int i, _, h => by cases h; exact .int i
  | .str x, _, h => by cases h; exact .str x
  | .list ds, _, h => by
    cases h with
    | lst h1 h2 => exact .lst (SqL.of h1) (dds_dp ds _ h2)
  | .tuple ds, _, h => by
    cases h with
    | tup h1 h2 => exact .tup (SqT.of h1) (dds_dp ds _ h2)
  | .dict _, _, h => by cases h
theorem dds_dp {K : PySem.W.Frag} {H : Hp} : ∀ (ds : List PyData) (vs : List V), DDs H vs ds → DpAll K H vs ds
  | [], _, h => by cases h; exact .nil
  | d :: ds, _, h => by
    cases h with
    | cons h1 h2 => exact .cons (dd_dp d _ h1) (dds_dp ds _ h2)
end
theorem DD.dp {K : PySem.W.Frag} {H : Hp} {v : V} {d : PyData} (h : DD H v d) : Dp K H v d := dd_dp d v h
theorem DDs.length {H : Hp} : ∀ {vs : List V} {ds : List PyData}, DDs H vs ds → vs.length = ds.length
  | [], _, h => by cases h; rfl
  | v :: vs, _, h => by
    cases h with
    | cons _ h2 => rw [List.length_cons, List.length_cons, h2.length]
theorem DDs.get {H : Hp} : ∀ {vs : List V} {ds : List PyData} {i : Nat} {d : PyData}, DDs H vs ds → ds[i]? = some d → ∃ v, vs[i]? = some v ∧ DD H v d
  | [], _, _, _, h, e => by cases h; simp at e
  | v :: vs, _, 0, _, h, e => by
    cases h with
    | cons h1 h2 => simp at e; subst e; exact ⟨_, rfl, h1⟩
  | v :: vs, _, i + 1, d, h, e => by
    cases h with
    | cons h1 h2 =>
      obtain ⟨x, q1, q2⟩ := DDs.get (i := i) (d := d) h2 (by simpa using e)
      exact ⟨x, by simpa using q1, q2⟩
theorem DDs.get' {H : Hp} : ∀ {vs : List V} {ds : List PyData} {i : Nat} {v : V}, DDs H vs ds → vs[i]? = some v → ∃ d, ds[i]? = some d ∧ DD H v d
  | [], _, _, _, h, e => by simp at e
  | v :: vs, _, 0, _, h, e => by
    cases h with
    | cons h1 h2 => simp at e; subst e; exact ⟨_, rfl, h1⟩
  | v :: vs, _, i + 1, d, h, e => by
    cases h with
    | cons h1 h2 =>
      obtain ⟨x, q1, q2⟩ := DDs.get' (i := i) (v := d) h2 (by simpa using e)
      exact ⟨x, by simpa using q1, q2⟩
theorem DDs.append {H : Hp} : ∀ {vs ws : List V} {ds es : List PyData}, DDs H vs ds → DDs H ws es → DDs H (vs ++ ws) (ds ++ es)
  | [], _, _, _, h, k => by cases h; exact k
  | v :: vs, _, _, _, h, k => by
    cases h with
    | cons h1 h2 => exact .cons h1 (h2.append k)
theorem DDs.take {H : Hp} : ∀ {vs : List V} {ds : List PyData} (n : Nat), DDs H vs ds → DDs H (vs.take n) (ds.take n)
  | _, _, 0, _ => .nil
  | _, _, _ + 1, .nil => .nil
  | _, _, n + 1, .cons h1 h2 => .cons h1 (h2.take n)
theorem DDs.drop {H : Hp} : ∀ {vs : List V} {ds : List PyData} (n : Nat), DDs H vs ds → DDs H (vs.drop n) (ds.drop n)
  | _, _, 0, h => h
  | _, _, _ + 1, .nil => .nil
  | _, _, n + 1, .cons _ h2 => h2.drop n
theorem DDs.set {H : Hp} {v : V} {d : PyData} (h0 : DD H v d) : ∀ {vs : List V} {ds : List PyData} (n : Nat), DDs H vs ds → DDs H (vs.set n v) (ds.set n d)
  | _, _, _, .nil => .nil
  | _, _, 0, .cons _ h2 => .cons h0 h2
  | _, _, n + 1, .cons h1 h2 => .cons h1 (DDs.set h0 n h2)
theorem DDs.nil_iff {H : Hp} {vs : List V} {ds : List PyData} (h : DDs H vs ds) : vs = [] ↔ ds = [] := by
  cases h with
  | nil => simp
  | cons _ _ => simp
theorem DDs.one {H : Hp} {v : V} {d : PyData} (h : DD H v d) : DDs H [v] [d] := .cons h .nil
theorem dds_ints {H : Hp} : ∀ ns : List Int, DDs H (ns.map V.int) (ns.map PyData.int)
  | [] => .nil
  | n :: ns => .cons (.int n) (dds_ints ns)
theorem dds_ints_inv {H : Hp} : ∀ {ns : List Int} {vs : List V}, DDs H vs (ns.map PyData.int) → vs = ns.map V.int
  | [], _, h => by cases h; rfl
  | n :: ns, _, h => by
    cases h with
    | cons h1 h2 =>
      cases h1
      rw [dds_ints_inv h2]; rfl
theorem dds_bls_inv {H : Hp} : ∀ {ns : List Bool} {vs : List V}, DDs H vs (ns.map PyData.bool) → vs = ns.map V.bl
  | [], _, h => by cases h; rfl
  | n :: ns, _, h => by
    cases h with
    | cons h1 h2 =>
      cases h1
      rw [dds_bls_inv h2]; rfl

/-! ### what a slot is known to hold -/
inductive Sl where
  | no | d (x : PyData) | ob (φ : Hp → V → Prop) | own (ds : List PyData)
def Mono (φ : Hp → V → Prop) : Prop := ∀ (B B' : Hp) (v : V), Ex B B' → φ B v → φ B' v
def VOk (B : Hp) (v : V) : Sl → Prop
  | .no => True
  | .d x => DD B v x
  | .ob φ => Mono φ ∧ φ B v
  | .own _ => False
theorem VOk.mono {B B' : Hp} {v : V} {r : Sl} (h : VOk B v r) (e : Ex B B') : VOk B' v r := by
  cases r with
  | no => trivial
  | d x => exact DD.mono h e
  | ob φ => exact ⟨h.1, h.1 _ _ _ e h.2⟩
  | own ds => exact h
def VsOk (B : Hp) : List V → List Sl → Prop
  | [], [] => True
  | v :: vs, r :: rs => VOk B v r ∧ VsOk B vs rs
  | _, _ => False
theorem VsOk.mono {B B' : Hp} (e : Ex B B') : ∀ {vs : List V} {rs : List Sl}, VsOk B vs rs → VsOk B' vs rs
  | [], [], h => h
  | v :: vs, r :: rs, h => ⟨VOk.mono h.1 e, VsOk.mono e h.2⟩
  | [], _ :: _, h => h
  | _ :: _, [], h => h
theorem VsOk.length {B : Hp} : ∀ {vs : List V} {rs : List Sl}, VsOk B vs rs → vs.length = rs.length
  | [], [], h => rfl
  | v :: vs, r :: rs, h => by rw [List.length_cons, List.length_cons, VsOk.length h.2]
  | [], _ :: _, h => h.elim
  | _ :: _, [], h => h.elim
theorem VsOk.get {B : Hp} : ∀ {vs : List V} {rs : List Sl} {i : Nat} {r : Sl}, VsOk B vs rs → rs[i]? = some r → ∃ v, vs[i]? = some v ∧ VOk B v r
  | [], [], _, _, h, e => by simp at e
  | v :: vs, r :: rs, 0, _, h, e => by simp at e; subst e; exact ⟨_, rfl, h.1⟩
  | v :: vs, r :: rs, i + 1, _, h, e => by
    obtain ⟨x, q1, q2⟩ := VsOk.get (i := i) h.2 (by simpa using e)
    exact ⟨x, by simpa using q1, q2⟩
  | [], _ :: _, _, _, h, _ => h.elim
  | _ :: _, [], _, _, h, _ => h.elim
theorem dds_vsok {B : Hp} : ∀ {vs : List V} {ds : List PyData}, DDs B vs ds → VsOk B vs (ds.map Sl.d)
  | [], _, h => by cases h; trivial
  | v :: vs, _, h => by
    cases h with
    | cons h1 h2 => exact ⟨h1, dds_vsok h2⟩
theorem vsok_dds {B : Hp} : ∀ {vs : List V} {ds : List PyData}, VsOk B vs (ds.map Sl.d) → DDs B vs ds
  | [], [], _ => .nil
  | _ :: _, _ :: _, h => .cons h.1 (vsok_dds h.2)
  | [], _ :: _, h => h.elim
  | _ :: _, [], h => h.elim

def SlOk (H0 B H : Hp) (σ : Ss) (i : Nat) : Sl → Prop
  | .no => True
  | .own ds => ∃ l xs, σ[i]? = some (some (.ref l)) ∧ H0 l = none ∧ B l = none ∧ H l = some (.lst xs) ∧ DDs B xs ds
  | .d x => ∃ v, σ[i]? = some (some v) ∧ DD B v x
  | .ob φ => ∃ v, σ[i]? = some (some v) ∧ Mono φ ∧ φ B v
structure EnvOk (B0 H0 B H : Hp) (σ : Ss) (δ : List Sl) : Prop where
  gr : Grow B0 H0 B H
  len : σ.length = δ.length
  at_ : ∀ (i : Nat) (s : Sl), δ[i]? = some s → SlOk H0 B H σ i s
  sep : ∀ (i j : Nat) (l : Addr) (ds es : List PyData), i ≠ j → δ[i]? = some (.own ds) → δ[j]? = some (.own es) → σ[i]? = some (some (.ref l)) → σ[j]? ≠ some (some (.ref l))
section
variable {B0 H0 B H B' H' : Hp} {σ : Ss} {δ : List Sl}
theorem EnvOk.grow (e : EnvOk B0 H0 B H σ δ) (g : Grow B H B' H') : EnvOk B0 H0 B' H' σ δ := by
  refine ⟨e.gr.trans g, e.len, fun i s h => ?_, e.sep⟩
  have q := e.at_ i s h
  cases s with
  | no => trivial
  | d x =>
    obtain ⟨v, q1, q2⟩ := q
    exact ⟨v, q1, q2.mono g.b⟩
  | ob φ =>
    obtain ⟨v, q1, q2, q3⟩ := q
    exact ⟨v, q1, q2, q2 _ _ _ g.b q3⟩
  | own ds =>
    obtain ⟨l, xs, q1, q2, q3, q4, q5⟩ := q
    exact ⟨l, xs, q1, q2, g.out l (by rw [q4]; intro z; cases z) q3, g.h _ _ q4, q5.mono g.b⟩
theorem get_set {α : Type} {l : List α} {i j : Nat} {a b : α} (h : (l.set i a)[j]? = some b) : (j = i ∧ b = a ∧ i < l.length) ∨ (j ≠ i ∧ l[j]? = some b) := by
  by_cases q : j = i
  · subst q
    have hl : j < l.length := by
      have := (List.getElem?_eq_some_iff.mp h).1
      simpa using this
    rw [List.getElem?_set_self hl] at h
    exact .inl ⟨rfl, (Option.some.inj h).symm, hl⟩
  · rw [List.getElem?_set_ne (fun z => q z.symm)] at h
    exact .inr ⟨q, h⟩
theorem slok_set {i j : Nat} {v : Option V} {s : Sl} (h : SlOk H0 B H σ j s) (hn : j ≠ i) : SlOk H0 B H (σ.set i v) j s := by
  have e : (σ.set i v)[j]? = σ[j]? := List.getElem?_set_ne (fun z => hn z.symm)
  cases s with
  | no => trivial
  | d x => obtain ⟨u, q1, q2⟩ := h; exact ⟨u, by rw [e]; exact q1, q2⟩
  | ob φ => obtain ⟨u, q1, q2⟩ := h; exact ⟨u, by rw [e]; exact q1, q2⟩
  | own ds => obtain ⟨l, xs, q1, q2⟩ := h; exact ⟨l, xs, by rw [e]; exact q1, q2⟩
/-- a value is stored -/
theorem EnvOk.set (e : EnvOk B0 H0 B H σ δ) (i : Nat) {v : V} {r : Sl} (h : VOk B v r) : EnvOk B0 H0 B H (σ.set i (some v)) (δ.set i r) := by
  refine ⟨e.gr, by rw [List.length_set, List.length_set, e.len], fun j s hj => ?_, fun j k l ds es hjk h1 h2 => ?_⟩
  · rcases get_set hj with ⟨rfl, rfl, hl⟩ | ⟨hn, hj⟩
    · have e1 : (σ.set j (some v))[j]? = some (some v) := List.getElem?_set_self (by rw [e.len]; exact hl)
      cases s with
      | no => trivial
      | d x => exact ⟨v, e1, h⟩
      | ob φ => exact ⟨v, e1, h⟩
      | own ds => exact h.elim
    · exact slok_set (e.at_ j s hj) hn
  · rcases get_set h1 with ⟨rfl, q, hl⟩ | ⟨hn, h1⟩
    · subst q
      exact h.elim
    · rcases get_set h2 with ⟨rfl, q, hl⟩ | ⟨hn2, h2⟩
      · subst q
        exact h.elim
      · rw [List.getElem?_set_ne (fun z => hn z.symm), List.getElem?_set_ne (fun z => hn2 z.symm)]
        exact e.sep j k l ds es hjk h1 h2
/-- a slot is forgotten -/
theorem EnvOk.drop (e : EnvOk B0 H0 B H σ δ) (i : Nat) (v : Option V) : EnvOk B0 H0 B H (σ.set i v) (δ.set i .no) := by
  refine ⟨e.gr, by rw [List.length_set, List.length_set, e.len], fun j s hj => ?_, fun j k l ds es hjk h1 h2 => ?_⟩
  · rcases get_set hj with ⟨rfl, rfl, hl⟩ | ⟨hn, hj⟩
    · trivial
    · exact slok_set (e.at_ j s hj) hn
  · rcases get_set h1 with ⟨rfl, q, hl⟩ | ⟨hn, h1⟩
    · cases q
    · rcases get_set h2 with ⟨rfl, q, hl⟩ | ⟨hn2, h2⟩
      · cases q
      · rw [List.getElem?_set_ne (fun z => hn z.symm), List.getElem?_set_ne (fun z => hn2 z.symm)]
        exact e.sep j k l ds es hjk h1 h2
/-- a new list is stored and owned -/
theorem EnvOk.setOwn (e : EnvOk B0 H0 B H σ δ) (i : Nat) {l : Addr} {xs : List V} {ds : List PyData} (h0 : H0 l = none) (hb : B l = none) (hl : H l = some (.lst xs)) (hd : DDs B xs ds)
    (hf : ∀ (j : Nat) (es : List PyData), j ≠ i → δ[j]? = some (.own es) → σ[j]? ≠ some (some (.ref l))) : EnvOk B0 H0 B H (σ.set i (some (.ref l))) (δ.set i (.own ds)) := by
  refine ⟨e.gr, by rw [List.length_set, List.length_set, e.len], fun j s hj => ?_, fun j k m ds' es hjk h1 h2 h3 => ?_⟩
  · rcases get_set hj with ⟨rfl, rfl, hi⟩ | ⟨hn, hj⟩
    · exact ⟨l, xs, List.getElem?_set_self (by rw [e.len]; exact hi), h0, hb, hl, hd⟩
    · exact slok_set (e.at_ j s hj) hn
  · rcases get_set h1 with ⟨rfl, q, hi⟩ | ⟨hn, h1⟩
    · rcases get_set h2 with ⟨rfl, q2, _⟩ | ⟨hn2, h2⟩
      · exact absurd rfl hjk
      · rw [List.getElem?_set_self (by rw [e.len]; exact hi)] at h3
        cases h3
        rw [List.getElem?_set_ne (fun z => hn2 z.symm)]
        exact hf k es hn2 h2
    · rw [List.getElem?_set_ne (fun z => hn z.symm)] at h3
      have h1' := h1
      clear h1
      rcases get_set h2 with ⟨rfl, q2, hi⟩ | ⟨hn2, h2⟩
      · rw [List.getElem?_set_self (by rw [e.len]; exact hi)]
        intro z
        cases z
        exact hf j ds' hn h1' h3
      · rw [List.getElem?_set_ne (fun z => hn2 z.symm)]
        exact e.sep j k m ds' es hjk h1' h2 h3
/-- an owned list is written -/
theorem EnvOk.write (e : EnvOk B0 H0 B H σ δ) {i : Nat} {l : Addr} {ds es : List PyData} {ys : List V} (hi : δ[i]? = some (.own ds)) (hσ : σ[i]? = some (some (.ref l))) (hd : DDs B ys es) :
    EnvOk B0 H0 B (upd H l (.lst ys)) σ (δ.set i (.own es)) := by
  obtain ⟨l', xs, q1, q2, q3, q4, q5⟩ := e.at_ i _ hi
  rw [hσ] at q1
  cases q1
  have hil : i < δ.length := (List.getElem?_eq_some_iff.mp hi).1
  refine ⟨⟨e.gr.b, fun a o h => ?_, ex_upd e.gr.sub q3, e.gr.out⟩, by rw [List.length_set, e.len], fun j s hj => ?_, fun j k m ds' es' hjk h1 h2 h3 => ?_⟩
  · have : a ≠ l := fun z => by rw [z, q2] at h; cases h
    rw [upd_ne this]
    exact e.gr.h a o h
  · rcases get_set hj with ⟨rfl, rfl, _⟩ | ⟨hn, hj⟩
    · exact ⟨l, ys, hσ, q2, q3, upd_same, hd⟩
    · have q := e.at_ j s hj
      cases s with
      | no => trivial
      | d x => exact q
      | ob φ => exact q
      | own fs =>
        obtain ⟨m, zs, r1, r2, r3, r4, r5⟩ := q
        have hm : m ≠ l := fun z => by
          subst z
          exact e.sep i j m ds fs (fun z => hn z.symm) hi hj hσ r1
        exact ⟨m, zs, r1, r2, r3, by rw [upd_ne hm]; exact r4, r5⟩
  · have f1 : ∃ ds0, δ[j]? = some (.own ds0) := by
      rcases get_set h1 with ⟨rfl, q, _⟩ | ⟨hn, h1⟩
      · exact ⟨_, hi⟩
      · exact ⟨_, h1⟩
    have f2 : ∃ ds0, δ[k]? = some (.own ds0) := by
      rcases get_set h2 with ⟨rfl, q, _⟩ | ⟨hn, h2⟩
      · exact ⟨_, hi⟩
      · exact ⟨_, h2⟩
    obtain ⟨_, f1⟩ := f1
    obtain ⟨_, f2⟩ := f2
    exact e.sep j k m _ _ hjk f1 f2 h3
/-- an owned list becomes data -/
theorem EnvOk.freeze (e : EnvOk B0 H0 B H σ δ) {i : Nat} {ds : List PyData} (hi : δ[i]? = some (.own ds)) :
    ∃ B', Ex B B' ∧ EnvOk B0 H0 B' H σ (δ.set i (.d (.list ds))) := by
  obtain ⟨l, xs, q1, q2, q3, q4, q5⟩ := e.at_ i _ hi
  have hil : i < δ.length := (List.getElem?_eq_some_iff.mp hi).1
  have hb : Ex B (upd B l (.lst xs)) := Evl.Ex.new q3
  refine ⟨upd B l (.lst xs), hb, ⟨e.gr.b.trans hb, e.gr.h, ex_put e.gr.sub q4, fun m h1 h2 => ?_⟩, by rw [List.length_set, e.len], fun j s hj => ?_, fun j k m ds' es' hjk h1 h2 h3 => ?_⟩
  · have : m ≠ l := fun z => h1 (by rw [z]; exact q2)
    rw [upd_ne this]
    exact e.gr.out m h1 h2
  · rcases get_set hj with ⟨rfl, rfl, _⟩ | ⟨hn, hj⟩
    · exact ⟨_, q1, .lst upd_same (q5.mono hb)⟩
    · have q := e.at_ j s hj
      cases s with
      | no => trivial
      | d x => obtain ⟨v, r1, r2⟩ := q; exact ⟨v, r1, r2.mono hb⟩
      | ob φ => obtain ⟨v, r1, r2, r3⟩ := q; exact ⟨v, r1, r2, r2 _ _ _ hb r3⟩
      | own fs =>
        obtain ⟨m, zs, r1, r2, r3, r4, r5⟩ := q
        have hm : m ≠ l := fun z => by
          subst z
          exact e.sep i j m ds fs (fun z => hn z.symm) hi hj q1 r1
        exact ⟨m, zs, r1, r2, by rw [upd_ne hm]; exact r3, r4, r5.mono hb⟩
  · rcases get_set h1 with ⟨rfl, q, _⟩ | ⟨hn, h1⟩
    · cases q
    · rcases get_set h2 with ⟨rfl, q, _⟩ | ⟨hn2, h2⟩
      · cases q
      · exact e.sep j k m _ _ hjk h1 h2 h3
/-- what is known may be forgotten -/
theorem EnvOk.weak (e : EnvOk B0 H0 B H σ δ) {δ' : List Sl} (hl : δ'.length = δ.length) (h : ∀ (i : Nat) (s : Sl), δ'[i]? = some s → s = .no ∨ δ[i]? = some s) : EnvOk B0 H0 B H σ δ' := by
  refine ⟨e.gr, by rw [hl, e.len], fun i s q => ?_, fun i j l ds es hij h1 h2 => ?_⟩
  · rcases h i s q with rfl | q
    · trivial
    · exact e.at_ i s q
  · rcases h i _ h1 with q | q1
    · cases q
    · rcases h j _ h2 with q | q2
      · cases q
      · exact e.sep i j l ds es hij q1 q2
end

/-! ### the judgements -/
def EvX (t : TE) (δ : List Sl) (r : Sl) : Prop :=
  ∀ (B0 H0 B H : Hp) (σ : Ss), EnvOk B0 H0 B H σ δ → ∀ Q : VK, (∀ (v : V) (B' H' : Hp), Grow B H B' H' → VOk B' v r → Q v H') → t σ H Q
/-- a new list -/
def EvL (t : TE) (δ : List Sl) (ds : List PyData) : Prop :=
  ∀ (B0 H0 B H : Hp) (σ : Ss), EnvOk B0 H0 B H σ δ → ∀ Q : VK, (∀ (l : Addr) (xs : List V) (B' H' : Hp), Grow B H B' H' → H l = none → B' l = none → H' l = some (.lst xs) → DDs B' xs ds → Q (.ref l) H') → t σ H Q
def EvT (t : TT) (δ : List Sl) (b : Bool) : Prop :=
  ∀ (B0 H0 B H : Hp) (σ : Ss), EnvOk B0 H0 B H σ δ → ∀ Q : Bool → Hp → Prop, (∀ (B' H' : Hp), Grow B H B' H' → Q b H') → t σ H Q
def EvA (t : TA) (δ : List Sl) (rs : List Sl) : Prop :=
  ∀ (B0 H0 B H : Hp) (σ : Ss), EnvOk B0 H0 B H σ δ → ∀ Q : List V → Hp → Prop, (∀ (vs : List V) (B' H' : Hp), Grow B H B' H' → VsOk B' vs rs → Q vs H') → t σ H Q
def EvDA (t : TA) (δ : List Sl) (ds : List PyData) : Prop :=
  ∀ (B0 H0 B H : Hp) (σ : Ss), EnvOk B0 H0 B H σ δ → ∀ Q : List V → Hp → Prop, (∀ (vs : List V) (B' H' : Hp), Grow B H B' H' → DDs B' vs ds → Q vs H') → t σ H Q
def EvO (t : TO) (δ : List Sl) (o : Option Int) : Prop :=
  ∀ (B0 H0 B H : Hp) (σ : Ss), EnvOk B0 H0 B H σ δ → ∀ Q : Option Int → Hp → Prop, (∀ (B' H' : Hp), Grow B H B' H' → Q o H') → t σ H Q
/-- an operation by data -/
def RD (r : R2) (a b c : PyData) : Prop :=
  ∀ (B H : Hp) (x y : V), Ex B H → DD B x a → DD B y b → ∀ Q : VK, (∀ (v : V) (B' H' : Hp), Grow B H B' H' → DD B' v c → Q v H') → r x y H Q
def RDL (r : R2) (a b : PyData) (ds : List PyData) : Prop :=
  ∀ (B H : Hp) (x y : V), Ex B H → DD B x a → DD B y b → ∀ Q : VK, (∀ (l : Addr) (xs : List V) (B' H' : Hp), Grow B H B' H' → H l = none → B' l = none → H' l = some (.lst xs) → DDs B' xs ds → Q (.ref l) H') → r x y H Q
def RU (r : V → Hp → VK → Prop) (a c : PyData) : Prop :=
  ∀ (B H : Hp) (x : V), Ex B H → DD B x a → ∀ Q : VK, (∀ (v : V) (B' H' : Hp), Grow B H B' H' → DD B' v c → Q v H') → r x H Q
/-- a call by data -/
def RC (r : List V → Hp → VK → Prop) (as : List PyData) (c : PyData) : Prop :=
  ∀ (B H : Hp) (xs : List V), Ex B H → DDs B xs as → ∀ Q : VK, (∀ (v : V) (B' H' : Hp), Grow B H B' H' → DD B' v c → Q v H') → r xs H Q
def RCL (r : List V → Hp → VK → Prop) (as : List PyData) (ds : List PyData) : Prop :=
  ∀ (B H : Hp) (xs : List V), Ex B H → DDs B xs as → ∀ Q : VK, (∀ (l : Addr) (xs : List V) (B' H' : Hp), Grow B H B' H' → H l = none → B' l = none → H' l = some (.lst xs) → DDs B' xs ds → Q (.ref l) H') → r xs H Q
/-- a promise by what is known of the arguments and the result -/
def spR (R : List Sl → Sl → Prop) : Sp := fun vs H Q _ =>
  ∃ (B : Hp) (as : List Sl) (r : Sl), Ex B H ∧ VsOk B vs as ∧ R as r ∧ ∀ (v : V) (B' H' : Hp), Grow B H B' H' → VOk B' v r → Q v H'

section
variable {δ : List Sl} {ta tb tc te : TE} {t u : TT} {r : R2}
theorem ev_var {i : Nat} {x : PyData} (h : δ[i]? = some (.d x)) : EvX (tVar i) δ (.d x) := fun B0 H0 B H σ e Q k => by
  obtain ⟨v, q1, q2⟩ := e.at_ i _ h
  exact ⟨v, q1, k v B H (Grow.refl e.gr.sub) q2⟩
theorem ev_ob {i : Nat} {φ : Hp → V → Prop} (h : δ[i]? = some (.ob φ)) : EvX (tVar i) δ (.ob φ) := fun B0 H0 B H σ e Q k => by
  obtain ⟨v, q1, q2⟩ := e.at_ i _ h
  exact ⟨v, q1, k v B H (Grow.refl e.gr.sub) q2⟩
theorem ev_int {i : Int} : EvX (tC (.int i)) δ (.d (.int i)) := fun B0 H0 B H σ e Q k => k _ B H (Grow.refl e.gr.sub) (DD.int i)
theorem ev_bl {b : Bool} : EvX (tC (.bl b)) δ (.d (.bool b)) := fun B0 H0 B H σ e Q k => k _ B H (Grow.refl e.gr.sub) (DD.bl b)
theorem ev_non : EvX (tC .non) δ (.d .none) := fun B0 H0 B H σ e Q k => k _ B H (Grow.refl e.gr.sub) DD.non
theorem ev_str {x : Str} : EvX (tC (.str x)) δ (.d (.str x)) := fun B0 H0 B H σ e Q k => k _ B H (Grow.refl e.gr.sub) (DD.str x)
theorem ev_op {a b c : PyData} (ha : EvX ta δ (.d a)) (hb : EvX tb δ (.d b)) (hr : RD r a b c) : EvX (tOp r ta tb) δ (.d c) := fun B0 H0 B H σ e Q k =>
  ha _ _ _ _ _ e _ fun x B1 H1 g1 hx => hb _ _ _ _ _ (e.grow g1) _ fun y B2 H2 g2 hy =>
    hr B2 H2 x y g2.sub (DD.mono hx g2.b) hy Q fun v B3 H3 g3 hv => k v B3 H3 ((g1.trans g2).trans g3) hv
theorem el_op {a b : PyData} {ds : List PyData} (ha : EvX ta δ (.d a)) (hb : EvX tb δ (.d b)) (hr : RDL r a b ds) : EvL (tOp r ta tb) δ ds := fun B0 H0 B H σ e Q k =>
  ha _ _ _ _ _ e _ fun x B1 H1 g1 hx => hb _ _ _ _ _ (e.grow g1) _ fun y B2 H2 g2 hy =>
    hr B2 H2 x y g2.sub (DD.mono hx g2.b) hy Q fun l xs B3 H3 g3 h1 h2 h3 h4 => k l xs B3 H3 ((g1.trans g2).trans g3) (ex_none (g1.h.trans g2.h) h1) h2 h3 h4
theorem ev_un {r : V → Hp → VK → Prop} {a c : PyData} (ha : EvX ta δ (.d a)) (hr : RU r a c) : EvX (tUn r ta) δ (.d c) := fun B0 H0 B H σ e Q k =>
  ha _ _ _ _ _ e _ fun x B1 H1 g1 hx => hr B1 H1 x g1.sub hx Q fun v B3 H3 g3 hv => k v B3 H3 (g1.trans g3) hv
/-- a new list as data -/
theorem ev_ofL {ds : List PyData} (h : EvL te δ ds) : EvX te δ (.d (.list ds)) := fun B0 H0 B H σ e Q k =>
  h _ _ _ _ _ e _ fun l xs B1 H1 g h0 h1 h2 h3 => k _ (upd B1 l (.lst xs)) H1
    ⟨g.b.trans (Evl.Ex.new h1), g.h, ex_put g.sub h2, fun m q1 q2 => by
      have : m ≠ l := fun z => q1 (by rw [z]; exact h0)
      rw [upd_ne this]
      exact g.out m q1 q2⟩ (DD.lst upd_same (h3.mono (Evl.Ex.new h1)))
theorem ev_to {r r' : Sl} (h : EvX te δ r) (e : r = r') : EvX te δ r' := e ▸ h
theorem el_to {r r' : List PyData} (h : EvL te δ r) (e : r = r') : EvL te δ r' := e ▸ h
theorem et_to {b b' : Bool} (h : EvT t δ b) (e : b = b') : EvT t δ b' := e ▸ h
/-! arguments -/
theorem ea_nil : EvA tNil δ [] := fun B0 H0 B H σ e Q k => k [] B H (Grow.refl e.gr.sub) trivial
theorem ea_cons {ta : TE} {tr : TA} {a : Sl} {rs : List Sl} (ha : EvX ta δ a) (hr : EvA tr δ rs) : EvA (tCons ta tr) δ (a :: rs) := fun B0 H0 B H σ e Q k =>
  ha _ _ _ _ _ e _ fun x B1 H1 g1 hx => hr _ _ _ _ _ (e.grow g1) _ fun ys B2 H2 g2 hy => k (x :: ys) B2 H2 (g1.trans g2) ⟨VOk.mono hx g2.b, hy⟩
theorem ed_nil : EvDA tNil δ [] := fun B0 H0 B H σ e Q k => k [] B H (Grow.refl e.gr.sub) .nil
theorem ed_cons {ta : TE} {tr : TA} {a : PyData} {rs : List PyData} (ha : EvX ta δ (.d a)) (hr : EvDA tr δ rs) : EvDA (tCons ta tr) δ (a :: rs) := fun B0 H0 B H σ e Q k =>
  ha _ _ _ _ _ e _ fun x B1 H1 g1 hx => hr _ _ _ _ _ (e.grow g1) _ fun ys B2 H2 g2 hy => k (x :: ys) B2 H2 (g1.trans g2) (.cons (DD.mono hx g2.b) hy)
theorem ev_tup {ta : TA} {ds : List PyData} (ha : EvDA ta δ ds) (hl : ds.length ≤ 100000) : EvX (tTup ta) δ (.d (.tuple ds)) := fun B0 H0 B H σ e Q k =>
  ha _ _ _ _ _ e _ fun vs B1 H1 g1 hv => ⟨Evl.sz_of (by rw [hv.length]; exact hl), fun p hp =>
    k _ (upd B1 p (.tup vs)) _ (g1.trans (Grow.new g1.sub hp)) (DD.tup upd_same (hv.mono (Evl.Ex.new (ex_none g1.sub hp))))⟩
theorem el_lst {ta : TA} {ds : List PyData} (ha : EvDA ta δ ds) (hl : ds.length ≤ 100000) : EvL (tLst ta) δ ds := fun B0 H0 B H σ e Q k =>
  ha _ _ _ _ _ e _ fun vs B1 H1 g1 hv => ⟨Evl.sz_of (by rw [hv.length]; exact hl), fun p hp =>
    k p vs B1 _ (g1.trans (Grow.new0 g1.sub hp)) (ex_none g1.h hp) (ex_none g1.sub hp) upd_same hv⟩
theorem ev_cb {r : List V → Hp → VK → Prop} {ta : TA} {as : List PyData} {c : PyData} (ha : EvDA ta δ as) (hr : RC r as c) : EvX (tCB r ta) δ (.d c) := fun B0 H0 B H σ e Q k =>
  ha _ _ _ _ _ e _ fun vs B1 H1 g1 hv => hr B1 H1 vs g1.sub hv Q fun v B2 H2 g2 h2 => k v B2 H2 (g1.trans g2) h2
theorem el_cb {r : List V → Hp → VK → Prop} {ta : TA} {as : List PyData} {ds : List PyData} (ha : EvDA ta δ as) (hr : RCL r as ds) : EvL (tCB r ta) δ ds := fun B0 H0 B H σ e Q k =>
  ha _ _ _ _ _ e _ fun vs B1 H1 g1 hv => hr B1 H1 vs g1.sub hv Q fun l xs B2 H2 g2 h1 h2 h3 h4 => k l xs B2 H2 (g1.trans g2) (ex_none g1.h h1) h2 h3 h4
/-- a call of a def by its promise -/
theorem ev_call {R : List Sl → Sl → Prop} {E : XK} {ta : TA} {as : List Sl} {c : Sl} (ha : EvA ta δ as) (hR : R as c) : EvX (tCall (spR R) [] E ta) δ c := fun B0 H0 B H σ e Q k =>
  ha _ _ _ _ _ e _ fun vs B1 H1 g1 hv => ⟨B1, as, c, g1.sub, by rw [List.append_nil]; exact hv, hR, fun v B2 H2 g2 h2 => k v B2 H2 (g1.trans g2) h2⟩
/-- an instance of the class at C -/
def IsIns (C : Addr) (m : Str) (φ : Hp → V → Prop) : Prop := ∀ (B : Hp) (v : V), φ B v → ∃ (a dx : Addr) (fs : List (Str × V)), v = .ref a ∧ B a = some (.ins C dx fs) ∧ fs.lookup m = none
theorem ev_meth {R : List Sl → Sl → Prop} {E : XK} {ta : TA} {as : List Sl} {c : Sl} {C : Addr} {m : Str} {φ : Hp → V → Prop} (ho : EvX te δ (.ob φ)) (hi : IsIns C m φ) (ha : EvA ta δ as) (hR : R (.ob φ :: as) c) :
    EvX (tMeth C m (spR R) [] E te ta) δ c := fun B0 H0 B H σ e Q k =>
  ho _ _ _ _ _ e _ fun x B1 H1 g1 hx => by
    obtain ⟨a, dx, fs, rfl, ha1, hl⟩ := hi B1 x hx.2
    exact ⟨a, dx, fs, rfl, g1.sub _ _ ha1, hl, ha _ _ _ _ _ (e.grow g1) _ fun vs B2 H2 g2 hv =>
      ⟨B2, .ob φ :: as, c, g2.sub, by rw [List.append_nil]; exact ⟨VOk.mono (r := .ob φ) hx g2.b, hv⟩, hR, fun v B3 H3 g3 h3 => k v B3 H3 ((g1.trans g2).trans g3) h3⟩⟩
/-- a field of it -/
def HasF (K : PySem.W.Frag) (f : Str) (φ : Hp → V → Prop) (r : Sl) : Prop := ∀ (B : Hp) (v : V), φ B v → ∃ (a C dx : Addr) (fs : List (Str × V)) (y : V), v = .ref a ∧ B a = some (.ins C dx fs) ∧ Cls K C ∧ NoAttr K C f ∧ fs.lookup f = some y ∧ VOk B y r
theorem ev_fld {K : PySem.W.Frag} {f : Str} {φ : Hp → V → Prop} {r : Sl} (ho : EvX te δ (.ob φ)) (hf : HasF K f φ r) : EvX (tFld K te f) δ r := fun B0 H0 B H σ e Q k =>
  ho _ _ _ _ _ e _ fun x B1 H1 g1 hx => by
    obtain ⟨a, C, dx, fs, y, rfl, ha1, hc, hn, hl, hy⟩ := hf B1 x hx.2
    exact ⟨a, C, dx, fs, y, rfl, g1.sub _ _ ha1, hc, hn, hl, k y B1 H1 g1 hy⟩
/-! tests -/
theorem et_test {b : Bool} (h : EvX te δ (.d (.bool b))) : EvT (tTest te) δ b := fun B0 H0 B H σ e Q k =>
  h _ _ _ _ _ e _ fun x B1 H1 g1 hx => by cases hx; exact ⟨b, rfl, k B1 H1 g1⟩
theorem et_B {b : Bool} (h : EvX te δ (.d (.bool b))) : EvT (tB te) δ b := fun B0 H0 B H σ e Q k =>
  h _ _ _ _ _ e _ fun x B1 H1 g1 hx => by cases hx; exact ⟨b, rfl, k B1 H1 g1⟩
theorem et_and {a b : Bool} (h1 : EvT t δ a) (h2 : a = true → EvT u δ b) : EvT (tAnd t u) δ (a && b) := fun B0 H0 B H σ e Q k =>
  h1 _ _ _ _ _ e _ fun B1 H1 g1 => by
    cases a with
    | false => exact Evl.Ex.refl H1 |> fun _ => iteF (k B1 H1 g1)
    | true => exact iteT (h2 rfl _ _ _ _ _ (e.grow g1) _ fun B2 H2 g2 => k B2 H2 (g1.trans g2))
theorem et_or {a b : Bool} (h1 : EvT t δ a) (h2 : a = false → EvT u δ b) : EvT (tOr t u) δ (a || b) := fun B0 H0 B H σ e Q k =>
  h1 _ _ _ _ _ e _ fun B1 H1 g1 => by
    cases a with
    | true => exact iteT (k B1 H1 g1)
    | false => exact iteF (h2 rfl _ _ _ _ _ (e.grow g1) _ fun B2 H2 g2 => k B2 H2 (g1.trans g2))
theorem et_not {a : Bool} (h1 : EvT t δ a) : EvT (tNot t) δ (!a) := fun B0 H0 B H σ e Q k => h1 _ _ _ _ _ e _ fun B1 H1 g1 => k B1 H1 g1
theorem ev_andV {a b : Bool} (h1 : EvX ta δ (.d (.bool a))) (h2 : a = true → EvX tb δ (.d (.bool b))) : EvX (tAndV ta tb) δ (.d (.bool (a && b))) := fun B0 H0 B H σ e Q k =>
  h1 _ _ _ _ _ e _ fun x B1 H1 g1 hx => by
    cases hx
    refine ⟨a, rfl, ?_⟩
    cases a with
    | false => exact iteF (k _ B1 H1 g1 (DD.bl false))
    | true => exact iteT (h2 rfl _ _ _ _ _ (e.grow g1) _ fun v B2 H2 g2 h => k v B2 H2 (g1.trans g2) h)
theorem ev_orV {a b : Bool} (h1 : EvX ta δ (.d (.bool a))) (h2 : a = false → EvX tb δ (.d (.bool b))) : EvX (tOrV ta tb) δ (.d (.bool (a || b))) := fun B0 H0 B H σ e Q k =>
  h1 _ _ _ _ _ e _ fun x B1 H1 g1 hx => by
    cases hx
    refine ⟨a, rfl, ?_⟩
    cases a with
    | true => exact iteT (k _ B1 H1 g1 (DD.bl true))
    | false => exact iteF (h2 rfl _ _ _ _ _ (e.grow g1) _ fun v B2 H2 g2 h => k v B2 H2 (g1.trans g2) h)
theorem ev_notV {a : Bool} (h1 : EvX ta δ (.d (.bool a))) : EvX (tNotV ta) δ (.d (.bool (!a))) := fun B0 H0 B H σ e Q k =>
  h1 _ _ _ _ _ e _ fun x B1 H1 g1 hx => by cases hx; exact ⟨a, rfl, k _ B1 H1 g1 (DD.bl _)⟩
theorem ev_if {b : Bool} {r : Sl} (h : EvT t δ b) (h1 : b = true → EvX ta δ r) (h2 : b = false → EvX tb δ r) : EvX (tIf t ta tb) δ r := fun B0 H0 B H σ e Q k =>
  h _ _ _ _ _ e _ fun B1 H1 g1 => by
    cases b with
    | true => exact iteT (h1 rfl _ _ _ _ _ (e.grow g1) _ fun v B2 H2 g2 h => k v B2 H2 (g1.trans g2) h)
    | false => exact iteF (h2 rfl _ _ _ _ _ (e.grow g1) _ fun v B2 H2 g2 h => k v B2 H2 (g1.trans g2) h)
/-- a op1 b op2 c -/
theorem ev_chain {r r' : R2} {a b c : PyData} {k1 k2 : Bool} (ha : EvX ta δ (.d a)) (hb : EvX tb δ (.d b)) (hc : k1 = true → EvX tc δ (.d c)) (h1 : RD r a b (.bool k1)) (h2 : RD r' b c (.bool k2)) :
    EvX (tChain r r' ta tb tc) δ (.d (.bool (k1 && k2))) := fun B0 H0 B H σ e Q k =>
  ha _ _ _ _ _ e _ fun x B1 H1 g1 hx => hb _ _ _ _ _ (e.grow g1) _ fun y B2 H2 g2 hy =>
    h1 B2 H2 x y g2.sub (DD.mono hx g2.b) hy _ fun v B3 H3 g3 hv => by
      cases hv
      refine ⟨k1, rfl, ?_⟩
      cases k1 with
      | false => exact iteF (k _ B3 H3 ((g1.trans g2).trans g3) (DD.bl false))
      | true => exact iteT (hc rfl _ _ _ _ _ (e.grow ((g1.trans g2).trans g3)) _ fun z B4 H4 g4 hz =>
          h2 B4 H4 y z g4.sub (DD.mono hy (g3.b.trans g4.b)) hz Q fun v B5 H5 g5 hv => k v B5 H5 ((((g1.trans g2).trans g3).trans g4).trans g5) hv)
/-! slices -/
theorem eo_none : EvO tNoPart δ none := fun B0 H0 B H σ e Q k => k B H (Grow.refl e.gr.sub)
theorem eo_some {i : Int} (h : EvX te δ (.d (.int i))) : EvO (tPart te) δ (some i) := fun B0 H0 B H σ e Q k =>
  h _ _ _ _ _ e _ fun x B1 H1 g1 hx => by cases hx; exact ⟨i, rfl, k B1 H1 g1⟩
def cutD (ds : List PyData) (lo hi : Option Int) : List PyData := (ds.drop (HT.sIx ds.length 0 lo)).take (HT.sIx ds.length ds.length hi - HT.sIx ds.length 0 lo)
theorem DDs.cut {H : Hp} {xs : List V} {ds : List PyData} (h : DDs H xs ds) (lo hi : Option Int) : DDs H (cutV xs lo hi) (cutD ds lo hi) := by
  unfold cutV cutD
  rw [h.length]
  exact (h.drop _).take _
/-- list or tuple -/
def rSlG (K : PySem.W.Frag) : V → Option Int → Option Int → Hp → VK → Prop := fun x lo hi H Q => rSlL K x lo hi H Q ∨ rSlA K x lo hi H Q
theorem sl_g {X : Cx} : SlR X (rSlG X.K) := sl_list.or sl_tupA
variable {K : PySem.W.Frag} {tl th : TO}
theorem el_sl {ds : List PyData} {lo hi : Option Int} (h : EvX te δ (.d (.list ds))) (h1 : EvO tl δ lo) (h2 : EvO th δ hi) : EvL (tSl (rSlG K) te tl th) δ (cutD ds lo hi) := fun B0 H0 B H σ e Q k =>
  h _ _ _ _ _ e _ fun x B1 H1 g1 hx => h1 _ _ _ _ _ (e.grow g1) _ fun B2 H2 g2 => h2 _ _ _ _ _ (e.grow (g1.trans g2)) _ fun B3 H3 g3 => by
    have hx3 := DD.mono hx (g2.b.trans g3.b)
    cases hx3 with
    | lst q1 q2 =>
      exact .inl ⟨_, _, rfl, SqL.of (g3.sub _ _ q1), fun p hp => k p _ B3 _ (((g1.trans g2).trans g3).trans (Grow.new0 g3.sub hp)) (ex_none ((g1.h.trans g2.h).trans g3.h) hp) (ex_none g3.sub hp) upd_same (q2.cut lo hi)⟩
theorem cutV_all {xs : List V} {lo hi : Option Int} (h : HT.sIx xs.length 0 lo = 0 ∧ HT.sIx xs.length xs.length hi = xs.length) : cutV xs lo hi = xs := by
  unfold cutV
  rw [h.1, h.2]
  simp
theorem ev_sl {ds : List PyData} {lo hi : Option Int} (h : EvX te δ (.d (.tuple ds))) (h1 : EvO tl δ lo) (h2 : EvO th δ hi) : EvX (tSl (rSlG K) te tl th) δ (.d (.tuple (cutD ds lo hi))) := fun B0 H0 B H σ e Q k =>
  h _ _ _ _ _ e _ fun x B1 H1 g1 hx => h1 _ _ _ _ _ (e.grow g1) _ fun B2 H2 g2 => h2 _ _ _ _ _ (e.grow (g1.trans g2)) _ fun B3 H3 g3 => by
    have hx3 := DD.mono hx (g2.b.trans g3.b)
    have g := (g1.trans g2).trans g3
    cases hx3 with
    | tup q1 q2 =>
      refine .inr ⟨_, _, rfl, SqT.of (g3.sub _ _ q1), fun hw => ?_, fun _ p hp => ?_⟩
      · refine k _ B3 H3 g (DD.tup q1 ?_)
        have z := q2.cut lo hi
        rw [cutV_all hw] at z
        exact z
      · exact k _ (upd B3 p (.tup (cutV _ lo hi))) _ (g.trans (Grow.new g3.sub hp)) (DD.tup upd_same ((q2.cut lo hi).mono (Evl.Ex.new (ex_none g3.sub hp))))
end
end DL
set_option maxRecDepth 100000
set_option maxHeartbeats 4000000
/-! DL2: operations by data; statements; loops; comprehensions; defs. -/
namespace DL
open PySem L2

/-! ### operations -/
def rAddG (K : PySem.W.Frag) : R2 := fun x y H Q => rI0 (fun i j => .int (i + j)) x y H Q ∨ rCatA K x y H Q ∨ rCat x y H Q
def rSubG : R2 := rI0 fun i j => .int (i - j)
def rMulG : R2 := fun x y H Q => rI CMulW (fun i j => .int (i * j)) x y H Q ∨ rRep x y H Q
def rFdv : R2 := rI CDiv fun i j => .int (i / j)
def rMod : R2 := rI (fun _ j => 0 < j) fun i j => .int (i % j)
def rPow : R2 := rI CPow fun i j => .int (i ^ j.toNat)
def rLt : R2 := rI0 fun i j => .bl (decide (i < j))
def rLe : R2 := rI0 fun i j => .bl (decide (i ≤ j))
def rGt : R2 := rI0 fun i j => .bl (decide (j < i))
def rGe : R2 := rI0 fun i j => .bl (decide (j ≤ i))
def rIsG : R2 := fun x y H Q => y = .non ∧ Q (.bl (decide (x = .non))) H
def rIsNotG : R2 := fun x y H Q => (y = .non ∧ Q (.bl (!decide (x = .non))) H) ∨ rNotB x y H Q
def rNegG : V → Hp → VK → Prop := rU fun i => .int (-i)
section
variable {X : Cx}
theorem op_addG : OpR X (binaryOp .Add) (rAddG X.K) := op_add.or (op_catA.or op_cat)
theorem op_subG : OpR X (binaryOp .Sub) rSubG := op_sub
theorem op_mulG : OpR X (binaryOp .Mult) rMulG := op_mulW.or op_rep
theorem op_fdv : OpR X (binaryOp .FloorDiv) rFdv := op_fdiv
theorem op_mod' : OpR X (binaryOp .Mod) rMod := op_mod
theorem op_pow' : OpR X (binaryOp .Pow) rPow := op_pow
theorem op_lt' : OpR X (compareOp .Lt) rLt := op_lt
theorem op_le' : OpR X (compareOp .LtE) rLe := op_le
theorem op_gt' : OpR X (compareOp .Gt) rGt := op_gt
theorem op_ge' : OpR X (compareOp .GtE) rGe := op_ge
theorem op_isG : OpR X (compareOp .Is) rIsG := op_isN
theorem op_isNotG : OpR X (compareOp .IsNot) rIsNotG := op_notN.or op_notBl
theorem un_negG : UnR X (unaryOp .USub) rNegG := un_neg
end
def rLenG (K : PySem.W.Frag) : List V → Hp → VK → Prop := fun xs H Q => ∃ p ys, xs = [.ref p] ∧ (SqL K H p ys ∨ SqT K H p ys) ∧ Q (.int ys.length) H
def rAbsG : List V → Hp → VK → Prop := fun xs H Q => ∃ i, xs = [.int i] ∧ Q (.int (if i < 0 then -i else i)) H
def rIntG : List V → Hp → VK → Prop := fun xs H Q => (∃ i, xs = [.int i] ∧ Q (.int i) H) ∨ ∃ k, xs = [.bl k] ∧ Q (.int (if k then 1 else 0)) H
def rTupG (K : PySem.W.Frag) : List V → Hp → VK → Prop := fun xs H Q => ∃ p ys, xs = [.ref p] ∧ ((SqL K H p ys ∧ ∀ l, H l = none → Q (.ref l) (upd H l (.tup ys))) ∨ (SqT K H p ys ∧ Q (.ref p) H))
def rLstG (K : PySem.W.Frag) : List V → Hp → VK → Prop := fun xs H Q => ∃ p ys, xs = [.ref p] ∧ (SqL K H p ys ∨ SqT K H p ys) ∧ ∀ l, H l = none → Q (.ref l) (upd H l (.lst ys))
section
variable {X : Cx}
theorem call_lenG : CallR X (.builtin "len") (rLenG X.K) := call_len_seq
theorem call_absG : CallR X (.builtin "abs") rAbsG := call_abs
theorem call_intG : CallR X (.type "int") rIntG := call_int1
theorem call_tupG : CallR X (.type "tuple") (rTupG X.K) := call_tuple_of
theorem call_lstG : CallR X (.type "list") (rLstG X.K) := call_list_of
end
section
variable {K : PySem.W.Frag}
theorem rd_addI {i j : Int} : RD (rAddG K) (.int i) (.int j) (.int (i + j)) := fun B H x y e hx hy Q k => by
  cases hx; cases hy; exact .inl ⟨i, j, rfl, rfl, k _ B H (Grow.refl e) (.int _)⟩
theorem rd_addT {as bs : List PyData} (hl : as.length + bs.length ≤ 100000) : RD (rAddG K) (.tuple as) (.tuple bs) (.tuple (as ++ bs)) := fun B H x y e hx hy Q k => by
  cases hx with
  | tup h1 h2 =>
    cases hy with
    | tup k1 k2 =>
      refine .inr (.inl ⟨_, _, _, _, rfl, rfl, SqT.of (e _ _ h1), SqT.of (e _ _ k1), Evl.sz_of (by rw [h2.length, k2.length]; exact hl), fun q => ?_, fun q1 q => ?_, fun _ _ p hp => ?_⟩)
      · subst q
        cases h2
        exact k _ B H (Grow.refl e) (.tup k1 k2)
      · subst q
        cases k2
        rw [List.append_nil] at k
        exact k _ B H (Grow.refl e) (.tup h1 h2)
      · exact k _ (upd B p (.tup _)) _ (Grow.new e hp) (.tup upd_same ((h2.append k2).mono (Evl.Ex.new (ex_none e hp))))
theorem rdl_addL {as bs : List PyData} (hl : as.length + bs.length ≤ 100000) : RDL (rAddG K) (.list as) (.list bs) (as ++ bs) := fun B H x y e hx hy Q k => by
  cases hx with
  | lst h1 h2 =>
    cases hy with
    | lst k1 k2 =>
      exact .inr (.inr ⟨_, _, _, _, rfl, rfl, e _ _ h1, e _ _ k1, Evl.sz_of (by rw [h2.length, k2.length]; exact hl), fun p hp =>
        k p _ B _ (Grow.new0 e hp) hp (ex_none e hp) upd_same (h2.append k2)⟩)
theorem rd_sub {i j : Int} : RD rSubG (.int i) (.int j) (.int (i - j)) := fun B H x y e hx hy Q k => by
  cases hx; cases hy; exact ⟨i, j, rfl, rfl, k _ B H (Grow.refl e) (.int _)⟩
theorem rd_mul {i j : Int} (h : CMulW i j) : RD rMulG (.int i) (.int j) (.int (i * j)) := fun B H x y e hx hy Q k => by
  cases hx; cases hy; exact .inl ⟨i, j, rfl, rfl, h, k _ B H (Grow.refl e) (.int _)⟩
theorem cmul_small {i j : Int} (hi : i.natAbs < 2 ^ 200) (hj : j.natAbs < 2 ^ 200) : CMulW i j := wide_mul hi hj (by decide) (by decide) (by decide)
theorem rdl_rep {ds : List PyData} {k : Int} (h1 : 0 ≤ k) (h2 : ds.length * k.toNat ≤ 100000) (h3 : k ≤ 100000) : RDL rMulG (.list ds) (.int k) (List.replicate k.toNat ds).flatten := fun B H x y e hx hy Q q => by
  cases hy
  cases hx with
  | lst a1 a2 =>
    refine .inr ⟨_, k, _, rfl, rfl, e _ _ a1, by omega, by omega, Evl.sz_of (by rw [a2.length]; exact h2), fun p hp => q p _ B _ (Grow.new0 e hp) hp (ex_none e hp) upd_same ?_⟩
    have : ∀ n : Nat, DDs B (List.replicate n _).flatten (List.replicate n ds).flatten := fun n => by
      induction n with
      | zero => exact .nil
      | succ n ih => rw [List.replicate_succ, List.replicate_succ, List.flatten_cons, List.flatten_cons]; exact a2.append ih
    exact this _
theorem rd_fdv {i j : Int} (h : 0 < j ∧ j < 1073741824) : RD rFdv (.int i) (.int j) (.int (i / j)) := fun B H x y e hx hy Q k => by
  cases hx; cases hy; exact ⟨i, j, rfl, rfl, h, k _ B H (Grow.refl e) (.int _)⟩
theorem rd_mod {i j : Int} (h : 0 < j) : RD rMod (.int i) (.int j) (.int (i % j)) := fun B H x y e hx hy Q k => by
  cases hx; cases hy; exact ⟨i, j, rfl, rfl, h, k _ B H (Grow.refl e) (.int _)⟩
theorem rd_pow {i j : Int} (h : CPow i j) : RD rPow (.int i) (.int j) (.int (i ^ j.toNat)) := fun B H x y e hx hy Q k => by
  cases hx; cases hy; exact ⟨i, j, rfl, rfl, h, k _ B H (Grow.refl e) (.int _)⟩
theorem rd_lt {i j : Int} : RD rLt (.int i) (.int j) (.bool (decide (i < j))) := fun B H x y e hx hy Q k => by
  cases hx; cases hy; exact ⟨i, j, rfl, rfl, k _ B H (Grow.refl e) (.bl _)⟩
theorem rd_le {i j : Int} : RD rLe (.int i) (.int j) (.bool (decide (i ≤ j))) := fun B H x y e hx hy Q k => by
  cases hx; cases hy; exact ⟨i, j, rfl, rfl, k _ B H (Grow.refl e) (.bl _)⟩
theorem rd_gt {i j : Int} : RD rGt (.int i) (.int j) (.bool (decide (j < i))) := fun B H x y e hx hy Q k => by
  cases hx; cases hy; exact ⟨i, j, rfl, rfl, k _ B H (Grow.refl e) (.bl _)⟩
theorem rd_ge {i j : Int} : RD rGe (.int i) (.int j) (.bool (decide (j ≤ i))) := fun B H x y e hx hy Q k => by
  cases hx; cases hy; exact ⟨i, j, rfl, rfl, k _ B H (Grow.refl e) (.bl _)⟩
theorem rd_eq {a b : PyData} (ha : SeqAt.shaped a = true) (hb : SeqAt.shaped b = true) : RD (rEqD K) a b (.bool (PyData.eqv a b)) := fun B H x y e hx hy Q k =>
  ⟨a, b, (hx.mono e).dp, (hy.mono e).dp, ha, hb, k _ B H (Grow.refl e) (.bl _)⟩
theorem rd_ne {a b : PyData} (ha : SeqAt.shaped a = true) (hb : SeqAt.shaped b = true) : RD (rNeD K) a b (.bool (!PyData.eqv a b)) := fun B H x y e hx hy Q k =>
  ⟨a, b, (hx.mono e).dp, (hy.mono e).dp, ha, hb, k _ B H (Grow.refl e) (.bl _)⟩
theorem sh_int {i : Int} : SeqAt.shaped (.int i) = true := by simp [SeqAt.shaped, PyData.canLay0, PyData.depth]
theorem sh_non : SeqAt.shaped .none = true := by simp [SeqAt.shaped, PyData.canLay0, PyData.depth]
theorem rd_eqI {i j : Int} : RD (rEqD K) (.int i) (.int j) (.bool (decide (i = j))) := by
  have h := rd_eq (K := K) (a := .int i) (b := .int j) sh_int sh_int
  have e : PyData.eqv (.int i) (.int j) = decide (i = j) := by
    simp only [PyData.eqv]
    exact Bool.beq_eq_decide_eq i j
  rw [e] at h
  exact h
theorem rd_neI {i j : Int} : RD (rNeD K) (.int i) (.int j) (.bool (!decide (i = j))) := by
  have h := rd_ne (K := K) (a := .int i) (b := .int j) sh_int sh_int
  have e : PyData.eqv (.int i) (.int j) = decide (i = j) := by
    simp only [PyData.eqv]
    exact Bool.beq_eq_decide_eq i j
  rw [e] at h
  exact h
def isNn : PyData → Bool
  | .none => true
  | _ => false
theorem dd_non {H : Hp} {v : V} {a : PyData} (h : DD H v a) : decide (v = .non) = isNn a := by
  cases h <;> simp [isNn]
theorem rd_is {a : PyData} : RD rIsG a .none (.bool (isNn a)) := fun B H x y e hx hy Q k => by
  cases hy
  refine ⟨rfl, ?_⟩
  rw [dd_non hx]
  exact k _ B H (Grow.refl e) (.bl _)
theorem rd_isNot {a : PyData} : RD rIsNotG a .none (.bool (!isNn a)) := fun B H x y e hx hy Q k => by
  cases hy
  refine .inl ⟨rfl, ?_⟩
  rw [dd_non hx]
  exact k _ B H (Grow.refl e) (.bl _)
theorem rd_isNotB {a b : Bool} : RD rIsNotG (.bool a) (.bool b) (.bool (!decide (a = b))) := fun B H x y e hx hy Q k => by
  cases hx; cases hy
  exact .inr ⟨a, b, rfl, rfl, k _ B H (Grow.refl e) (.bl _)⟩
theorem dds_at {H : Hp} {xs : List V} {ds : List PyData} (h : DDs H xs ds) {i : Int} {d : PyData} (hd : atI ds i = some d) : ∃ x, atI xs i = some x ∧ DD H x d := by
  unfold atI at hd ⊢
  rw [h.length]
  cases q : ixN ds.length i with
  | none => rw [q] at hd; cases hd
  | some j =>
    rw [q] at hd
    exact h.get hd
theorem rd_ixT {ds : List PyData} {i : Int} {d : PyData} (hd : atI ds i = some d) : RD (rIx K) (.tuple ds) (.int i) d := fun B H x y e hx hy Q k => by
  cases hy
  cases hx with
  | tup h1 h2 =>
    obtain ⟨x, q1, q2⟩ := dds_at h2 hd
    exact .inr (.inl ⟨_, _, i, x, rfl, rfl, SqT.of (e _ _ h1), q1, k _ B H (Grow.refl e) q2⟩)
theorem rd_ixL {ds : List PyData} {i : Int} {d : PyData} (hd : atI ds i = some d) : RD (rIx K) (.list ds) (.int i) d := fun B H x y e hx hy Q k => by
  cases hy
  cases hx with
  | lst h1 h2 =>
    obtain ⟨x, q1, q2⟩ := dds_at h2 hd
    exact .inl ⟨_, _, i, x, rfl, rfl, SqL.of (e _ _ h1), q1, k _ B H (Grow.refl e) q2⟩
theorem rd_inI {i : Int} {ns : List Int} : RD (rIn K false) (.int i) (.tuple (ns.map PyData.int)) (.bool (ns.any fun n => decide (n = i))) := fun B H x y e hx hy Q k => by
  cases hx
  cases hy with
  | tup h1 h2 =>
    have e1 := dds_ints_inv h2
    subst e1
    refine ⟨_, _, rfl, .inr (SqT.of (e _ _ h1)), rfl, by simp [flatV], ?_⟩
    have e2 : inV (.int i) (ns.map V.int) = ns.any fun n => decide (n = i) := by
      unfold inV
      rw [List.any_map]
      apply congrArg (fun g => ns.any g)
      funext n
      show (n == i) = decide (n = i)
      exact Bool.beq_eq_decide_eq n i
    show Q (.bl (inV (.int i) (ns.map V.int))) H
    rw [e2]
    exact k _ B H (Grow.refl e) (.bl _)
theorem ru_neg {i : Int} : RU rNegG (.int i) (.int (-i)) := fun B H x e hx Q k => by
  cases hx; exact ⟨i, rfl, k _ B H (Grow.refl e) (.int _)⟩
theorem dds1 {H : Hp} {xs : List V} {d : PyData} (h : DDs H xs [d]) : ∃ x, xs = [x] ∧ DD H x d := by
  cases h with
  | cons h1 h2 => cases h2; exact ⟨_, rfl, h1⟩
theorem rc_lenT {ds : List PyData} : RC (rLenG K) [.tuple ds] (.int ds.length) := fun B H xs e hx Q k => by
  obtain ⟨x, rfl, hz⟩ := dds1 hx
  cases hz with
  | tup h1 h2 =>
    refine ⟨_, _, rfl, .inr (SqT.of (e _ _ h1)), ?_⟩
    rw [h2.length]
    exact k _ B H (Grow.refl e) (.int _)
theorem rc_lenL {ds : List PyData} : RC (rLenG K) [.list ds] (.int ds.length) := fun B H xs e hx Q k => by
  obtain ⟨x, rfl, hz⟩ := dds1 hx
  cases hz with
  | lst h1 h2 =>
    refine ⟨_, _, rfl, .inl (SqL.of (e _ _ h1)), ?_⟩
    rw [h2.length]
    exact k _ B H (Grow.refl e) (.int _)
theorem rc_abs {i : Int} : RC rAbsG [.int i] (.int (if i < 0 then -i else i)) := fun B H xs e hx Q k => by
  obtain ⟨x, rfl, hz⟩ := dds1 hx
  cases hz
  exact ⟨i, rfl, k _ B H (Grow.refl e) (.int _)⟩
theorem rc_int {i : Int} : RC rIntG [.int i] (.int i) := fun B H xs e hx Q k => by
  obtain ⟨x, rfl, hz⟩ := dds1 hx
  cases hz
  exact .inl ⟨i, rfl, k _ B H (Grow.refl e) (.int _)⟩
theorem rc_intB {b : Bool} : RC rIntG [.bool b] (.int (if b then 1 else 0)) := fun B H xs e hx Q k => by
  obtain ⟨x, rfl, hz⟩ := dds1 hx
  cases hz
  exact .inr ⟨b, rfl, k _ B H (Grow.refl e) (.int _)⟩
theorem rc_tupL {ds : List PyData} : RC (rTupG K) [.list ds] (.tuple ds) := fun B H xs e hx Q k => by
  obtain ⟨x, rfl, hz⟩ := dds1 hx
  cases hz with
  | lst h1 h2 =>
    exact ⟨_, _, rfl, .inl ⟨SqL.of (e _ _ h1), fun p hp => k _ (upd B p (.tup _)) _ (Grow.new e hp) (.tup upd_same (h2.mono (Evl.Ex.new (ex_none e hp))))⟩⟩
theorem rc_tupT {ds : List PyData} : RC (rTupG K) [.tuple ds] (.tuple ds) := fun B H xs e hx Q k => by
  obtain ⟨x, rfl, hz⟩ := dds1 hx
  cases hz with
  | tup h1 h2 => exact ⟨_, _, rfl, .inr ⟨SqT.of (e _ _ h1), k _ B H (Grow.refl e) (.tup h1 h2)⟩⟩
theorem rcl_lst {ds : List PyData} : RCL (rLstG K) [.list ds] ds := fun B H xs e hx Q k => by
  obtain ⟨x, rfl, hz⟩ := dds1 hx
  cases hz with
  | lst h1 h2 => exact ⟨_, _, rfl, .inl (SqL.of (e _ _ h1)), fun p hp => k p _ B _ (Grow.new0 e hp) hp (ex_none e hp) upd_same h2⟩
theorem rc_all {bs : List Bool} : RC (rAll K) [.list (bs.map PyData.bool)] (.bool (bs.all id)) := fun B H xs e hx Q k => by
  obtain ⟨x, rfl, hz⟩ := dds1 hx
  cases hz with
  | lst h1 h2 =>
    have e1 := dds_bls_inv h2
    subst e1
    exact ⟨_, bs, rfl, SqL.of (e _ _ h1), k _ B H (Grow.refl e) (.bl _)⟩
theorem rc_any {bs : List Bool} : RC (rAny K) [.list (bs.map PyData.bool)] (.bool (bs.any id)) := fun B H xs e hx Q k => by
  obtain ⟨x, rfl, hz⟩ := dds1 hx
  cases hz with
  | lst h1 h2 =>
    have e1 := dds_bls_inv h2
    subst e1
    exact ⟨_, bs, rfl, SqL.of (e _ _ h1), k _ B H (Grow.refl e) (.bl _)⟩
/-! isinstance -/
def tyD : PyData → String
  | .none => "NoneType" | .bool _ => "bool" | .int _ => "int" | .str _ => "str" | .list _ => "list" | .tuple _ => "tuple" | .dict _ => "dict"
theorem dd_ty {H B : Hp} (e : Ex B H) {v : V} {a : PyData} (h : DD B v a) : TyX K H v (.type (tyD a)) := by
  cases h with
  | non => exact .base .non
  | bl b => exact .base (.bl b)
  | int i => exact .base (.int i)
  | str x => exact .base (.str x)
  | lst h1 _ => exact .base (.lst (e _ _ h1))
  | tup h1 _ => exact .base (.tup (e _ _ h1))
theorem ev_isi {δ : List Sl} {te : TE} {a : PyData} {n : String} {b : Bool} (h : EvX te δ (.d a)) (hk : kitB (tyD a) n = some b) : EvX (tCB (rIsi K) (tCons te (tCons (tC (.ty n)) tNil))) δ (.d (.bool b)) := fun B0 H0 B H σ e Q k =>
  h _ _ _ _ _ e _ fun x B1 H1 g1 hx => ⟨x, .ty n, _, _, b, rfl, .ty n, dd_ty g1.sub hx, kit_ty hk, k _ B1 H1 g1 (DD.bl b)⟩
end

/-! ### walks -/
def ItD (J : It) (B : Hp) (ds : List PyData) : Prop := ∀ (B' H : Hp), Ex B B' → Ex B' H →
  (∀ i : Nat, i < ds.length → J.go i H) ∧ J.stop ds.length H ∧ ∀ (i : Nat) (d : PyData) (x : V) (H' : Hp), ds[i]? = some d → J.yld i H x H' → ∃ B'', Grow B' H B'' H' ∧ DD B'' x d
def EvI (wi : TI) (δ : List Sl) (ds : List PyData) : Prop :=
  ∀ (B0 H0 B H : Hp) (σ : Ss), EnvOk B0 H0 B H σ δ → ∀ R : It → Hp → Prop, (∀ (J : It) (B' H' : Hp), Grow B H B' H' → ItD J B' ds → R J H') → wi σ H R
section
variable {K : PySem.W.Frag} {δ : List Sl} {te : TE} {ta : TA}
theorem itd_list {B : Hp} {a : Addr} {xs : List V} {ds : List PyData} (h1 : B a = some (.lst xs)) (h2 : DDs B xs ds) : ItD (Itl K a) B ds := fun B' H e1 e2 => by
  have hs : SqL K H a xs := SqL.of (e2 _ _ (e1 _ _ h1))
  refine ⟨fun i hi => ?_, ⟨xs, hs, by rw [h2.length]; exact Nat.le_refl _⟩, fun i d x H' hd hy => ?_⟩
  · obtain ⟨v, q1, q2⟩ := h2.get (List.getElem?_eq_getElem hi)
    exact ⟨xs, v, hs, q1⟩
  · obtain ⟨rfl, hy⟩ := hy
    obtain ⟨v, q1, q2⟩ := h2.get hd
    have := hy xs hs
    rw [q1] at this
    cases this
    exact ⟨B', Grow.refl e2, q2.mono e1⟩
theorem itd_tup {B : Hp} {a : Addr} {xs : List V} {ds : List PyData} (h1 : B a = some (.tup xs)) (h2 : DDs B xs ds) : ItD (Itt K a) B ds := fun B' H e1 e2 => by
  have hs : SqT K H a xs := SqT.of (e2 _ _ (e1 _ _ h1))
  refine ⟨fun i hi => ?_, ⟨xs, hs, by rw [h2.length]; exact Nat.le_refl _⟩, fun i d x H' hd hy => ?_⟩
  · obtain ⟨v, q1, q2⟩ := h2.get (List.getElem?_eq_getElem hi)
    exact ⟨xs, v, hs, q1⟩
  · obtain ⟨rfl, hy⟩ := hy
    obtain ⟨v, q1, q2⟩ := h2.get hd
    have := hy xs hs
    rw [q1] at this
    cases this
    exact ⟨B', Grow.refl e2, q2.mono e1⟩
theorem ei_list {ds : List PyData} (h : EvX te δ (.d (.list ds))) : EvI (iList K te) δ ds := fun B0 H0 B H σ e R k =>
  h _ _ _ _ _ e _ fun x B1 H1 g1 hx => by
    cases hx with
    | lst h1 h2 => exact ⟨_, rfl, ⟨_, SqL.of (g1.sub _ _ h1)⟩, k _ B1 H1 g1 (itd_list h1 h2)⟩
theorem ei_tup {ds : List PyData} (h : EvX te δ (.d (.tuple ds))) : EvI (iTup K te) δ ds := fun B0 H0 B H σ e R k =>
  h _ _ _ _ _ e _ fun x B1 H1 g1 hx => by
    cases hx with
    | tup h1 h2 => exact ⟨_, rfl, ⟨_, SqT.of (g1.sub _ _ h1)⟩, k _ B1 H1 g1 (itd_tup h1 h2)⟩
def rgD (lo : Int) (n : Nat) : List PyData := (List.range n).map fun i => PyData.int (lo + (i : Nat))
theorem rgD_length (lo : Int) (n : Nat) : (rgD lo n).length = n := by simp [rgD]
theorem rgD_get {lo : Int} {n i : Nat} (h : i < n) : (rgD lo n)[i]? = some (.int (lo + (i : Nat))) := by
  simp [rgD, h]
theorem rgD_get' {lo : Int} {n i : Nat} {d : PyData} (h : (rgD lo n)[i]? = some d) : i < n ∧ d = .int (lo + (i : Nat)) := by
  have hi : i < n := by
    have := (List.getElem?_eq_some_iff.mp h).1
    rw [rgD_length] at this
    exact this
  rw [rgD_get hi] at h
  exact ⟨hi, (Option.some.inj h).symm⟩
theorem itd_rng {B : Hp} {lo : Int} {n : Nat} : ItD (Itr lo n) B (rgD lo n) := fun B' H e1 e2 => by
  rw [rgD_length]
  refine ⟨fun i hi => hi, Nat.le_refl n, fun i d x H' hd hy => ?_⟩
  obtain ⟨rfl, rfl⟩ := hy
  obtain ⟨_, rfl⟩ := rgD_get' hd
  exact ⟨B', Grow.refl e2, .int _⟩
theorem ei_rng1 {n : Int} (h : EvDA ta δ [.int n]) (hn : -(2 ^ 62) ≤ n ∧ n < 2 ^ 62) : EvI (iRng1 ta) δ (rgD 0 n.toNat) := fun B0 H0 B H σ e R k =>
  h _ _ _ _ _ e _ fun xs B1 H1 g1 hx => by
    obtain ⟨x, rfl, hz⟩ := dds1 hx
    cases hz
    exact ⟨n, rfl, hn.1, hn.2, k _ B1 H1 g1 itd_rng⟩
/-- pairs -/
def zipD (as bs : List PyData) : List PyData := List.zipWith (fun a b => PyData.tuple [a, b]) as bs
theorem zipD_get {as bs : List PyData} {i : Nat} {d : PyData} (h : (zipD as bs)[i]? = some d) : ∃ a b, as[i]? = some a ∧ bs[i]? = some b ∧ d = .tuple [a, b] := by
  unfold zipD at h
  rw [List.getElem?_zipWith] at h
  cases qa : as[i]? with
  | none => rw [qa] at h; simp at h
  | some a =>
    cases qb : bs[i]? with
    | none => rw [qa, qb] at h; simp at h
    | some b =>
      rw [qa, qb] at h
      exact ⟨a, b, rfl, rfl, (Option.some.inj h).symm⟩
theorem ei_zipT {as bs : List PyData} (h : EvDA ta δ [.tuple as, .tuple bs]) : EvI (RZ.iZipA K ta) δ (zipD as bs) := fun B0 H0 B H σ e R k =>
  h _ _ _ _ _ e _ fun xs B1 H1 g1 hx => by
    cases hx with
    | cons hx hy =>
      obtain ⟨y, rfl, hz⟩ := dds1 hy
      cases hx with
      | tup a1 a2 =>
        cases hz with
        | tup b1 b2 =>
          rename_i a xs b ys
          refine ⟨a, b, xs, ys, rfl, .inr ⟨SqT.of (g1.sub _ _ a1), SqT.of (g1.sub _ _ b1), k _ B1 H1 g1 fun B' H e1 e2 => ?_⟩⟩
          have ha : SqT K H a xs := SqT.of (e2 _ _ (e1 _ _ a1))
          have hb : SqT K H b ys := SqT.of (e2 _ _ (e1 _ _ b1))
          have hl : (zipD as bs).length = min xs.length ys.length := by rw [a2.length, b2.length]; simp [zipD]
          refine ⟨fun i hi => ?_, ⟨xs, ys, ha, hb, by rw [hl]; omega⟩, fun i d x H' hd hy => ?_⟩
          · rw [hl] at hi
            exact ⟨xs, ys, _, _, ha, hb, List.getElem?_eq_getElem (by omega), List.getElem?_eq_getElem (by omega)⟩
          · obtain ⟨T, x, y, rfl, hT, rfl, h1, h2⟩ := hy
            obtain ⟨da, db, q1, q2, rfl⟩ := zipD_get hd
            obtain ⟨va, r1, r2⟩ := a2.get q1
            obtain ⟨vb, s1, s2⟩ := b2.get q2
            have e3 := h1 xs ha
            have e4 := h2 ys hb
            rw [r1] at e3
            rw [s1] at e4
            cases e3
            cases e4
            have en := Evl.Ex.new (o := HO.tup [x, y]) (ex_none e2 hT)
            exact ⟨upd B' T (.tup [x, y]), Grow.new e2 hT, .tup upd_same (.cons ((r2.mono e1).mono en) (.cons ((s2.mono e1).mono en) .nil))⟩
def enD (ds : List PyData) : List PyData := (List.range ds.length).map fun i => PyData.tuple [.int (i : Nat), ds.getD i .none]
theorem enD_length (ds : List PyData) : (enD ds).length = ds.length := by simp [enD]
theorem enD_get {ds : List PyData} {i : Nat} {d : PyData} (h : (enD ds)[i]? = some d) : ∃ a, ds[i]? = some a ∧ d = .tuple [.int (i : Nat), a] := by
  have hi : i < ds.length := by
    have := (List.getElem?_eq_some_iff.mp h).1
    rw [enD_length] at this
    exact this
  refine ⟨ds[i], List.getElem?_eq_getElem hi, ?_⟩
  simp [enD, hi] at h
  exact h.symm
theorem ei_enum {ds : List PyData} (h : EvDA ta δ [.list ds]) : EvI (iEnum K ta) δ (enD ds) := fun B0 H0 B H σ e R k =>
  h _ _ _ _ _ e _ fun xs B1 H1 g1 hx => by
    obtain ⟨x, rfl, hz⟩ := dds1 hx
    cases hz with
    | lst a1 a2 =>
      rename_i a xs
      refine ⟨a, xs, rfl, SqL.of (g1.sub _ _ a1), k _ B1 H1 g1 fun B' H e1 e2 => ?_⟩
      have ha : SqL K H a xs := SqL.of (e2 _ _ (e1 _ _ a1))
      rw [enD_length]
      refine ⟨fun i hi => ⟨xs, _, ha, List.getElem?_eq_getElem (by rw [a2.length]; exact hi)⟩, ⟨xs, ha, by rw [a2.length]; exact Nat.le_refl _⟩, fun i d x H' hd hy => ?_⟩
      obtain ⟨T, x, rfl, hT, rfl, h1⟩ := hy
      obtain ⟨da, q1, rfl⟩ := enD_get hd
      obtain ⟨va, r1, r2⟩ := a2.get q1
      have e3 := h1 xs ha
      rw [r1] at e3
      cases e3
      have en := Evl.Ex.new (o := HO.tup [.int (i : Nat), x]) (ex_none e2 hT)
      exact ⟨upd B' T (.tup _), Grow.new e2 hT, .tup upd_same (.cons (.int _) (.cons ((r2.mono e1).mono en) .nil))⟩
end

/-! ### targets -/
def Only (σ σ' : Ss) (ws : List Nat) : Prop := σ'.length = σ.length ∧ ∀ i : Nat, i ∉ ws → σ'[i]? = σ[i]?
def EvG (g : TG) (r : Sl) (δ δ' : List Sl) (ws : List Nat) : Prop :=
  ∀ (B0 H0 B H : Hp) (σ : Ss) (v : V), EnvOk B0 H0 B H σ δ → VOk B v r → ∀ Q : Ss → Hp → Prop, (∀ (σ' : Ss), EnvOk B0 H0 B H σ' δ' → Only σ σ' ws → Q σ' H) → g v σ H Q
def EvGs (g : TGs) (ds : List PyData) (δ δ' : List Sl) (ws : List Nat) : Prop :=
  ∀ (B0 H0 B H : Hp) (σ : Ss) (vs : List V), EnvOk B0 H0 B H σ δ → DDs B vs ds → ∀ Q : Ss → Hp → Prop, (∀ (σ' : Ss), EnvOk B0 H0 B H σ' δ' → Only σ σ' ws → Q σ' H) → g vs σ H Q
section
variable {K : PySem.W.Frag} {δ δ1 δ' : List Sl} {g : TG} {gs : TGs} {ws us : List Nat}
theorem only_set {σ : Ss} {i : Nat} {v : Option V} : Only σ (σ.set i v) [i] := ⟨List.length_set, fun j hj => List.getElem?_set_ne (fun z => hj (by rw [z]; exact List.mem_singleton.mpr rfl))⟩
theorem eg_name {i : Nat} {r : Sl} : EvG (gName i) r δ (δ.set i r) [i] := fun B0 H0 B H σ v e h Q k => k _ (e.set i h) only_set
theorem egs_nil : EvGs gNil [] δ δ [] := fun B0 H0 B H σ vs e h Q k => by
  cases h
  exact ⟨rfl, k σ e ⟨rfl, fun _ _ => rfl⟩⟩
theorem egs_cons {d : PyData} {ds : List PyData} (h1 : EvG g (.d d) δ δ1 ws) (h2 : EvGs gs ds δ1 δ' us) : EvGs (gCons g gs) (d :: ds) δ δ' (ws ++ us) := fun B0 H0 B H σ vs e h Q k => by
  cases h with
  | cons a1 a2 =>
    exact ⟨_, _, rfl, h1 _ _ _ _ _ _ e a1 _ fun σ1 e1 o1 => h2 _ _ _ _ _ _ e1 a2 _ fun σ2 e2 o2 => k σ2 e2
      ⟨o2.1.trans o1.1, fun i hi => by
        rw [List.mem_append] at hi
        rw [o2.2 i (fun z => hi (.inr z)), o1.2 i (fun z => hi (.inl z))]⟩⟩
theorem eg_tup {n : Nat} {ds : List PyData} (hn : ds.length = n) (h : EvGs gs ds δ δ' ws) : EvG (gTup K n gs) (.d (.tuple ds)) δ δ' ws := fun B0 H0 B H σ v e hv Q k => by
  cases hv with
  | tup a1 a2 => exact ⟨_, _, rfl, SqT.of (e.gr.sub _ _ a1), by rw [a2.length, hn], h _ _ _ _ _ _ e a2 Q k⟩
theorem eg_unl {n : Nat} {ds : List PyData} (hn : ds.length = n) (h : EvGs gs ds δ δ' ws) : EvG (gUnl K n gs) (.d (.list ds)) δ δ' ws := fun B0 H0 B H σ v e hv Q k => by
  cases hv with
  | lst a1 a2 => exact ⟨_, _, rfl, SqL.of (e.gr.sub _ _ a1), by rw [a2.length, hn], h _ _ _ _ _ _ e a2 Q k⟩
end

/-! ### statements -/
structure Out where
  nx : List Sl → Prop
  rt : Sl → Prop
  bk : List Sl → Prop := fun _ => False
  ct : List Sl → Prop := fun _ => False
structure EndsOk (B0 H0 B : Hp) (O : Out) (D : Ends) : Prop where
  nx : ∀ (σ' : Ss) (B' H' : Hp) (δ' : List Sl), EnvOk B0 H0 B' H' σ' δ' → Ex B B' → O.nx δ' → D.nx σ' H'
  rt : ∀ (v : V) (B' H' : Hp) (r : Sl), Grow B0 H0 B' H' → Ex B B' → VOk B' v r → O.rt r → D.rt v H'
  bk : ∀ (σ' : Ss) (B' H' : Hp) (δ' : List Sl), EnvOk B0 H0 B' H' σ' δ' → Ex B B' → O.bk δ' → D.bk σ' H'
  ct : ∀ (σ' : Ss) (B' H' : Hp) (δ' : List Sl), EnvOk B0 H0 B' H' σ' δ' → Ex B B' → O.ct δ' → D.ct σ' H'
def ExS (t : TS) (δ : List Sl) (O : Out) : Prop :=
  ∀ (B0 H0 B H : Hp) (σ : Ss), EnvOk B0 H0 B H σ δ → ∀ D : Ends, EndsOk B0 H0 B O D → t D σ H
section
variable {K : PySem.W.Frag} {δ δ' : List Sl} {O : Out} {t u : TS} {te ti : TE} {c : TT} {g : TG} {wi : TI} {ws : List Nat}
theorem EndsOk.mono {B0 H0 B B1 : Hp} {D : Ends} (e : EndsOk B0 H0 B O D) (h : Ex B B1) : EndsOk B0 H0 B1 O D :=
  ⟨fun σ' B' H' δ' a b => e.nx σ' B' H' δ' a (h.trans b), fun v B' H' r a b => e.rt v B' H' r a (h.trans b), fun σ' B' H' δ' a b => e.bk σ' B' H' δ' a (h.trans b), fun σ' B' H' δ' a b => e.ct σ' B' H' δ' a (h.trans b)⟩
theorem xs_seq (h : ExS t δ { O with nx := fun δ' => ExS u δ' O }) : ExS (tSeq t u) δ O := fun B0 H0 B H σ e D k =>
  h _ _ _ _ _ e _ ⟨fun σ' B' H' δ' a b q => q _ _ _ _ _ a D (k.mono b), k.rt, k.bk, k.ct⟩
theorem xs_next (h : O.nx δ) : ExS tNext δ O := fun B0 H0 B H σ e D k => k.nx σ B H δ e Ex.rfl h
theorem xs_cont (h : O.ct δ) : ExS tCont δ O := fun B0 H0 B H σ e D k => k.ct σ B H δ e Ex.rfl h
theorem xs_break (h : O.bk δ) : ExS tBreak δ O := fun B0 H0 B H σ e D k => k.bk σ B H δ e Ex.rfl h
theorem xs_drop {r : Sl} (h : EvX te δ r) (q : O.nx δ) : ExS (tDrop te) δ O := fun B0 H0 B H σ e D k =>
  h _ _ _ _ _ e _ fun v B1 H1 g1 _ => k.nx σ B1 H1 δ (e.grow g1) g1.b q
theorem xs_ret {r : Sl} (h : EvX te δ r) (q : O.rt r) : ExS (tRet te) δ O := fun B0 H0 B H σ e D k =>
  h _ _ _ _ _ e _ fun v B1 H1 g1 hv => k.rt v B1 H1 r (e.gr.trans g1) g1.b hv q
theorem xs_retN (q : O.rt (.d .none)) : ExS tRetN δ O := fun B0 H0 B H σ e D k => k.rt .non B H (.d .none) e.gr Ex.rfl DD.non q
theorem xs_asg {r : Sl} (h : EvX te δ r) (hg : EvG g r δ δ' ws) (q : O.nx δ') : ExS (tAsg te g) δ O := fun B0 H0 B H σ e D k =>
  h _ _ _ _ _ e _ fun v B1 H1 g1 hv => hg _ _ _ _ _ _ (e.grow g1) hv _ fun σ' e' _ => k.nx σ' B1 H1 δ' e' g1.b q
theorem own_ne {B0 H0 B H : Hp} {σ : Ss} (e : EnvOk B0 H0 B H σ δ) {l : Addr} (hl : H l = none) {j : Nat} {es : List PyData} (h : δ[j]? = some (.own es)) : σ[j]? ≠ some (some (.ref l)) := fun q => by
  obtain ⟨l', xs, q1, _, _, q4, _⟩ := e.at_ j _ h
  rw [q] at q1
  cases q1
  rw [hl] at q4
  cases q4
theorem xs_asgL {i : Nat} {ds : List PyData} (h : EvL te δ ds) (q : O.nx (δ.set i (.own ds))) : ExS (tAsg te (gName i)) δ O := fun B0 H0 B H σ e D k =>
  h _ _ _ _ _ e _ fun l xs B1 H1 g1 h1 h2 h3 h4 =>
    k.nx _ B1 H1 _ ((e.grow g1).setOwn i (ex_none e.gr.h h1) h2 h3 h4 fun j es _ hj => own_ne e h1 hj) g1.b q
theorem xs_frz {i : Nat} {ds : List PyData} (hi : δ[i]? = some (.own ds)) (h : ExS t (δ.set i (.d (.list ds))) O) : ExS t δ O := fun B0 H0 B H σ e D k => by
  obtain ⟨B', e1, e2⟩ := e.freeze hi
  exact h _ _ _ _ _ e2 D (k.mono e1)
theorem xs_weak (hl : δ'.length = δ.length) (hw : ∀ (i : Nat) (s : Sl), δ'[i]? = some s → s = .no ∨ δ[i]? = some s) (h : ExS t δ' O) : ExS t δ O := fun B0 H0 B H σ e D k =>
  h _ _ _ _ _ (e.weak hl hw) D k
theorem xs_aug {i : Nat} {f : Int → Int → Int} {a b : Int} (hi : δ[i]? = some (.d (.int a))) (h : EvX te δ (.d (.int b))) (q : O.nx (δ.set i (.d (.int (f a b))))) : ExS (tAug i te (ipI f)) δ O := fun B0 H0 B H σ e D k => by
  obtain ⟨v, q1, q2⟩ := e.at_ i _ hi
  cases q2
  refine ⟨_, q1, h _ _ _ _ _ e _ fun v B1 H1 g1 hv => ?_⟩
  cases hv
  exact ⟨a, b, rfl, rfl, k.nx _ B1 H1 _ ((e.grow g1).set i (r := .d (.int (f a b))) (DD.int _)) g1.b q⟩
theorem xs_if {b : Bool} (h : EvT c δ b) (h1 : b = true → ExS t δ O) (h2 : b = false → ExS u δ O) : ExS (tIfS c t u) δ O := fun B0 H0 B H σ e D k =>
  h _ _ _ _ _ e _ fun B1 H1 g1 => by
    cases b with
    | true => exact iteT (h1 rfl _ _ _ _ _ (e.grow g1) D (k.mono g1.b))
    | false => exact iteF (h2 rfl _ _ _ _ _ (e.grow g1) D (k.mono g1.b))
theorem xs_par {i j : Nat} {ta : TA} {r1 r2 : Sl} (h : EvA ta δ [r1, r2]) (q : O.nx ((δ.set i r1).set j r2)) : ExS (tPar i j ta) δ O := fun B0 H0 B H σ e D k =>
  h _ _ _ _ _ e _ fun vs B1 H1 g1 hv => by
    match vs, hv with
    | [v, w], hv => exact ⟨v, w, rfl, k.nx _ B1 H1 _ (((e.grow g1).set i hv.1).set j hv.2.1) g1.b q⟩
    | [], hv => exact hv.elim
    | [_], hv => exact hv.2.elim
    | _ :: _ :: _ :: _, hv => exact hv.2.2.elim
/-- xs.append(e), xs owned -/
theorem xs_app {i : Nat} {ds : List PyData} {d : PyData} (hi : δ[i]? = some (.own ds)) (h : EvX te δ (.d d)) (hz : ds.length < 100000) (q : O.nx (δ.set i (.own (ds ++ [d])))) :
    ExS (tDrop (tBM K "list" rAppend (tVar i) (tCons te tNil))) δ O := fun B0 H0 B H σ e D k => by
  obtain ⟨l, xs, q1, q2, q3, q4, q5⟩ := e.at_ i _ hi
  refine ⟨_, q1, .inl ⟨rfl, _, SqL.of q4⟩, h _ _ _ _ _ e _ fun v B1 H1 g1 hv => ?_⟩
  exact ⟨l, xs, v, rfl, rfl, g1.h _ _ q4, Evl.sz_lt (by rw [q5.length]; exact hz), k.nx _ B1 _ _ ((e.grow g1).write hi q1 ((q5.mono g1.b).append (DDs.one hv))) g1.b q⟩
/-- xs.extend(new list) -/
theorem xs_ext {i : Nat} {ds es : List PyData} (hi : δ[i]? = some (.own ds)) (h : EvL te δ es) (hz : ds.length + es.length ≤ 100000) (q : O.nx (δ.set i (.own (ds ++ es)))) :
    ExS (tDrop (tBM K "list" rExtend (tVar i) (tCons te tNil))) δ O := fun B0 H0 B H σ e D k => by
  obtain ⟨l, xs, q1, q2, q3, q4, q5⟩ := e.at_ i _ hi
  refine ⟨_, q1, .inl ⟨rfl, _, SqL.of q4⟩, h _ _ _ _ _ e _ fun m ys B1 H1 g1 h1 h2 h3 h4 => ?_⟩
  exact ⟨l, m, xs, ys, rfl, rfl, g1.h _ _ q4, h3, Evl.sz_of (by rw [q5.length, h4.length]; exact hz), k.nx _ B1 _ _ ((e.grow g1).write hi q1 ((q5.mono g1.b).append h4)) g1.b q⟩
/-- xs[i] = e, xs owned -/
theorem xs_setI {i j : Nat} {z : Int} {ds : List PyData} {d : PyData} (hi : δ[i]? = some (.own ds)) (h : EvX te δ (.d d)) (hj : EvX ti δ (.d (.int z))) (hz : ixN ds.length z = some j) (q : O.nx (δ.set i (.own (ds.set j d)))) :
    ExS (tAsg te (gSub (tVar i) ti rSetL)) δ O := fun B0 H0 B H σ e D k => by
  obtain ⟨l, xs, q1, q2, q3, q4, q5⟩ := e.at_ i _ hi
  refine h _ _ _ _ _ e _ fun v B1 H1 g1 hv => ⟨_, q1, hj _ _ _ _ _ (e.grow g1) _ fun w B2 H2 g2 hw => ?_⟩
  cases hw
  exact ⟨l, xs, z, j, rfl, rfl, g2.h _ _ (g1.h _ _ q4), by rw [q5.length]; exact hz,
    k.nx _ B2 _ _ ((e.grow (g1.trans g2)).write hi q1 (DDs.set (DD.mono hv g2.b) j (q5.mono (g1.b.trans g2.b)))) (g1.b.trans g2.b) q⟩
theorem ev_lenO {i : Nat} {ds : List PyData} (hi : δ[i]? = some (.own ds)) : EvX (tCB (rLenG K) (tCons (tVar i) tNil)) δ (.d (.int ds.length)) := fun B0 H0 B H σ e Q k => by
  obtain ⟨l, xs, q1, q2, q3, q4, q5⟩ := e.at_ i _ hi
  refine ⟨_, q1, l, xs, rfl, .inl (SqL.of q4), ?_⟩
  rw [q5.length]
  exact k _ B H (Grow.refl e.gr.sub) (DD.int _)
theorem ev_ixO {i : Nat} {ds : List PyData} {z : Int} {d : PyData} (hi : δ[i]? = some (.own ds)) (h : EvX te δ (.d (.int z))) (hd : atI ds z = some d) : EvX (tOp (rIx K) (tVar i) te) δ (.d d) := fun B0 H0 B H σ e Q k => by
  obtain ⟨l, xs, q1, q2, q3, q4, q5⟩ := e.at_ i _ hi
  refine ⟨_, q1, h _ _ _ _ _ e _ fun v B1 H1 g1 hv => ?_⟩
  cases hv
  obtain ⟨x, r1, r2⟩ := dds_at (q5.mono g1.b) hd
  exact .inl ⟨l, xs, z, x, rfl, rfl, SqL.of (g1.h _ _ q4), r1, k _ B1 H1 g1 r2⟩
/-- for target in ..: by what is known ahead of each turn -/
theorem xs_for {ds : List PyData} (hi : EvI wi δ ds) (I : Nat → List Sl → Prop) (h0 : I 0 δ)
    (hs : ∀ (i : Nat) (d : PyData) (δ1 : List Sl), ds[i]? = some d → I i δ1 → ∃ δ2 us, EvG g (.d d) δ1 δ2 us ∧ ExS t δ2 { nx := I (i + 1), rt := O.rt, bk := O.nx, ct := I (i + 1) })
    (hd : ∀ δ1, I ds.length δ1 → O.nx δ1) : ExS (tFor wi g t) δ O := fun B0 H0 B H σ e D k =>
  hi _ _ _ _ _ e _ fun J B1 H1 g1 hJ => by
    refine ⟨fun i m σ' H' => m = ds.length - i ∧ i ≤ ds.length ∧ ∃ B' δ', EnvOk B0 H0 B' H' σ' δ' ∧ Ex B1 B' ∧ I i δ', ⟨_, rfl, Nat.zero_le _, B1, δ, e.grow g1, Ex.rfl, h0⟩, fun i m σ' H' ⟨hm, hil, B', δ', e', x', hI⟩ => ?_⟩
    obtain ⟨j1, j2, j3⟩ := hJ B' H' x' e'.gr.sub
    by_cases q : i < ds.length
    · refine .inr ⟨j1 i q, fun σ'' H'' => ∃ B' δ', EnvOk B0 H0 B' H'' σ'' δ' ∧ Ex B1 B' ∧ I (i + 1) δ', fun σ'' H'' z => ⟨ds.length - (i + 1), by omega, rfl, by omega, z⟩, fun x H2 hy => ?_⟩
      obtain ⟨B2, g2, hx⟩ := j3 i ds[i] x H2 (List.getElem?_eq_getElem q) hy
      obtain ⟨δ2, us, hg, hb⟩ := hs i ds[i] δ' (List.getElem?_eq_getElem q) hI
      refine hg _ _ _ _ _ _ (e'.grow g2) hx _ fun σ3 e3 _ => ?_
      exact hb _ _ _ _ _ e3 _ ⟨fun σ4 B4 H4 δ4 a b z => ⟨B4, δ4, a, (x'.trans g2.b).trans b, z⟩, fun v B4 H4 r a b => k.rt v B4 H4 r a (((g1.b.trans x').trans g2.b).trans b),
        fun σ4 B4 H4 δ4 a b z => k.nx σ4 B4 H4 δ4 a (((g1.b.trans x').trans g2.b).trans b) z, fun σ4 B4 H4 δ4 a b z => ⟨B4, δ4, a, (x'.trans g2.b).trans b, z⟩⟩
    · have : i = ds.length := by omega
      subst this
      exact .inl ⟨j2, k.nx σ' B' H' δ' e' (g1.b.trans x') (hd δ' hI)⟩
theorem xs_while (I : Nat → List Sl → Prop) (m0 : Nat) (h0 : I m0 δ)
    (hs : ∀ (m : Nat) (δ1 : List Sl), I m δ1 → ∃ b, EvT c δ1 b ∧ (b = true → ExS t δ1 { nx := fun δ2 => ∃ m', m' < m ∧ I m' δ2, rt := O.rt, bk := O.nx, ct := fun δ2 => ∃ m', m' < m ∧ I m' δ2 }) ∧ (b = false → O.nx δ1)) :
    ExS (tWhile c t) δ O := fun B0 H0 B H σ e D k => by
  refine ⟨fun m σ' H' => ∃ B' δ', EnvOk B0 H0 B' H' σ' δ' ∧ Ex B B' ∧ I m δ', ⟨m0, B, δ, e, Ex.rfl, h0⟩, fun m σ' H' ⟨B', δ', e', x', hI⟩ => ?_⟩
  obtain ⟨b, hb, h1, h2⟩ := hs m δ' hI
  refine hb _ _ _ _ _ e' _ fun B1 H1 g1 => ?_
  cases b with
  | true =>
    refine iteT ⟨fun σ'' H'' => ∃ m', m' < m ∧ ∃ B' δ', EnvOk B0 H0 B' H'' σ'' δ' ∧ Ex B B' ∧ I m' δ', fun σ'' H'' z => z, ?_⟩
    have hf : ∀ (σ4 : Ss) (B4 H4 : Hp) (δ4 : List Sl), EnvOk B0 H0 B4 H4 σ4 δ4 → Ex B1 B4 → (∃ m', m' < m ∧ I m' δ4) → ∃ m', m' < m ∧ ∃ B' δ', EnvOk B0 H0 B' H4 σ4 δ' ∧ Ex B B' ∧ I m' δ' :=
      fun σ4 B4 H4 δ4 a b' ⟨m', hm', z⟩ => ⟨m', hm', B4, δ4, a, (x'.trans g1.b).trans b', z⟩
    exact h1 rfl _ _ _ _ _ (e'.grow g1) _ ⟨hf, fun v B4 H4 r a b => k.rt v B4 H4 r a ((x'.trans g1.b).trans b), fun σ4 B4 H4 δ4 a b z => k.nx σ4 B4 H4 δ4 a ((x'.trans g1.b).trans b) z, hf⟩
  | false => exact iteF (k.nx σ' B1 H1 δ' (e'.grow g1) (x'.trans g1.b) (h2 rfl))
end

/-! ### comprehensions -/
def wipeD (δ : List Sl) : List Nat → List Sl
  | [] => δ
  | v :: vs => (wipeD δ vs).set v .no
theorem EnvOk.wipe {B0 H0 B H : Hp} {σ : Ss} {δ : List Sl} (e : EnvOk B0 H0 B H σ δ) : ∀ vs : List Nat, EnvOk B0 H0 B H (wipe σ vs) (wipeD δ vs)
  | [] => e
  | v :: vs => (EnvOk.wipe e vs).drop v none
theorem wipe_get {σ : Ss} {i : Nat} : ∀ {vs : List Nat}, (wipe σ vs)[i]? = if i ∈ vs then σ[i]?.map (fun _ => none) else σ[i]?
  | [] => by simp [wipe]
  | v :: vs => by
    show ((wipe σ vs).set v none)[i]? = _
    by_cases q : i = v
    · subst q
      rw [if_pos List.mem_cons_self]
      by_cases hl : i < σ.length
      · rw [List.getElem?_set_self (by rw [wipe_length]; exact hl), List.getElem?_eq_getElem hl]
        rfl
      · rw [List.getElem?_eq_none (by rw [List.length_set, wipe_length]; omega), List.getElem?_eq_none (by omega)]
        rfl
    · rw [List.getElem?_set_ne (fun z => q z.symm), wipe_get (vs := vs)]
      by_cases hm : i ∈ vs
      · rw [if_pos hm, if_pos (List.mem_cons_of_mem _ hm)]
      · rw [if_neg hm, if_neg (by rw [List.mem_cons]; intro z; rcases z with z | z; exact q z; exact hm z)]
theorem wipe_only {σ σ' : Ss} {ws vs : List Nat} (o : Only σ σ' ws) (h : ∀ i ∈ ws, i ∈ vs) : wipe σ' vs = wipe σ vs := by
  apply List.ext_getElem?
  intro i
  rw [wipe_get, wipe_get]
  by_cases hm : i ∈ vs
  · rw [if_pos hm, if_pos hm]
    by_cases hl : i < σ.length
    · rw [List.getElem?_eq_getElem hl, List.getElem?_eq_getElem (by rw [o.1]; exact hl)]
      rfl
    · have o1 := o.1
      rw [List.getElem?_eq_none (l := σ) (by omega), List.getElem?_eq_none (l := σ') (by omega)]
  · rw [if_neg hm, if_neg hm]
    exact o.2 i (fun z => hm (h i z))
theorem wipe_wipe {σ : Ss} {vs : List Nat} : wipe (wipe σ vs) vs = wipe σ vs := by
  apply List.ext_getElem?
  intro i
  rw [wipe_get, wipe_get]
  by_cases hm : i ∈ vs
  · rw [if_pos hm, if_pos hm]
    cases σ[i]? <;> rfl
  · rw [if_neg hm, if_neg hm]
theorem take_succ_of {α : Type} {l : List α} {i : Nat} {a : α} (h : l[i]? = some a) : l.take (i + 1) = l.take i ++ [a] := by
  obtain ⟨hi, rfl⟩ := List.getElem?_eq_some_iff.mp h
  exact List.take_succ_eq_append_getElem hi
section
variable {δ : List Sl} {wi wi1 : TI} {g g1 : TG} {tt tt1 : TT} {te : TE} {vs vs1 : List Nat}
/-- the new list is being filled -/
def Filling (B1 H1 : Hp) (D : Addr) (ds : List PyData) (H : Hp) : Prop := ∃ B' acc, Grow B1 H1 B' H ∧ B' D = none ∧ H D = some (.lst acc) ∧ DDs B' acc ds
theorem el_lc {ds : List PyData} (p : PyData → Bool) (f : PyData → PyData) (hi : EvI wi δ ds) (hz : ds.length ≤ 50000)
    (hs : ∀ d, d ∈ ds → ∃ δ2 ws, EvG g (.d d) (wipeD δ vs) δ2 ws ∧ (∀ i ∈ ws, i ∈ vs) ∧ EvT tt δ2 (p d) ∧ (p d = true → EvX te δ2 (.d (f d)))) :
    EvL (tLc wi g tt te vs) δ ((ds.filter p).map f) := fun B0 H0 B H σ e Q k =>
  hi _ _ _ _ _ e _ fun J B1 H1 g1 hJ D hD => by
    have fl : ∀ {B' : Hp} {acc : List V} {i : Nat}, DDs B' acc (((ds.take i).filter p).map f) → acc.length < sizeLine := fun {B' acc i} h => by
      have : acc.length ≤ ds.length := by
        rw [h.length, List.length_map]
        exact Nat.le_trans (List.length_filter_le _ _) (by rw [List.length_take]; omega)
      exact Evl.sz_lt (by omega)
    refine ⟨fun i m H' => m = ds.length - i ∧ i ≤ ds.length ∧ Filling B1 H1 D (((ds.take i).filter p).map f) H', ⟨_, rfl, Nat.zero_le _, B1, [], Grow.new0 g1.sub hD, ex_none g1.sub hD, upd_same, .nil⟩, fun i m H' ⟨hm, hil, B', acc, g2, hB, hA, hd⟩ => ?_⟩
    obtain ⟨j1, j2, j3⟩ := hJ B' H' g2.b g2.sub
    by_cases q : i < ds.length
    · have hdi := List.getElem?_eq_getElem q
      refine .inr ⟨j1 i q, fun H'' => Filling B1 H1 D (((ds.take (i + 1)).filter p).map f) H'', fun H'' z => ⟨ds.length - (i + 1), by omega, rfl, by omega, z⟩, fun x H2 hy => ?_⟩
      obtain ⟨B2, g3, hx⟩ := j3 i ds[i] x H2 hdi hy
      obtain ⟨δ2, ws, hg, hw, ht, he⟩ := hs ds[i] (List.mem_of_getElem? hdi)
      refine hg _ _ _ _ _ _ (((e.grow g1).grow (g2.trans g3)).wipe vs) hx _ fun σ3 e3 o3 => ⟨?_, ht _ _ _ _ _ e3 _ fun B4 H4 g4 => ?_⟩
      · rw [wipe_only o3 hw, wipe_wipe]
      · have hD3 : H2 D ≠ none := by rw [g3.h _ _ hA]; intro z; cases z
        have hB2 := g3.out D (by rw [hA]; intro z; cases z) hB
        have hB4 := g4.out D hD3 hB2
        have hA4 := g4.h _ _ (g3.h _ _ hA)
        cases hp : p ds[i] with
        | false =>
          refine iteF ⟨B4, acc, (g2.trans g3).trans g4, hB4, hA4, ?_⟩
          rw [take_succ_of hdi, List.filter_append, List.filter_cons_of_neg (by rw [hp]; intro z; cases z), List.filter_nil, List.append_nil]
          exact hd.mono (g3.b.trans g4.b)
        | true =>
          refine iteT (he hp _ _ _ _ _ (e3.grow g4) _ fun v B5 H5 g5 hv => ⟨acc, g5.h _ _ hA4, fl hd, B5, acc ++ [v], ?_, ?_, upd_same, ?_⟩)
          · have hB5 := g5.out D (by rw [hA4]; intro z; cases z) hB4
            have g6 := ((g2.trans g3).trans g4).trans g5
            refine ⟨g6.b, fun a o h => ?_, ex_upd g6.sub hB5, g6.out⟩
            have : a ≠ D := fun z => by rw [z, hD] at h; cases h
            rw [upd_ne this]
            exact g6.h a o h
          · exact g5.out D (by rw [hA4]; intro z; cases z) hB4
          · rw [take_succ_of hdi, List.filter_append, List.filter_cons_of_pos hp, List.filter_nil, List.map_append]
            exact (hd.mono ((g3.b.trans g4.b).trans g5.b)).append (DDs.one hv)
    · have : i = ds.length := by omega
      subst this
      rw [List.take_length] at hd
      exact .inl ⟨j2, k D acc B' H' (g1.trans g2) (ex_none g1.h hD) hB hA hd⟩
/-- without a test -/
theorem et_yes : EvT tYes δ true := fun B0 H0 B H σ e Q k => k B H (Grow.refl e.gr.sub)
theorem el_lc1 {ds : List PyData} (f : PyData → PyData) (hi : EvI wi δ ds) (hz : ds.length ≤ 50000)
    (hs : ∀ d, d ∈ ds → ∃ δ2 ws, EvG g (.d d) (wipeD δ vs) δ2 ws ∧ (∀ i ∈ ws, i ∈ vs) ∧ EvX te δ2 (.d (f d))) :
    EvL (tLc wi g tYes te vs) δ (ds.map f) := by
  have h := el_lc (tt := tYes) (te := te) (vs := vs) (g := g) (fun _ => true) f hi hz fun d hd => by
    obtain ⟨δ2, ws, a, b, c⟩ := hs d hd
    exact ⟨δ2, ws, a, b, et_yes, fun _ => c⟩
  have e : ds.filter (fun _ => true) = ds := List.filter_eq_self.mpr fun _ _ => rfl
  rw [e] at h
  exact h
/-- what is owned is forgotten -/
def strip (δ : List Sl) : List Sl := δ.map fun s => match s with
  | .own _ => .no
  | s => s
def noOwn (δ : List Sl) : Bool := δ.all fun s => match s with
  | .own _ => false
  | _ => true
theorem EnvOk.strip {B0 H0 B H : Hp} {σ : Ss} {δ : List Sl} (e : EnvOk B0 H0 B H σ δ) : EnvOk B0 H0 B H σ (strip δ) := by
  refine e.weak (by simp [DL.strip]) fun i s h => ?_
  unfold DL.strip at h
  rw [List.getElem?_map] at h
  cases q : δ[i]? with
  | none => rw [q] at h; cases h
  | some s0 =>
    rw [q] at h
    have h := Option.some.inj h
    cases s0 with
    | own ds => exact .inl h.symm
    | no => exact .inl h.symm
    | d x => exact .inr (by rw [← h])
    | ob φ => exact .inr (by rw [← h])
theorem EnvOk.rebase {B0 H0 B H B' H' : Hp} {σ : Ss} {δ : List Sl} (e : EnvOk B0 H0 B H σ δ) (hn : noOwn δ = true) (h1 : Ex B B') (h2 : Ex B' H') : EnvOk B' H' B' H' σ δ := by
  have no : ∀ (i : Nat) (ds : List PyData), δ[i]? ≠ some (.own ds) := fun i ds q => by
    have := List.all_eq_true.mp hn _ (List.mem_of_getElem? q)
    cases this
  refine ⟨Grow.refl h2, e.len, fun i s q => ?_, fun i j l ds es _ h _ _ => absurd h (no i ds)⟩
  have z := e.at_ i s q
  cases s with
  | no => trivial
  | d x => obtain ⟨v, z1, z2⟩ := z; exact ⟨v, z1, z2.mono h1⟩
  | ob φ => obtain ⟨v, z1, z2, z3⟩ := z; exact ⟨v, z1, z2, z2 _ _ _ h1 z3⟩
  | own ds => exact absurd q (no i ds)
/-- two clauses, no tests -/
theorem el_lc2 {ds : List PyData} (es : PyData → List PyData) (f : PyData → PyData → PyData) (hi : EvI wi δ ds) (hz : (ds.flatMap es).length ≤ 50000)
    (hs : ∀ d, d ∈ ds → ∃ δ2 ws, EvG g (.d d) (strip (wipeD δ vs)) δ2 ws ∧ (∀ i ∈ ws, i ∈ vs) ∧ noOwn δ2 = true ∧ EvI wi1 δ2 (es d) ∧
      ∀ c, c ∈ es d → ∃ δ3 us, EvG g1 (.d c) (wipeD δ2 vs1) δ3 us ∧ (∀ i ∈ us, i ∈ vs1) ∧ EvX te δ3 (.d (f d c))) :
    EvL (tLc2 wi g tYes wi1 g1 tYes te vs vs1) δ (ds.flatMap fun d => (es d).map (f d)) := fun B0 H0 B H σ e Q k =>
  hi _ _ _ _ _ e _ fun J B1 H1 g1 hJ D hD => by
    have e3 : ∀ l : List PyData, (l.flatMap fun d => (es d).map (f d)).length = (l.flatMap es).length := fun l => by
      induction l with
      | nil => rfl
      | cons a l ih => rw [List.flatMap_cons, List.flatMap_cons, List.length_append, List.length_append, ih, List.length_map]
    have fl : ∀ {B' : Hp} {acc : List V} {i j : Nat} {d : PyData}, DDs B' acc (((ds.take i).flatMap fun d => (es d).map (f d)) ++ ((es d).take j).map (f d)) → ds[i]? = some d → acc.length < sizeLine := fun {B' acc i j d} h hd => by
      obtain ⟨h1, rfl⟩ := List.getElem?_eq_some_iff.mp hd
      have e1 : ds = ds.take i ++ ds[i] :: ds.drop (i + 1) := by simp
      have e2 : (ds.flatMap es).length = ((ds.take i).flatMap es).length + ((es ds[i]).length + ((ds.drop (i + 1)).flatMap es).length) := by
        conv => lhs; rw [e1]
        rw [List.flatMap_append, List.flatMap_cons, List.length_append, List.length_append]
      have : acc.length ≤ (ds.flatMap es).length := by
        rw [h.length, List.length_append, e3, List.length_map, List.length_take]
        omega
      exact Evl.sz_lt (by omega)
    refine ⟨fun i m H' => m = ds.length - i ∧ i ≤ ds.length ∧ Filling B1 H1 D ((ds.take i).flatMap fun d => (es d).map (f d)) H', ⟨_, rfl, Nat.zero_le _, B1, [], Grow.new0 g1.sub hD, ex_none g1.sub hD, upd_same, .nil⟩, fun i m H' ⟨hm, hil, B', acc, g2, hB, hA, hd⟩ => ?_⟩
    obtain ⟨j1, j2, j3⟩ := hJ B' H' g2.b g2.sub
    by_cases q : i < ds.length
    · have hdi := List.getElem?_eq_getElem q
      refine .inr ⟨j1 i q, fun H'' => Filling B1 H1 D ((ds.take (i + 1)).flatMap fun d => (es d).map (f d)) H'', fun H'' z => ⟨ds.length - (i + 1), by omega, rfl, by omega, z⟩, fun x H2 hy => ?_⟩
      obtain ⟨B2, g3, hx⟩ := j3 i ds[i] x H2 hdi hy
      obtain ⟨δ2, ws, hg, hw, hno, hi1, he⟩ := hs ds[i] (List.mem_of_getElem? hdi)
      refine hg _ _ _ _ _ _ (((e.grow g1).grow (g2.trans g3)).wipe vs).strip hx _ fun σ3 e3 o3 => ⟨by rw [wipe_only o3 hw, wipe_wipe], ?_⟩
      have hA2 := g3.h _ _ hA
      have hB2 := g3.out D (by rw [hA]; intro z; cases z) hB
      simp only [tYes, ↓reduceIte]
      refine hi1 _ _ _ _ _ e3 _ fun J1 B4 H4 g4 hJ1 => ?_
      have hA4 := g4.h _ _ hA2
      have hB4 := g4.out D (by rw [hA2]; intro z; cases z) hB2
      refine ⟨fun j m H' => m = (es ds[i]).length - j ∧ j ≤ (es ds[i]).length ∧ ∃ B' acc, Grow B1 H1 B' H' ∧ Ex B4 B' ∧ B' D = none ∧ H' D = some (.lst acc) ∧
        DDs B' acc (((ds.take i).flatMap fun d => (es d).map (f d)) ++ ((es ds[i]).take j).map (f ds[i])),
        ⟨_, rfl, Nat.zero_le _, B4, acc, (g2.trans g3).trans g4, Ex.rfl, hB4, hA4, by rw [List.take_zero, List.map_nil, List.append_nil]; exact hd.mono (g3.b.trans g4.b)⟩, fun j m H' ⟨hm, hjl, B5, acc5, g5, x5, hB5, hA5, hd5⟩ => ?_⟩
      obtain ⟨i1, i2, i3⟩ := hJ1 B5 H' x5 g5.sub
      by_cases q5 : j < (es ds[i]).length
      · have hcj := List.getElem?_eq_getElem q5
        refine .inr ⟨i1 j q5, fun H'' => ∃ B' acc, Grow B1 H1 B' H'' ∧ Ex B4 B' ∧ B' D = none ∧ H'' D = some (.lst acc) ∧
          DDs B' acc (((ds.take i).flatMap fun d => (es d).map (f d)) ++ ((es ds[i]).take (j + 1)).map (f ds[i])), fun H'' z => ⟨(es ds[i]).length - (j + 1), by omega, rfl, by omega, z⟩, fun x H6 hy => ?_⟩
        obtain ⟨B6, g6, hx6⟩ := i3 j (es ds[i])[j] x H6 hcj hy
        obtain ⟨δ7, us, hg7, hw7, he7⟩ := he _ (List.mem_of_getElem? hcj)
        have env5 : EnvOk B5 H' B5 H' σ3 δ2 := (e3.grow g4).rebase hno x5 g5.sub
        refine hg7 _ _ _ _ _ _ ((env5.grow g6).wipe vs1) hx6 _ fun σ7 e7 o7 => ⟨by rw [wipe_only o7 hw7, wipe_wipe], ?_⟩
        refine he7 _ _ _ _ _ e7 _ fun v B8 H8 g8 hv => ?_
        have g68 := g6.trans g8
        have hA8 := g68.h _ _ hA5
        have hB8 := g68.out D (by rw [hA5]; intro z; cases z) hB5
        have g18 := g5.trans g68
        refine ⟨acc5, hA8, fl hd5 hdi, B8, acc5 ++ [v], ⟨g18.b, fun a o h => ?_, ex_upd g18.sub hB8, g18.out⟩, x5.trans g68.b, hB8, upd_same, ?_⟩
        · have : a ≠ D := fun z => by rw [z, hD] at h; cases h
          rw [upd_ne this]
          exact g18.h a o h
        · rw [take_succ_of hcj, List.map_append, ← List.append_assoc]
          exact (hd5.mono g68.b).append (DDs.one hv)
      · have : j = (es ds[i]).length := by omega
        subst this
        refine .inl ⟨i2, B5, acc5, g5, hB5, hA5, ?_⟩
        rw [take_succ_of hdi, List.flatMap_append, List.flatMap_cons, List.flatMap_nil, List.append_nil]
        rw [List.take_length] at hd5
        exact hd5
    · have : i = ds.length := by omega
      subst this
      rw [List.take_length] at hd
      exact .inl ⟨j2, k D acc B' H' (g1.trans g2) (ex_none g1.h hD) hB hA hd⟩
end

/-! ### defs -/
theorem spR_len {R : List Sl → Sl → Prop} {n : Nat} (h : ∀ as r, R as r → as.length = n) {vs : List V} {H : Hp} {Q : VK} {E : XK} (s : spR R vs H Q E) : vs.length = n := by
  obtain ⟨B, as, r, _, hv, hR, _⟩ := s
  rw [hv.length, h as r hR]
theorem env_start {B H : Hp} (e : Ex B H) {vs : List V} {as : List Sl} (hv : VsOk B vs as) (N : List Str) : EnvOk B H B H (L2.start N vs) (as ++ List.replicate (N.length - as.length) .no) := by
  have hl := hv.length
  have key : ∀ (i : Nat) (s : Sl), (as ++ List.replicate (N.length - as.length) Sl.no)[i]? = some s → s = .no ∨ ∃ v, (L2.start N vs)[i]? = some (some v) ∧ VOk B v s := fun i s h => by
    by_cases q : i < as.length
    · rw [List.getElem?_append_left q] at h
      obtain ⟨v, q1, q2⟩ := hv.get h
      refine .inr ⟨v, ?_, q2⟩
      unfold L2.start
      rw [List.getElem?_append_left (by rw [List.length_map, hl]; exact q), List.getElem?_map, q1]
      rfl
    · rw [List.getElem?_append_right (by omega)] at h
      exact .inl (List.eq_of_mem_replicate (List.mem_of_getElem? h))
  refine ⟨Grow.refl e, ?_, fun i s h => ?_, fun i j l ds es _ h _ _ => ?_⟩
  · unfold L2.start
    rw [List.length_append, List.length_append, List.length_map, List.length_replicate, List.length_replicate, hl]
  · rcases key i s h with rfl | ⟨v, q1, q2⟩
    · trivial
    · cases s with
      | no => trivial
      | d x => exact ⟨v, q1, q2⟩
      | ob φ => exact ⟨v, q1, q2⟩
      | own ds => exact q2.elim
  · rcases key i _ h with q | ⟨v, q1, q2⟩
    · cases q
    · exact q2.elim
theorem spR_run {R : List Sl → Sl → Prop} {N : List Str} {t : TS} {vs : List V} {H : Hp} {Q : VK} {E : XK} (s : spR R vs H Q E)
    (h : ∀ as r, R as r → ExS t (as ++ List.replicate (N.length - as.length) .no) { nx := fun _ => r = .d .none, rt := fun r' => r' = r }) : t { nx := fun _ H' => Q .non H', rt := Q } (L2.start N vs) H := by
  obtain ⟨B, as, r, e, hv, hR, k⟩ := s
  exact h as r hR _ _ _ _ _ (env_start e hv N) _ ⟨fun σ' B' H' δ' e' _ q => k .non B' H' e'.gr (by rw [q]; exact DD.non), fun v B' H' r' g _ hv q => k v B' H' g (by rw [← q]; exact hv), fun _ _ _ _ _ _ z => z.elim, fun _ _ _ _ _ _ z => z.elim⟩
end DL
set_option maxRecDepth 100000
set_option maxHeartbeats 4000000
/-! DL3: the layer's rules with K written out (so that a reading does not lean on the context), for the printed terms. -/
namespace DL
open PySem L2
section
variable {X : Cx} {K : PySem.W.Frag}
theorem k_ix (h : X.K = K) : IxR X (rIx K) := h ▸ ix_seq
theorem k_add (h : X.K = K) : OpR X (binaryOp .Add) (rAddG K) := h ▸ op_addG
theorem k_eq (h : X.K = K) (hu : X.A.units + 64 < cLine) : OpR X (compareOp .Eq) (rEqD K) := h ▸ op_eqD hu
theorem k_ne (h : X.K = K) (hu : X.A.units + 64 < cLine) : OpR X (compareOp .NotEq) (rNeD K) := h ▸ op_neD hu
theorem k_in (h : X.K = K) : OpR X (compareOp .In) (rIn K false) := h ▸ op_in_seq
theorem k_sl (h : X.K = K) : SlR X (rSlG K) := h ▸ sl_g
theorem k_len (h : X.K = K) : CallR X (.builtin "len") (rLenG K) := h ▸ call_lenG
theorem k_tup (h : X.K = K) : CallR X (.type "tuple") (rTupG K) := h ▸ call_tupG
theorem k_lst (h : X.K = K) : CallR X (.type "list") (rLstG K) := h ▸ call_lstG
theorem k_isi (h : X.K = K) : CallR X (.builtin "isinstance") (rIsi K) := h ▸ call_isi
theorem k_all (h : X.K = K) (hc : X.calm = true) : CallR X (.builtin "all") (rAll K) := h ▸ cr_all hc
theorem k_any (h : X.K = K) (hc : X.calm = true) : CallR X (.builtin "any") (rAny K) := h ▸ cr_any hc
variable {e o : Expr} {te : TE} {ta t : TA} {f : Str} {pos apos cpos p tpos : Pos} {tg : Expr} {elts es : List Expr} {kk : Nat}
theorem k_fld (h : X.K = K) (he : PE X e te) (hb : attributeBase e f X.env (eval e X.env) = eval e X.env) : PE X (.Attribute e f pos) (tFld K te f) := h ▸ pe_fld he hb
theorem k_sfld {o value : Expr} {ta tv : TE} {pos' : Pos} (h : X.K = K) (ha : PE X o ta) (hv : PE X value tv) (hs : swapsWith value (some (.Attribute o f pos')) pos.line X.env = pure false) : PS X (.Assign [.Attribute o f pos'] value pos) (sFld K ta tv f) := h ▸ ps_fld ha hv hs
theorem k_piL (h : X.K = K) (he : PE X e te) : PI X tg e (iList K te) := h ▸ pi_list he
theorem k_piT (h : X.K = K) (he : PE X e te) : PI X tg e (iTup K te) := h ▸ pi_tup he
theorem k_piZ {e e2 : Expr} (h : X.K = K) (hg : Gl X "zip") (hm : X.mg "zip" = none) (ha : PA X [e, e2] ta)
    (hs : starEach [e, e2] X.env = (false, eval e X.env) :: starEach [e2] X.env := by rfl) (hpl : (backTo pos (starEach [e2] X.env)).any (·.1) = false := by rfl) :
    PI X (.Tuple elts kk tpos) (.Call (.Name "zip" p) [e, e2] [] pos) (RZ.iZipA K ta) := h ▸ RZ.pi_zipA hg hm ha hs hpl
theorem k_piE (h : X.K = K) (hg : Gl X "enumerate") (hm : X.mg "enumerate" = none) (ha : PA X [e] ta) (hs : starEach [e] X.env = [(false, eval e X.env)] := by rfl) :
    PI X (.Tuple elts kk tpos) (.Call (.Name "enumerate" p) [e] [] pos) (iEnum K ta) := h ▸ pi_enum hg hm ha hs
theorem k_pgT {es : List Expr} {k : Nat} {t : TGs} {n : Nat} (hK : X.K = K) (hc : X.calm = true) (h : PGs X es t)
    (hn : (assignEach es X.env).length = n := by rfl) (hst : (assignEach es X.env).findIdx? (·.1) = none := by rfl) : PG X (.Tuple es k pos) (gTup K n t) := hK ▸ pg_tup hc h hn hst
theorem k_pgU {es : List Expr} {k : Nat} {t : TGs} {n : Nat} (hK : X.K = K) (hc : X.calm = true) (h : PGs X es t)
    (hn : (assignEach es X.env).length = n := by rfl) (hst : (assignEach es X.env).findIdx? (·.1) = none := by rfl) : PG X (.Tuple es k pos) (gUnl K n t) := hK ▸ pg_unl hc h hn hst
theorem k_app (hK : X.K = K) (ho : PE X o te) (ha : PA X (e :: es) t)
    (hbase : attributeBase o "append" X.env (eval o X.env) = eval o X.env := by rfl)
    (hfew : ((backTo cpos (starEach (e :: es) X.env)).all (fun x => !x.1) && (backToKw cpos (keywordEach [] X.env)).all (fun x => x.1.isSome)
      && decide ((e :: es).length + ([] : List Keyword).length + (if ([] : List Keyword).isEmpty then 0 else 1) < 30)) = true := by rfl)
    (hline : (apos.endLine == cpos.line) = true := by rfl) (hs : starEach (e :: es) X.env = (false, eval e X.env) :: starEach es X.env := by rfl) (hplain : (backTo cpos (starEach es X.env)).any (·.1) = false := by rfl) :
    PE X (.Call (.Attribute o "append" apos) (e :: es) [] cpos) (tBM K "list" rAppend te t) :=
  hK ▸ pe_bm PySem.F.plainAttrs_list PySem.F.slot_list_append PySem.F.type_list_append mt_append ho ha hbase hfew hline hs hplain
theorem k_ext (hK : X.K = K) (ho : PE X o te) (ha : PA X (e :: es) t)
    (hbase : attributeBase o "extend" X.env (eval o X.env) = eval o X.env := by rfl)
    (hfew : ((backTo cpos (starEach (e :: es) X.env)).all (fun x => !x.1) && (backToKw cpos (keywordEach [] X.env)).all (fun x => x.1.isSome)
      && decide ((e :: es).length + ([] : List Keyword).length + (if ([] : List Keyword).isEmpty then 0 else 1) < 30)) = true := by rfl)
    (hline : (apos.endLine == cpos.line) = true := by rfl) (hs : starEach (e :: es) X.env = (false, eval e X.env) :: starEach es X.env := by rfl) (hplain : (backTo cpos (starEach es X.env)).any (·.1) = false := by rfl) :
    PE X (.Call (.Attribute o "extend" apos) (e :: es) [] cpos) (tBM K "list" rExtend te t) :=
  hK ▸ pe_bm PySem.F.plainAttrs_list PySem.F.slot_list_extend PySem.F.type_list_extend mt_extend ho ha hbase hfew hline hs hplain
end
section
variable {δ : List Sl} {t u : TT} {te ta tb : TE}
theorem et_and0 (h : EvT t δ false) : EvT (tAnd t u) δ false := et_and (b := false) h (fun z => nomatch z)
theorem et_and1 {b : Bool} (h : EvT t δ true) (h2 : EvT u δ b) : EvT (tAnd t u) δ b := et_to (et_and h (fun _ => h2)) (Bool.true_and b)
theorem et_or1 (h : EvT t δ true) : EvT (tOr t u) δ true := et_or (b := true) h (fun z => nomatch z)
theorem et_or0 {b : Bool} (h : EvT t δ false) (h2 : EvT u δ b) : EvT (tOr t u) δ b := et_to (et_or h (fun _ => h2)) (Bool.false_or b)
theorem et_not' {a b : Bool} (h : EvT t δ a) (e : (!a) = b) : EvT (tNot t) δ b := et_to (et_not h) e
theorem et_tst {a b : Bool} (h : EvX te δ (.d (.bool a))) (e : a = b) : EvT (tTest te) δ b := et_to (et_test h) e
theorem et_tsB {a b : Bool} (h : EvX te δ (.d (.bool a))) (e : a = b) : EvT (tB te) δ b := et_to (et_B h) e
theorem ev_and0 (h : EvX ta δ (.d (.bool false))) : EvX (tAndV ta tb) δ (.d (.bool false)) := ev_andV (b := false) h (fun z => nomatch z)
theorem ev_and1 {b : Bool} (h : EvX ta δ (.d (.bool true))) (h2 : EvX tb δ (.d (.bool b))) : EvX (tAndV ta tb) δ (.d (.bool b)) := ev_to (ev_andV h (fun _ => h2)) (by rw [Bool.true_and])
theorem ev_bto {a b : Bool} (h : EvX te δ (.d (.bool a))) (e : a = b) : EvX te δ (.d (.bool b)) := e ▸ h
theorem ev_dto {a b : PyData} (h : EvX te δ (.d a)) (e : a = b) : EvX te δ (.d b) := e ▸ h
theorem xs_if1 {O : Out} {t1 u1 : TS} (h : EvT t δ true) (h1 : ExS t1 δ O) : ExS (tIfS t t1 u1) δ O := xs_if h (fun _ => h1) (fun z => nomatch z)
theorem xs_if0 {O : Out} {t1 u1 : TS} (h : EvT t δ false) (h1 : ExS u1 δ O) : ExS (tIfS t t1 u1) δ O := xs_if h (fun z => nomatch z) (fun _ => h1)
theorem ev_if1 {r : Sl} (h : EvT t δ true) (h1 : EvX ta δ r) : EvX (tIf t ta tb) δ r := ev_if h (fun _ => h1) (fun z => nomatch z)
theorem ev_if0 {r : Sl} (h : EvT t δ false) (h1 : EvX tb δ r) : EvX (tIf t ta tb) δ r := ev_if h (fun z => nomatch z) (fun _ => h1)
theorem xs_eq {O : Out} {t1 : TS} {δ' : List Sl} (h : δ = δ') (h1 : ExS t1 δ' O) : ExS t1 δ O := h ▸ h1
/-- an if without else, behind it the rest -/
theorem xs_skip {O : Out} {t1 u1 : TS} (h : EvT t δ false) (h1 : ExS u1 δ O) : ExS (tSeq (tIfS t t1 tNext) u1) δ O := xs_seq (xs_if0 h (xs_next h1))
theorem xs_give {O : Out} {te : TE} {r : Sl} {i : Nat} {u1 : TS} (h : EvX te δ r) (h1 : ExS u1 (δ.set i r) O) : ExS (tSeq (tAsg te (gName i)) u1) δ O := xs_seq (xs_asg h eg_name h1)
theorem xs_giveL {O : Out} {te : TE} {ds : List PyData} {i : Nat} {u1 : TS} (h : EvL te δ ds) (h1 : ExS u1 (δ.set i (.own ds)) O) : ExS (tSeq (tAsg te (gName i)) u1) δ O := xs_seq (xs_asgL h h1)
theorem xs_giveG {O : Out} {te : TE} {r : Sl} {g : TG} {δ' : List Sl} {ws : List Nat} {u1 : TS} (h : EvX te δ r) (hg : EvG g r δ δ' ws) (h1 : ExS u1 δ' O) : ExS (tSeq (tAsg te g) u1) δ O := xs_seq (xs_asg h hg h1)
end
/-! ### what the top has left -/
structure TxF (K : PySem.W.Frag) (mg : Str → Option Value) (x qual : Str) (st : Stmt) (ps : List Str) where
  f : Addr
  fd : FuncData
  F : Fun K x qual st f fd
  b : Binds K fd ps []
  g : mg x = some (.ref f)
structure TxM (K : PySem.W.Frag) (C : Addr) (x qual : Str) (st : Stmt) (ps : List Str) where
  f : Addr
  fd : FuncData
  F : Fun K x qual st f fd
  b : Binds K fd ps []
  m : Meth K C x f
structure TxI (K : PySem.W.Frag) (C : Addr) (x qual : Str) (st : Stmt) (ps : List Str) where
  f : Addr
  fd : FuncData
  F : Fun K x qual st f fd
  b : Binds K fd ps []
  m : Mk K C f
end DL
set_option maxRecDepth 100000
set_option maxHeartbeats 4000000
/-! DT: the defs of the text by their places (printed by gen.py). -/
namespace BK
open PySem L2 DL
def top (i : Nat) : Stmt := PySem.Challenge.pw_backstair_k26_whole_clean_runs.main.body.getD i (.Pass ⟨0, 0, 0, 0⟩)
abbrev s_is_integer : Stmt := top 8
abbrev N_is_integer : List Str := ["value", "least", "most"]
abbrev P_is_integer : List Str := ["value", "least", "most"]
theorem sc_is_integer : FnScope N_is_integer P_is_integer (defScope s_is_integer) := ⟨rfl, rfl, rfl, by decide +kernel, rfl, by decide +kernel, by decide +kernel⟩
abbrev s_trimmed : Stmt := top 9
abbrev N_trimmed : List Str := ["marks", "count"]
abbrev P_trimmed : List Str := ["marks"]
theorem sc_trimmed : FnScope N_trimmed P_trimmed (defScope s_trimmed) := ⟨rfl, rfl, rfl, by decide +kernel, rfl, by decide +kernel, by decide +kernel⟩
abbrev s_Tape_init : Stmt := inClass (top 10) 0
abbrev N_Tape_init : List Str := ["self", "marks", "states", "rows", "row"]
abbrev P_Tape_init : List Str := ["self", "marks", "states", "rows"]
theorem sc_Tape_init : FnScope N_Tape_init P_Tape_init (defScope s_Tape_init) := ⟨rfl, rfl, rfl, by decide +kernel, rfl, by decide +kernel, by decide +kernel⟩
abbrev s_Tape_is_row : Stmt := inClass (top 10) 1
abbrev N_Tape_is_row : List Str := ["self", "row"]
abbrev P_Tape_is_row : List Str := ["self", "row"]
theorem sc_Tape_is_row : FnScope N_Tape_is_row P_Tape_is_row (defScope s_Tape_is_row) := ⟨rfl, rfl, rfl, by decide +kernel, rfl, by decide +kernel, by decide +kernel⟩
abbrev s_Tape_table : Stmt := inClass (top 10) 2
abbrev N_Tape_table : List Str := ["self"]
abbrev P_Tape_table : List Str := ["self"]
theorem sc_Tape_table : FnScope N_Tape_table P_Tape_table (defScope s_Tape_table) := ⟨rfl, rfl, rfl, by decide +kernel, rfl, by decide +kernel, by decide +kernel⟩
abbrev s_Tape_row : Stmt := inClass (top 10) 3
abbrev N_Tape_row : List Str := ["self", "state", "mark"]
abbrev P_Tape_row : List Str := ["self", "state", "mark"]
theorem sc_Tape_row : FnScope N_Tape_row P_Tape_row (defScope s_Tape_row) := ⟨rfl, rfl, rfl, by decide +kernel, rfl, by decide +kernel, by decide +kernel⟩
abbrev s_is_number : Stmt := top 16
abbrev N_is_number : List Str := ["value", "least", "most"]
abbrev P_is_number : List Str := ["value", "least", "most"]
theorem sc_is_number : FnScope N_is_number P_is_number (defScope s_is_number) := ⟨rfl, rfl, rfl, by decide +kernel, rfl, by decide +kernel, by decide +kernel⟩
abbrev s_is_tuple : Stmt := top 17
abbrev N_is_tuple : List Str := ["value", "count", "least", "most", "one"]
abbrev P_is_tuple : List Str := ["value", "count", "least", "most"]
theorem sc_is_tuple : FnScope N_is_tuple P_is_tuple (defScope s_is_tuple) := ⟨rfl, rfl, rfl, by decide +kernel, rfl, by decide +kernel, by decide +kernel⟩
abbrev s_backward : Stmt := top 18
abbrev N_backward : List Str := ["row", "move"]
abbrev P_backward : List Str := ["row"]
theorem sc_backward : FnScope N_backward P_backward (defScope s_backward) := ⟨rfl, rfl, rfl, by decide +kernel, rfl, by decide +kernel, by decide +kernel⟩
abbrev s_first_clash : Stmt := top 19
abbrev N_first_clash : List Str := ["rows", "by_state", "found", "state", "at", "row", "pair"]
abbrev P_first_clash : List Str := ["rows"]
theorem sc_first_clash : FnScope N_first_clash P_first_clash (defScope s_first_clash) := ⟨rfl, rfl, rfl, by decide +kernel, rfl, by decide +kernel, by decide +kernel⟩
abbrev s_clash_among : Stmt := top 20
abbrev N_clash_among : List Str := ["rows", "indexes", "found", "known", "at", "first", "other", "reads"]
abbrev P_clash_among : List Str := ["rows", "indexes"]
theorem sc_clash_among : FnScope N_clash_among P_clash_among (defScope s_clash_among) := ⟨rfl, rfl, rfl, by decide +kernel, rfl, by decide +kernel, by decide +kernel⟩
abbrev s_Several_init : Stmt := inClass (top 21) 0
abbrev N_Several_init : List Str := ["self", "tapes", "marks", "states", "rows", "pair", "row"]
abbrev P_Several_init : List Str := ["self", "tapes", "marks", "states", "rows"]
theorem sc_Several_init : FnScope N_Several_init P_Several_init (defScope s_Several_init) := ⟨rfl, rfl, rfl, by decide +kernel, rfl, by decide +kernel, by decide +kernel⟩
abbrev s_Several_is_row : Stmt := inClass (top 21) 1
abbrev N_Several_is_row : List Str := ["self", "row"]
abbrev P_Several_is_row : List Str := ["self", "row"]
theorem sc_Several_is_row : FnScope N_Several_is_row P_Several_is_row (defScope s_Several_is_row) := ⟨rfl, rfl, rfl, by decide +kernel, rfl, by decide +kernel, by decide +kernel⟩
abbrev s_Several_step : Stmt := inClass (top 21) 7
abbrev N_Several_step : List Str := ["self", "configuration"]
abbrev P_Several_step : List Str := ["self", "configuration"]
theorem sc_Several_step : FnScope N_Several_step P_Several_step (defScope s_Several_step) := ⟨rfl, rfl, rfl, by decide +kernel, rfl, by decide +kernel, by decide +kernel⟩
abbrev s_Several_stopped : Stmt := inClass (top 21) 8
abbrev N_Several_stopped : List Str := ["self", "configuration"]
abbrev P_Several_stopped : List Str := ["self", "configuration"]
theorem sc_Several_stopped : FnScope N_Several_stopped P_Several_stopped (defScope s_Several_stopped) := ⟨rfl, rfl, rfl, by decide +kernel, rfl, by decide +kernel, by decide +kernel⟩
abbrev s_Several_run : Stmt := inClass (top 21) 9
abbrev N_Several_run : List Str := ["self", "configuration", "steps"]
abbrev P_Several_run : List Str := ["self", "configuration", "steps"]
theorem sc_Several_run : FnScope N_Several_run P_Several_run (defScope s_Several_run) := ⟨rfl, rfl, rfl, by decide +kernel, rfl, by decide +kernel, by decide +kernel⟩
abbrev s_Several_back : Stmt := inClass (top 21) 10
abbrev N_Several_back : List Str := ["self", "configuration"]
abbrev P_Several_back : List Str := ["self", "configuration"]
theorem sc_Several_back : FnScope N_Several_back P_Several_back (defScope s_Several_back) := ⟨rfl, rfl, rfl, by decide +kernel, rfl, by decide +kernel, by decide +kernel⟩
abbrev s_Several_run_back : Stmt := inClass (top 21) 11
abbrev N_Several_run_back : List Str := ["self", "configuration", "steps"]
abbrev P_Several_run_back : List Str := ["self", "configuration", "steps"]
theorem sc_Several_run_back : FnScope N_Several_run_back P_Several_run_back (defScope s_Several_run_back) := ⟨rfl, rfl, rfl, by decide +kernel, rfl, by decide +kernel, by decide +kernel⟩
abbrev s_Several_check_back : Stmt := inClass (top 21) 12
abbrev N_Several_check_back : List Str := ["self"]
abbrev P_Several_check_back : List Str := ["self"]
theorem sc_Several_check_back : FnScope N_Several_check_back P_Several_check_back (defScope s_Several_check_back) := ⟨rfl, rfl, rfl, by decide +kernel, rfl, by decide +kernel, by decide +kernel⟩
abbrev s_table_of : Stmt := top 22
abbrev N_table_of : List Str := ["rows", "found", "row"]
abbrev P_table_of : List Str := ["rows"]
theorem sc_table_of : FnScope N_table_of P_table_of (defScope s_table_of) := ⟨rfl, rfl, rfl, by decide +kernel, rfl, by decide +kernel, by decide +kernel⟩
abbrev s_moved_tape : Stmt := top 23
abbrev N_moved_tape : List Str := ["tape", "move", "left", "mark", "right"]
abbrev P_moved_tape : List Str := ["tape", "move"]
theorem sc_moved_tape : FnScope N_moved_tape P_moved_tape (defScope s_moved_tape) := ⟨rfl, rfl, rfl, by decide +kernel, rfl, by decide +kernel, by decide +kernel⟩
abbrev s_taken : Stmt := top 24
abbrev N_taken : List Str := ["table", "configuration", "entry", "state", "tapes", "moves", "following", "writing", "tape", "mark", "move"]
abbrev P_taken : List Str := ["table", "configuration"]
theorem sc_taken : FnScope N_taken P_taken (defScope s_taken) := ⟨rfl, rfl, rfl, by decide +kernel, rfl, by decide +kernel, by decide +kernel⟩
abbrev s_run : Stmt := top 25
abbrev N_run : List Str := ["table", "configuration", "steps", "count", "after"]
abbrev P_run : List Str := ["table", "configuration", "steps"]
theorem sc_run : FnScope N_run P_run (defScope s_run) := ⟨rfl, rfl, rfl, by decide +kernel, rfl, by decide +kernel, by decide +kernel⟩
abbrev s_pairs_of : Stmt := top 27
abbrev N_pairs_of : List Str := ["machine", "found", "state", "mark", "row"]
abbrev P_pairs_of : List Str := ["machine"]
theorem sc_pairs_of : FnScope N_pairs_of P_pairs_of (defScope s_pairs_of) := ⟨rfl, rfl, rfl, by decide +kernel, rfl, by decide +kernel, by decide +kernel⟩
abbrev s_answer_of : Stmt := top 30
abbrev N_answer_of : List Str := ["configuration", "row", "_", "mark", "right"]
abbrev P_answer_of : List Str := ["configuration"]
theorem sc_answer_of : FnScope N_answer_of P_answer_of (defScope s_answer_of) := ⟨rfl, rfl, rfl, by decide +kernel, rfl, by decide +kernel, by decide +kernel⟩
abbrev s_Numbers_init : Stmt := inClass (top 31) 0
abbrev N_Numbers_init : List Str := ["self", "machine"]
abbrev P_Numbers_init : List Str := ["self", "machine"]
theorem sc_Numbers_init : FnScope N_Numbers_init P_Numbers_init (defScope s_Numbers_init) := ⟨rfl, rfl, rfl, by decide +kernel, rfl, by decide +kernel, by decide +kernel⟩
abbrev s_Numbers_enter : Stmt := inClass (top 31) 1
abbrev N_Numbers_enter : List Str := ["self", "state"]
abbrev P_Numbers_enter : List Str := ["self", "state"]
theorem sc_Numbers_enter : FnScope N_Numbers_enter P_Numbers_enter (defScope s_Numbers_enter) := ⟨rfl, rfl, rfl, by decide +kernel, rfl, by decide +kernel, by decide +kernel⟩
abbrev s_Numbers_at : Stmt := inClass (top 31) 2
abbrev N_Numbers_at : List Str := ["self", "state"]
abbrev P_Numbers_at : List Str := ["self", "state"]
theorem sc_Numbers_at : FnScope N_Numbers_at P_Numbers_at (defScope s_Numbers_at) := ⟨rfl, rfl, rfl, by decide +kernel, rfl, by decide +kernel, by decide +kernel⟩
abbrev s_Numbers_go : Stmt := inClass (top 31) 3
abbrev N_Numbers_go : List Str := ["self", "p"]
abbrev P_Numbers_go : List Str := ["self", "p"]
theorem sc_Numbers_go : FnScope N_Numbers_go P_Numbers_go (defScope s_Numbers_go) := ⟨rfl, rfl, rfl, by decide +kernel, rfl, by decide +kernel, by decide +kernel⟩
abbrev s_Numbers_note : Stmt := inClass (top 31) 4
abbrev N_Numbers_note : List Str := ["self", "p"]
abbrev P_Numbers_note : List Str := ["self", "p"]
theorem sc_Numbers_note : FnScope N_Numbers_note P_Numbers_note (defScope s_Numbers_note) := ⟨rfl, rfl, rfl, by decide +kernel, rfl, by decide +kernel, by decide +kernel⟩
abbrev s_Numbers_copying : Stmt := inClass (top 31) 5
abbrev N_Numbers_copying : List Str := ["self", "k"]
abbrev P_Numbers_copying : List Str := ["self", "k"]
theorem sc_Numbers_copying : FnScope N_Numbers_copying P_Numbers_copying (defScope s_Numbers_copying) := ⟨rfl, rfl, rfl, by decide +kernel, rfl, by decide +kernel, by decide +kernel⟩
abbrev s_Numbers_back_at : Stmt := inClass (top 31) 6
abbrev N_Numbers_back_at : List Str := ["self", "state"]
abbrev P_Numbers_back_at : List Str := ["self", "state"]
theorem sc_Numbers_back_at : FnScope N_Numbers_back_at P_Numbers_back_at (defScope s_Numbers_back_at) := ⟨rfl, rfl, rfl, by decide +kernel, rfl, by decide +kernel, by decide +kernel⟩
abbrev s_Numbers_back_enter : Stmt := inClass (top 31) 7
abbrev N_Numbers_back_enter : List Str := ["self", "state"]
abbrev P_Numbers_back_enter : List Str := ["self", "state"]
theorem sc_Numbers_back_enter : FnScope N_Numbers_back_enter P_Numbers_back_enter (defScope s_Numbers_back_enter) := ⟨rfl, rfl, rfl, by decide +kernel, rfl, by decide +kernel, by decide +kernel⟩
abbrev s_Numbers_back_note : Stmt := inClass (top 31) 8
abbrev N_Numbers_back_note : List Str := ["self", "p"]
abbrev P_Numbers_back_note : List Str := ["self", "p"]
theorem sc_Numbers_back_note : FnScope N_Numbers_back_note P_Numbers_back_note (defScope s_Numbers_back_note) := ⟨rfl, rfl, rfl, by decide +kernel, rfl, by decide +kernel, by decide +kernel⟩
abbrev s_Numbers_back_go : Stmt := inClass (top 31) 9
abbrev N_Numbers_back_go : List Str := ["self", "p"]
abbrev P_Numbers_back_go : List Str := ["self", "p"]
theorem sc_Numbers_back_go : FnScope N_Numbers_back_go P_Numbers_back_go (defScope s_Numbers_back_go) := ⟨rfl, rfl, rfl, by decide +kernel, rfl, by decide +kernel, by decide +kernel⟩
abbrev s_same : Stmt := top 32
abbrev N_same : List Str := ["state", "reads", "following"]
abbrev P_same : List Str := ["state", "reads", "following"]
theorem sc_same : FnScope N_same P_same (defScope s_same) := ⟨rfl, rfl, rfl, by decide +kernel, rfl, by decide +kernel, by decide +kernel⟩
abbrev s_forth : Stmt := top 33
abbrev N_forth : List Str := ["numbers", "machine", "marks", "rows", "state", "a", "row", "p", "c", "q"]
abbrev P_forth : List Str := ["numbers"]
theorem sc_forth : FnScope N_forth P_forth (defScope s_forth) := ⟨rfl, rfl, rfl, by decide +kernel, rfl, by decide +kernel, by decide +kernel⟩
abbrev s_copying : Stmt := top 34
abbrev N_copying : List Str := ["numbers", "marks", "some", "rows", "halt", "first", "look", "aside", "copy", "on", "copied", "turn", "left", "seen", "home", "k", "a", "b", "x"]
abbrev P_copying : List Str := ["numbers"]
theorem sc_copying : FnScope N_copying P_copying (defScope s_copying) := ⟨rfl, rfl, rfl, by decide +kernel, rfl, by decide +kernel, by decide +kernel⟩
abbrev s_back : Stmt := top 35
abbrev N_back : List Str := ["numbers", "machine", "marks", "rows", "state", "a", "p", "mark", "c", "written", "move", "following", "q"]
abbrev P_back : List Str := ["numbers"]
theorem sc_back : FnScope N_back P_back (defScope s_back) := ⟨rfl, rfl, rfl, by decide +kernel, rfl, by decide +kernel, by decide +kernel⟩
abbrev s_clean : Stmt := top 36
abbrev N_clean : List Str := ["machine", "numbers", "rows"]
abbrev P_clean : List Str := ["machine"]
theorem sc_clean : FnScope N_clean P_clean (defScope s_clean) := ⟨rfl, rfl, rfl, by decide +kernel, rfl, by decide +kernel, by decide +kernel⟩
abbrev s_clean_begin : Stmt := top 37
abbrev N_clean_begin : List Str := ["configuration", "_", "left", "mark", "right"]
abbrev P_clean_begin : List Str := ["configuration"]
theorem sc_clean_begin : FnScope N_clean_begin P_clean_begin (defScope s_clean_begin) := ⟨rfl, rfl, rfl, by decide +kernel, rfl, by decide +kernel, by decide +kernel⟩
abbrev s_clean_end : Stmt := top 38
abbrev N_clean_end : List Str := ["machine", "configuration", "answer", "_", "left", "mark", "right"]
abbrev P_clean_end : List Str := ["machine", "configuration", "answer"]
theorem sc_clean_end : FnScope N_clean_end P_clean_end (defScope s_clean_end) := ⟨rfl, rfl, rfl, by decide +kernel, rfl, by decide +kernel, by decide +kernel⟩
abbrev s_shown : Stmt := top 39
abbrev N_shown : List Str := ["machine", "configuration", "numbers", "q", "state", "tapes"]
abbrev P_shown : List Str := ["machine", "configuration"]
theorem sc_shown : FnScope N_shown P_shown (defScope s_shown) := ⟨rfl, rfl, rfl, by decide +kernel, rfl, by decide +kernel, by decide +kernel⟩
abbrev s_lent : Stmt := top 40
abbrev N_lent : List Str := ["configuration", "left", "mark", "right", "one"]
abbrev P_lent : List Str := ["configuration"]
theorem sc_lent : FnScope N_lent P_lent (defScope s_lent) := ⟨rfl, rfl, rfl, by decide +kernel, rfl, by decide +kernel, by decide +kernel⟩
abbrev s_law_draws : Stmt := top 42
abbrev N_law_draws : List Str := ["_law_script", "_law_many", "_law_draws_here", "_law_seed", "_law_cell", "_law_k", "_law_number"]
abbrev P_law_draws : List Str := ["_law_script", "_law_many"]
theorem sc_law_draws : FnScope N_law_draws P_law_draws (defScope s_law_draws) := ⟨rfl, rfl, rfl, by decide +kernel, rfl, by decide +kernel, by decide +kernel⟩
abbrev s_law_machine : Stmt := top 43
abbrev N_law_machine : List Str := ["_law_draws_here", "_law_marks", "_law_states", "_law_rows", "_law_k", "_law_draw", "_law_row"]
abbrev P_law_machine : List Str := ["_law_draws_here", "_law_marks", "_law_states"]
theorem sc_law_machine : FnScope N_law_machine P_law_machine (defScope s_law_machine) := ⟨rfl, rfl, rfl, by decide +kernel, rfl, by decide +kernel, by decide +kernel⟩
abbrev s_law_trimmed : Stmt := top 44
abbrev N_law_trimmed : List Str := ["_law_marks", "_law_k"]
abbrev P_law_trimmed : List Str := ["_law_marks"]
theorem sc_law_trimmed : FnScope N_law_trimmed P_law_trimmed (defScope s_law_trimmed) := ⟨rfl, rfl, rfl, by decide +kernel, rfl, by decide +kernel, by decide +kernel⟩
abbrev s_law_configuration : Stmt := top 45
abbrev N_law_configuration : List Str := ["_law_draws_here", "_law_marks", "_law_states", "_law_most", "_law_left", "_law_right", "_law_k"]
abbrev P_law_configuration : List Str := ["_law_draws_here", "_law_marks", "_law_states", "_law_most"]
theorem sc_law_configuration : FnScope N_law_configuration P_law_configuration (defScope s_law_configuration) := ⟨rfl, rfl, rfl, by decide +kernel, rfl, by decide +kernel, by decide +kernel⟩
abbrev s_law_step : Stmt := top 46
abbrev N_law_step : List Str := ["_law_rows", "_law_marks", "_law_configuration_here", "_law_row", "_law_state", "_law_left", "_law_mark", "_law_right"]
abbrev P_law_step : List Str := ["_law_rows", "_law_marks", "_law_configuration_here"]
theorem sc_law_step : FnScope N_law_step P_law_step (defScope s_law_step) := ⟨rfl, rfl, rfl, by decide +kernel, rfl, by decide +kernel, by decide +kernel⟩
abbrev s_law_notes : Stmt := top 47
abbrev N_law_notes : List Str := ["_law_k", "_law_taken", "_law_steps"]
abbrev P_law_notes : List Str := ["_law_k", "_law_taken", "_law_steps"]
theorem sc_law_notes : FnScope N_law_notes P_law_notes (defScope s_law_notes) := ⟨rfl, rfl, rfl, by decide +kernel, rfl, by decide +kernel, by decide +kernel⟩
abbrev s_law_answer : Stmt := top 48
abbrev N_law_answer : List Str := ["_law_configuration_here", "_law_row", "_law_answer_here", "_law_k"]
abbrev P_law_answer : List Str := ["_law_configuration_here"]
theorem sc_law_answer : FnScope N_law_answer P_law_answer (defScope s_law_answer) := ⟨rfl, rfl, rfl, by decide +kernel, rfl, by decide +kernel, by decide +kernel⟩
abbrev s_law_off_the_run : Stmt := top 49
abbrev N_law_off_the_run : List Str := ["_law_machine_here", "_law_draws_here", "_law_marks", "_law_states", "_law_end", "_law_state", "_law_tapes", "_law_k", "_law_due", "_law_here", "_law_many", "_law_notes_here", "_law_row", "_law_j", "_law_one"]
abbrev P_law_off_the_run : List Str := ["_law_machine_here", "_law_draws_here", "_law_marks", "_law_states"]
theorem sc_law_off_the_run : FnScope N_law_off_the_run P_law_off_the_run (defScope s_law_off_the_run) := ⟨rfl, rfl, rfl, by decide +kernel, rfl, by decide +kernel, by decide +kernel⟩
abbrev s_law : Stmt := top 50
abbrev N_law : List Str := ["_law_script", "_law_draws_here", "_law_rows", "_law_machine_here", "_law_here", "_law_run", "_law_k", "_law_answer_here", "_law_lower", "_law_steps", "_law_due", "_law_t", "_law_low", "_law_marks", "_law_states", "_law_after", "_law_taken", "_law_many", "_law_begin", "_law_end", "_law_notes_here"]
abbrev P_law : List Str := ["_law_script"]
theorem sc_law : FnScope N_law P_law (defScope s_law) := ⟨rfl, rfl, rfl, by decide +kernel, rfl, by decide +kernel, by decide +kernel⟩
structure Txt (K : PySem.W.Frag) (mg : Str → Option Value) where
  b_isinstance : mg "isinstance" = none
  b_int : mg "int" = none
  b_bool : mg "bool" = none
  b_len : mg "len" = none
  b_tuple : mg "tuple" = none
  b_list : mg "list" = none
  b_range : mg "range" = none
  b_any : mg "any" = none
  b_all : mg "all" = none
  b_enumerate : mg "enumerate" = none
  b_zip : mg "zip" = none
  b_abs : mg "abs" = none
  t_MOST_MARKS_tape : Tok
  c_MOST_MARKS_tape : mg "MOST_MARKS_tape" = some (.int 8 t_MOST_MARKS_tape)
  t_MOST_STATES_tape : Tok
  c_MOST_STATES_tape : mg "MOST_STATES_tape" = some (.int 40 t_MOST_STATES_tape)
  t_MOST_TAPES : Tok
  c_MOST_TAPES : mg "MOST_TAPES" = some (.int 4 t_MOST_TAPES)
  t_MOST_MARKS_several : Tok
  c_MOST_MARKS_several : mg "MOST_MARKS_several" = some (.int 400 t_MOST_MARKS_several)
  t_MOST_STATES_several : Tok
  c_MOST_STATES_several : mg "MOST_STATES_several" = some (.int 5000 t_MOST_STATES_several)
  t_MOST_ROWS : Tok
  c_MOST_ROWS : mg "MOST_ROWS" = some (.int 20000 t_MOST_ROWS)
  t_COPYING : Tok
  c_COPYING : mg "COPYING" = some (.int 11 t_COPYING)
  C_Tape : Addr
  cl_Tape : Cls K C_Tape
  g_Tape : mg "Tape" = some (.ref C_Tape)
  n_Tape_marks : NoAttr K C_Tape "marks"
  n_Tape_states : NoAttr K C_Tape "states"
  n_Tape_rows : NoAttr K C_Tape "_rows"
  C_Several : Addr
  cl_Several : Cls K C_Several
  g_Several : mg "Several" = some (.ref C_Several)
  n_Several_tapes : NoAttr K C_Several "tapes"
  n_Several_marks : NoAttr K C_Several "marks"
  n_Several_states : NoAttr K C_Several "states"
  n_Several_rows : NoAttr K C_Several "_rows"
  n_Several_back_clash : NoAttr K C_Several "_back_clash"
  n_Several_by_state : NoAttr K C_Several "_by_state"
  n_Several_by_next : NoAttr K C_Several "_by_next"
  C_Numbers : Addr
  cl_Numbers : Cls K C_Numbers
  g_Numbers : mg "Numbers" = some (.ref C_Numbers)
  n_Numbers_machine : NoAttr K C_Numbers "machine"
  n_Numbers_states : NoAttr K C_Numbers "states"
  n_Numbers_pairs : NoAttr K C_Numbers "pairs"
  n_Numbers_halt : NoAttr K C_Numbers "halt"
  n_Numbers_undo : NoAttr K C_Numbers "undo"
  n_Numbers_end : NoAttr K C_Numbers "end"
  is_integer : TxF K mg "is_integer" "is_integer" s_is_integer P_is_integer
  trimmed : TxF K mg "trimmed" "trimmed" s_trimmed P_trimmed
  Tape_init : TxI K C_Tape "__init__" "Tape.__init__" s_Tape_init P_Tape_init
  Tape_is_row : TxM K C_Tape "_is_row" "Tape._is_row" s_Tape_is_row P_Tape_is_row
  Tape_table : TxM K C_Tape "table" "Tape.table" s_Tape_table P_Tape_table
  Tape_row : TxM K C_Tape "row" "Tape.row" s_Tape_row P_Tape_row
  is_number : TxF K mg "is_number" "is_number" s_is_number P_is_number
  is_tuple : TxF K mg "is_tuple" "is_tuple" s_is_tuple P_is_tuple
  backward : TxF K mg "backward" "backward" s_backward P_backward
  first_clash : TxF K mg "first_clash" "first_clash" s_first_clash P_first_clash
  clash_among : TxF K mg "_clash_among" "_clash_among" s_clash_among P_clash_among
  Several_init : TxI K C_Several "__init__" "Several.__init__" s_Several_init P_Several_init
  Several_is_row : TxM K C_Several "_is_row" "Several._is_row" s_Several_is_row P_Several_is_row
  Several_step : TxM K C_Several "step" "Several.step" s_Several_step P_Several_step
  Several_stopped : TxM K C_Several "stopped" "Several.stopped" s_Several_stopped P_Several_stopped
  Several_run : TxM K C_Several "run" "Several.run" s_Several_run P_Several_run
  Several_back : TxM K C_Several "back" "Several.back" s_Several_back P_Several_back
  Several_run_back : TxM K C_Several "run_back" "Several.run_back" s_Several_run_back P_Several_run_back
  Several_check_back : TxM K C_Several "_check_back" "Several._check_back" s_Several_check_back P_Several_check_back
  table_of : TxF K mg "_table_of" "_table_of" s_table_of P_table_of
  moved_tape : TxF K mg "moved_tape" "moved_tape" s_moved_tape P_moved_tape
  taken : TxF K mg "_taken" "_taken" s_taken P_taken
  run : TxF K mg "_run" "_run" s_run P_run
  pairs_of : TxF K mg "pairs_of" "pairs_of" s_pairs_of P_pairs_of
  answer_of : TxF K mg "answer_of" "answer_of" s_answer_of P_answer_of
  Numbers_init : TxI K C_Numbers "__init__" "Numbers.__init__" s_Numbers_init P_Numbers_init
  Numbers_enter : TxM K C_Numbers "enter" "Numbers.enter" s_Numbers_enter P_Numbers_enter
  Numbers_at : TxM K C_Numbers "at" "Numbers.at" s_Numbers_at P_Numbers_at
  Numbers_go : TxM K C_Numbers "go" "Numbers.go" s_Numbers_go P_Numbers_go
  Numbers_note : TxM K C_Numbers "note" "Numbers.note" s_Numbers_note P_Numbers_note
  Numbers_copying : TxM K C_Numbers "copying" "Numbers.copying" s_Numbers_copying P_Numbers_copying
  Numbers_back_at : TxM K C_Numbers "back_at" "Numbers.back_at" s_Numbers_back_at P_Numbers_back_at
  Numbers_back_enter : TxM K C_Numbers "back_enter" "Numbers.back_enter" s_Numbers_back_enter P_Numbers_back_enter
  Numbers_back_note : TxM K C_Numbers "back_note" "Numbers.back_note" s_Numbers_back_note P_Numbers_back_note
  Numbers_back_go : TxM K C_Numbers "back_go" "Numbers.back_go" s_Numbers_back_go P_Numbers_back_go
  same : TxF K mg "_same" "_same" s_same P_same
  forth : TxF K mg "_forth" "_forth" s_forth P_forth
  copying : TxF K mg "_copying" "_copying" s_copying P_copying
  back : TxF K mg "_back" "_back" s_back P_back
  clean : TxF K mg "clean" "clean" s_clean P_clean
  clean_begin : TxF K mg "clean_begin" "clean_begin" s_clean_begin P_clean_begin
  clean_end : TxF K mg "clean_end" "clean_end" s_clean_end P_clean_end
  shown : TxF K mg "shown" "shown" s_shown P_shown
  lent : TxF K mg "lent" "lent" s_lent P_lent
  law_draws : TxF K mg "_law_draws" "_law_draws" s_law_draws P_law_draws
  law_machine : TxF K mg "_law_machine" "_law_machine" s_law_machine P_law_machine
  law_trimmed : TxF K mg "_law_trimmed" "_law_trimmed" s_law_trimmed P_law_trimmed
  law_configuration : TxF K mg "_law_configuration" "_law_configuration" s_law_configuration P_law_configuration
  law_step : TxF K mg "_law_step" "_law_step" s_law_step P_law_step
  law_notes : TxF K mg "_law_notes" "_law_notes" s_law_notes P_law_notes
  law_answer : TxF K mg "_law_answer" "_law_answer" s_law_answer P_law_answer
  law_off_the_run : TxF K mg "_law_off_the_run" "_law_off_the_run" s_law_off_the_run P_law_off_the_run
  law : TxF K mg "law" "law" s_law P_law
end BK
/-! M1: the plain words: marks, tapes, the ordinary machine, the rows of the clean machine. -/
namespace CM
/-- the marks without the blanks at the end -/
def trim : List Int → List Int
  | [] => []
  | a :: l => if trim l = [] ∧ a = 0 then [] else a :: trim l
theorem trim_nil : trim [] = [] := rfl
theorem trim_cons (a : Int) (l : List Int) : trim (a :: l) = if trim l = [] ∧ a = 0 then [] else a :: trim l := rfl
theorem trim_snoc0 : ∀ l : List Int, trim (l ++ [0]) = trim l
  | [] => by simp [trim]
  | a :: l => by rw [List.cons_append, trim_cons, trim_cons, trim_snoc0 l]
theorem trim_snoc {a : Int} (h : a ≠ 0) : ∀ l : List Int, trim (l ++ [a]) = l ++ [a]
  | [] => by simp [trim, h]
  | b :: l => by
    rw [List.cons_append, trim_cons, trim_snoc h l]
    have : ¬ (l ++ [a] = [] ∧ b = 0) := fun z => by simp at z
    rw [if_neg this]
theorem trim_length : ∀ l : List Int, (trim l).length ≤ l.length
  | [] => Nat.le_refl _
  | a :: l => by
    rw [trim_cons]
    have := trim_length l
    split <;> simp <;> omega
theorem trim_trim : ∀ l : List Int, trim (trim l) = trim l
  | [] => rfl
  | a :: l => by
    rw [trim_cons]
    by_cases h : trim l = [] ∧ a = 0
    · rw [if_pos h]; rfl
    · rw [if_neg h, trim_cons, trim_trim l, if_neg h]
theorem trim_mem {a : Int} : ∀ {l : List Int}, a ∈ trim l → a ∈ l
  | [], h => by simp [trim] at h
  | b :: l, h => by
    rw [trim_cons] at h
    split at h
    · simp at h
    · rcases List.mem_cons.mp h with h | h
      · rw [h]; exact List.mem_cons_self
      · exact List.mem_cons_of_mem _ (trim_mem h)
/-- the last count of them, as the program cuts -/
theorem trim_take {l : List Int} {n : Nat} {a : Int} (h : l[n]? = some a) (h0 : a = 0) : trim (l.take (n + 1)) = trim (l.take n) := by
  obtain ⟨hn, rfl⟩ := List.getElem?_eq_some_iff.mp h
  rw [List.take_succ_eq_append_getElem hn, h0]
  exact trim_snoc0 _
theorem trim_take' {l : List Int} {n : Nat} {a : Int} (h : l[n]? = some a) (h0 : a ≠ 0) : trim (l.take (n + 1)) = l.take (n + 1) := by
  obtain ⟨hn, rfl⟩ := List.getElem?_eq_some_iff.mp h
  rw [List.take_succ_eq_append_getElem hn]
  exact trim_snoc h0 _
/-- a tape: the marks to the left, the nearest first, the mark, the marks to the right -/
structure Tp where
  l : List Int
  m : Int
  r : List Int
/-- the tape with its head moved -/
def mv (t : Tp) (d : Int) : Tp :=
  if d = 1 then ⟨trim (t.m :: t.l), t.r.headD 0, t.r.tail⟩ else if d = -1 then ⟨t.l.tail, t.l.headD 0, trim (t.m :: t.r)⟩ else t
/-- a configuration of a machine of three tapes -/
structure Cf where
  st : Int
  t0 : Tp
  t1 : Tp
  t2 : Tp
/-- its rows -/
inductive Rw where
  | w (st a0 a1 a2 b0 b1 b2 nx : Int)
  | m (st d0 d1 d2 nx : Int)
def Rw.st : Rw → Int
  | .w st _ _ _ _ _ _ _ => st
  | .m st _ _ _ _ => st
def Rw.nx : Rw → Int
  | .w _ _ _ _ _ _ _ nx => nx
  | .m _ _ _ _ nx => nx
/-- the row backwards -/
def Rw.bw : Rw → Rw
  | .w st a0 a1 a2 b0 b1 b2 nx => .w nx b0 b1 b2 a0 a1 a2 st
  | .m st d0 d1 d2 nx => .m nx (-d0) (-d1) (-d2) st
/-- the row applies; what it makes -/
def Rw.on : Rw → Cf → Prop
  | .w st a0 a1 a2 _ _ _ _, c => c.st = st ∧ c.t0.m = a0 ∧ c.t1.m = a1 ∧ c.t2.m = a2
  | .m st _ _ _ _, c => c.st = st
def Rw.go : Rw → Cf → Cf
  | .w _ _ _ _ b0 b1 b2 nx, c => ⟨nx, ⟨c.t0.l, b0, c.t0.r⟩, ⟨c.t1.l, b1, c.t1.r⟩, ⟨c.t2.l, b2, c.t2.r⟩⟩
  | .m _ d0 d1 d2 nx, c => ⟨nx, mv c.t0 d0, mv c.t1 d1, mv c.t2 d2⟩
def Rw.isW : Rw → Bool
  | .w _ _ _ _ _ _ _ _ => true
  | .m _ _ _ _ _ => false
/-- what a write row reads -/
def Rw.rd : Rw → List Int
  | .w _ a0 a1 a2 _ _ _ _ => [a0, a1, a2]
  | .m _ _ _ _ _ => []
/-- two rows do not clash (forwards) -/
def Rw.ok : Rw → Rw → Prop
  | .w s a0 a1 a2 _ _ _ _, .w s' c0 c1 c2 _ _ _ _ => s = s' → ¬ (a0 = c0 ∧ a1 = c1 ∧ a2 = c2)
  | r, r' => r.st ≠ r'.st
/-- an ordinary machine -/
structure Mach where
  m : Nat
  s : Nat
  rows : List (Option (Int × Int × Int))
/-- the machines of the law -/
structure Mach.Ok (M : Mach) : Prop where
  m2 : 2 ≤ M.m
  m8 : M.m ≤ 8
  s1 : 1 ≤ M.s
  s40 : M.s ≤ 40
  len : M.rows.length = M.m * M.s
  row : ∀ b d t, some (b, d, t) ∈ M.rows → 0 ≤ b ∧ b < M.m ∧ (d = -1 ∨ d = 1) ∧ 0 ≤ t ∧ t < M.s
def Mach.at_ (M : Mach) (q a : Nat) : Option (Int × Int × Int) := (M.rows[q * M.m + a]?).join
theorem Mach.Ok.lt {M : Mach} (h : M.Ok) {q a : Nat} (hq : q < M.s) (ha : a < M.m) : q * M.m + a < M.rows.length := by
  rw [h.len]
  have : q * M.m + M.m ≤ M.s * M.m := by
    rw [← Nat.succ_mul]
    exact Nat.mul_le_mul_right _ hq
  rw [Nat.mul_comm M.m M.s]
  omega
theorem Mach.Ok.at_mem {M : Mach} (h : M.Ok) {q a : Nat} (hq : q < M.s) (ha : a < M.m) : M.rows[q * M.m + a]? = some (M.at_ q a) := by
  unfold Mach.at_
  rw [List.getElem?_eq_getElem (h.lt hq ha)]
  rfl
/-! the numbers of the states -/
section
variable (M : Mach)
def Mach.pairs : Int := M.m * M.s
def Mach.halt : Int := 1 + 2 * M.s + 2 * M.pairs
def Mach.undo : Int := M.halt + 11
def Mach.end_ : Int := M.undo + 1 + 2 * M.s + 2 * M.pairs
def Mach.enter (_ : Mach) (q : Int) : Int := 1 + q
def Mach.at' (q : Int) : Int := 1 + M.s + q
def Mach.go (p : Int) : Int := 1 + 2 * M.s + p
def Mach.note (p : Int) : Int := 1 + 2 * M.s + M.pairs + p
def Mach.bat (q : Int) : Int := M.undo + 1 + q
def Mach.benter (q : Int) : Int := M.undo + 1 + M.s + q
def Mach.bnote (p : Int) : Int := M.undo + 1 + 2 * M.s + p
def Mach.bgo (p : Int) : Int := M.undo + 1 + 2 * M.s + M.pairs + p
def Mach.p (q a : Nat) : Int := M.m * q + a
/-- 0, 1, .. below n -/
def ns (n : Nat) : List Int := (List.range n).map fun (i : Nat) => (i : Int)
def Mach.mks : List Int := ns M.m
def Mach.some_ : List Int := (ns M.m).tail
def Mach.pairRows (q a : Nat) : List Rw :=
  match M.at_ q a with
  | none => [.w (M.at' q) a 0 0 a (M.p q a + 1) 0 M.halt]
  | some (b, d, t) => [.w (M.at' q) a 0 0 b 0 0 (M.go (M.p q a)), .m (M.go (M.p q a)) d 0 0 (M.note (M.p q a))] ++
      M.mks.map fun c => .w (M.note (M.p q a)) c 0 0 c (M.p q a + 1) 0 (M.enter t)
def Mach.forth : List Rw :=
  (M.mks.map fun a => .w 0 a 0 0 a 0 0 (M.enter 0)) ++
  ((List.range M.s).flatMap fun q => (List.range M.m).flatMap fun a => M.pairRows q a) ++
  (List.range M.s).map fun q => .m (M.enter q) 0 1 0 (M.at' q)
def Mach.copying : List Rw :=
  [.m M.halt 0 1 0 (M.halt + 1)] ++
  (M.mks.map fun a => .w (M.halt + 1) a 0 0 a 0 0 (M.halt + 2)) ++
  (M.some_.flatMap fun b => M.mks.map fun x => .w (M.halt + 2) b 0 x b 0 x (M.halt + 3)) ++
  (M.mks.map fun x => .w (M.halt + 2) 0 0 x 0 0 x (M.halt + 7)) ++
  [.m (M.halt + 3) 0 0 1 (M.halt + 4)] ++
  (M.some_.map fun b => .w (M.halt + 4) b 0 0 b 0 b (M.halt + 5)) ++
  [.m (M.halt + 5) 1 0 0 (M.halt + 6)] ++
  (M.mks.flatMap fun a => M.some_.map fun b => .w (M.halt + 6) a 0 b a 0 b (M.halt + 2)) ++
  (M.mks.flatMap fun a => M.some_.map fun b => .w (M.halt + 7) a 0 b a 0 b (M.halt + 8)) ++
  (M.mks.map fun a => .w (M.halt + 7) a 0 0 a 0 0 (M.halt + 10)) ++
  [.m (M.halt + 8) (-1) 0 (-1) (M.halt + 9)] ++
  (M.some_.flatMap fun b => M.mks.map fun x => .w (M.halt + 9) b 0 x b 0 x (M.halt + 7)) ++
  [.m (M.halt + 10) 0 (-1) 0 M.undo]
def Mach.undoRows (q a : Nat) : List Rw :=
  match M.at_ q a with
  | none => [.w M.undo a (M.p q a + 1) 0 a 0 0 (M.bat q)]
  | some _ => []
def Mach.backRows (q a : Nat) : List Rw :=
  match M.at_ q a with
  | none => []
  | some (b, d, t) => (M.mks.map fun c => .w (M.benter t) c (M.p q a + 1) 0 c 0 0 (M.bnote (M.p q a))) ++
      [.m (M.bnote (M.p q a)) (-d) 0 0 (M.bgo (M.p q a)), .w (M.bgo (M.p q a)) b 0 0 a 0 0 (M.bat q)]
def Mach.back : List Rw :=
  ((List.range M.s).flatMap fun q => (List.range M.m).flatMap fun a => M.undoRows q a) ++
  ((List.range M.s).map fun q => .m (M.bat q) 0 (-1) 0 (M.benter q)) ++
  (M.mks.map fun a => .w (M.benter 0) a 0 0 a 0 0 M.end_) ++
  ((List.range M.s).flatMap fun q => (List.range M.m).flatMap fun a => M.backRows q a)
/-- the rows of the clean machine -/
def Mach.clean : List Rw := M.forth ++ M.copying ++ M.back
end
end CM
/-! M2: indexes of the rows of a state. -/
namespace CM
theorem Rw.ok_w {r r' : Rw} (h : Rw.ok r r') (e : r.st = r'.st) : r.isW = true ∧ r'.isW = true ∧ r.rd ≠ r'.rd := by
  cases r with
  | m a b c d f => exact absurd e (by cases r' <;> exact h)
  | w s a0 a1 a2 b0 b1 b2 n =>
    cases r' with
    | m a b c d f => exact absurd e h
    | w s' c0 c1 c2 d0 d1 d2 n' =>
      refine ⟨rfl, rfl, fun q => h e ?_⟩
      simp [Rw.rd] at q
      exact q
def ix (rs : List Rw) (i : Nat) (st : Int) : List Nat := (List.range i).filter fun j => decide ((rs[j]?).map Rw.st = some st)
theorem ix_zero (rs : List Rw) (st : Int) : ix rs 0 st = [] := rfl
theorem ix_yes {rs : List Rw} {i : Nat} {r : Rw} (h : rs[i]? = some r) : ix rs (i + 1) r.st = ix rs i r.st ++ [i] := by
  unfold ix
  rw [List.range_succ, List.filter_append, List.filter_cons_of_pos (by rw [h]; simp), List.filter_nil]
theorem ix_no {rs : List Rw} {i : Nat} {r : Rw} {st : Int} (h : rs[i]? = some r) (hs : st ≠ r.st) : ix rs (i + 1) st = ix rs i st := by
  unfold ix
  rw [List.range_succ, List.filter_append, List.filter_cons_of_neg (by rw [h]; simp; exact fun z => hs z.symm), List.filter_nil, List.append_nil]
theorem ix_mem {rs : List Rw} {i j : Nat} {st : Int} (h : j ∈ ix rs i st) : j < i ∧ ∃ r, rs[j]? = some r ∧ r.st = st := by
  unfold ix at h
  obtain ⟨h1, h2⟩ := List.mem_filter.mp h
  have h2 := of_decide_eq_true h2
  refine ⟨by simpa using h1, ?_⟩
  cases e : rs[j]? with
  | none => rw [e] at h2; cases h2
  | some r => rw [e] at h2; exact ⟨r, rfl, Option.some.inj h2⟩
theorem ix_lt (rs : List Rw) (i : Nat) (st : Int) : (ix rs i st).Pairwise (· < ·) := List.Pairwise.filter _ (List.pairwise_lt_range)
theorem ix_len (rs : List Rw) (i : Nat) (st : Int) : (ix rs i st).length ≤ i := by
  unfold ix
  exact Nat.le_trans (List.length_filter_le _ _) (by simp)
/-- of a state there is one row, or the rows are write rows that read other marks -/
theorem ix_ok {rs : List Rw} (hp : rs.Pairwise Rw.ok) (n : Nat) (st : Int) : (ix rs n st).length < 2 ∨
    ((∀ i ∈ ix rs n st, ∃ r, rs[i]? = some r ∧ r.isW = true) ∧ (ix rs n st).Pairwise fun i j => ∀ r r', rs[i]? = some r → rs[j]? = some r' → r.rd ≠ r'.rd) := by
  have two : ∀ {i j : Nat} {r r' : Rw}, i < j → rs[i]? = some r → rs[j]? = some r' → Rw.ok r r' := fun {i j r r'} hij h1 h2 => by
    obtain ⟨a1, rfl⟩ := List.getElem?_eq_some_iff.mp h1
    obtain ⟨a2, rfl⟩ := List.getElem?_eq_some_iff.mp h2
    exact List.pairwise_iff_getElem.mp hp i j a1 a2 hij
  have hl := ix_lt rs n st
  have hm : ∀ j ∈ ix rs n st, ∃ r, rs[j]? = some r ∧ r.st = st := fun j h => (ix_mem h).2
  generalize ix rs n st = l at hl hm
  match l, hl, hm with
  | [], _, _ => exact .inl (by decide)
  | [_], _, _ => exact .inl (by simp)
  | a :: b :: l, hl, hm =>
    refine .inr ⟨fun i hi => ?_, ?_⟩
    · have hab : a < b := (List.pairwise_cons.mp hl).1 b List.mem_cons_self
      obtain ⟨ra, h1, h2⟩ := hm a List.mem_cons_self
      obtain ⟨rb, h3, h4⟩ := hm b (List.mem_cons_of_mem _ List.mem_cons_self)
      rcases List.mem_cons.mp hi with rfl | hi
      · exact ⟨ra, h1, (Rw.ok_w (two hab h1 h3) (h2.trans h4.symm)).1⟩
      · obtain ⟨ri, h5, h6⟩ := hm i (List.mem_cons_of_mem _ hi)
        have hai : a < i := (List.pairwise_cons.mp hl).1 i hi
        exact ⟨ri, h5, (Rw.ok_w (two hai h1 h5) (h2.trans h6.symm)).2.1⟩
    · refine List.Pairwise.imp_of_mem (fun {i j} hi hj hij r r' h1 h2 => ?_) hl
      obtain ⟨ri, h3, h4⟩ := hm i hi
      obtain ⟨rj, h5, h6⟩ := hm j hj
      rw [h1] at h3
      rw [h2] at h5
      cases h3
      cases h5
      exact (Rw.ok_w (two hij h1 h2) (h4.trans h6.symm)).2.2
/-- the row's numbers are in range -/
def Rw.bd (m s : Int) : Rw → Prop
  | .w st a0 a1 a2 b0 b1 b2 nx => 0 ≤ st ∧ st < s ∧ 0 ≤ nx ∧ nx < s ∧ (∀ a ∈ [a0, a1, a2], 0 ≤ a ∧ a ≤ m - 1) ∧ ∀ a ∈ [b0, b1, b2], 0 ≤ a ∧ a ≤ m - 1
  | .m st d0 d1 d2 nx => 0 ≤ st ∧ st < s ∧ 0 ≤ nx ∧ nx < s ∧ ∀ a ∈ [d0, d1, d2], -1 ≤ a ∧ a ≤ 1
end CM
set_option maxRecDepth 100000
set_option maxHeartbeats 4000000
/-! DE: the plain words as data. -/
namespace BK
open PySem L2 DL CM
abbrev ti (l : List Int) : PyData := .tuple (l.map PyData.int)
abbrev tpD (t : Tp) : PyData := .tuple [ti t.l, .int t.m, ti t.r]
abbrev cfD (c : Cf) : PyData := .tuple [.int c.st, .tuple [tpD c.t0, tpD c.t1, tpD c.t2]]
def rwD : Rw → PyData
  | .w st a0 a1 a2 b0 b1 b2 nx => .tuple [.str "write", .int st, ti [a0, a1, a2], ti [b0, b1, b2], .int nx]
  | .m st d0 d1 d2 nx => .tuple [.str "move", .int st, ti [d0, d1, d2], .int nx]
def orD : Option (Int × Int × Int) → PyData
  | none => .none
  | some (b, d, t) => .tuple [.int b, .int d, .int t]
/-- a configuration of the ordinary machine -/
abbrev upD (q : Int) (t : Tp) : PyData := .tuple [.int q, ti t.l, .int t.m, ti t.r]
theorem atI_ofNat {α : Type} {xs : List α} {i : Int} {j : Nat} {v : α} (e : i = (j : Int)) (h : xs[j]? = some v) : atI xs i = some v := by rw [e]; exact atI_nat h
theorem atI_ints {l : List Int} {i : Int} {j : Nat} {a : Int} (e : i = (j : Int)) (h : l[j]? = some a) : atI (l.map PyData.int) i = some (.int a) := atI_ofNat e (by rw [List.getElem?_map, h]; rfl)
theorem cutD_take {ds : List PyData} {n : Nat} (h : n ≤ ds.length) : cutD ds none (some (n : Int)) = ds.take n := by
  unfold cutD
  rw [HT.sIx_none, HT.sIx_nat, List.drop_zero, Nat.sub_zero, Nat.min_eq_left h]
theorem cutD_from1 (ds : List PyData) : cutD ds (some 1) none = ds.tail := by
  unfold cutD
  rw [HT.sIx_none]
  have : HT.sIx ds.length 0 (some 1) = min 1 ds.length := HT.sIx_nat _ _ 1
  rw [this]
  cases ds with
  | nil => rfl
  | cons a l => simp
theorem cmul_s {i j : Int} (hi : -1000000 ≤ i ∧ i ≤ 1000000) (hj : -1000000 ≤ j ∧ j ≤ 1000000) : CMulW i j :=
  cmul_small (Nat.lt_of_le_of_lt (show i.natAbs ≤ 1000000 by omega) (by decide)) (Nat.lt_of_le_of_lt (show j.natAbs ≤ 1000000 by omega) (by decide))
theorem kit_ii : kitB "int" "int" = some true := by decide +kernel
theorem kit_ib : kitB "int" "bool" = some false := by decide +kernel
theorem kit_tt : kitB "tuple" "tuple" = some true := by decide +kernel
theorem kit_it : kitB "int" "tuple" = some false := by decide +kernel
section
variable {K : PySem.W.Frag} {δ : List Sl} {te : TE}
theorem rd_consI {a : Int} {l : List Int} (h : l.length ≤ 90000) : RD (rAddG K) (.tuple [.int a]) (.tuple (l.map PyData.int)) (ti (a :: l)) := rd_addT (as := [.int a]) (by simp; omega)
theorem rd_snocI {a : Int} {l : List Int} (h : l.length ≤ 90000) : RD (rAddG K) (.tuple (l.map PyData.int)) (.tuple [.int a]) (ti (l ++ [a])) := by
  have e : ti (l ++ [a]) = .tuple (l.map PyData.int ++ [.int a]) := by simp [ti]
  rw [e]
  exact rd_addT (by simp; omega)
theorem rd_head0 {l : List Int} : RD (rIx K) (.tuple ((l ++ [0]).map PyData.int)) (.int 0) (.int (l.headD 0)) := rd_ixT (atI_ints (j := 0) rfl (by cases l <;> rfl))
theorem ev_sl1 {l : List Int} (h : EvX te δ (.d (ti l))) : EvX (tSl (rSlG K) te (tPart (tC (.int 1))) tNoPart) δ (.d (ti l.tail)) := by
  have z := ev_sl (K := K) h (eo_some ev_int) eo_none (lo := some 1)
  rw [cutD_from1, ← List.map_tail] at z
  exact z
def rgN (n : Nat) : List PyData := (List.range n).map fun (i : Nat) => PyData.int i
theorem rgN_length (n : Nat) : (rgN n).length = n := by simp [rgN]
theorem rgN_get {n i : Nat} {d : PyData} (h : (rgN n)[i]? = some d) : i < n ∧ d = .int i := by
  have hi : i < n := by
    have := (List.getElem?_eq_some_iff.mp h).1
    rw [rgN_length] at this
    exact this
  simp [rgN, hi] at h
  exact ⟨hi, h.symm⟩
theorem rgN_mem {n : Nat} {d : PyData} (h : d ∈ rgN n) : ∃ i : Nat, i < n ∧ d = .int i := by
  obtain ⟨i, hi, rfl⟩ := List.mem_map.mp h
  exact ⟨i, by simpa using hi, rfl⟩
theorem rgN_eq (n : Nat) : rgN n = rgD 0 n := by simp [rgN, rgD]
theorem rgN_ints (n : Nat) : rgN n = (ns n).map PyData.int := by simp [rgN, ns]
theorem ei_rngN {ta : TA} {n : Nat} (h : EvDA ta δ [.int n]) (hn : n ≤ 100000) : EvI (iRng1 ta) δ (rgN n) := by
  rw [rgN_eq]
  have z := ei_rng1 h ⟨by omega, by omega⟩
  rw [Int.toNat_natCast] at z
  exact z
theorem el_listRg {n : Nat} (h : EvX te δ (.d (.int n))) (hn : n ≤ 100000) : EvL (tLstRg (tRg1 te)) δ (rgN n) := fun B0 H0 B H σ e Q k =>
  h _ _ _ _ _ e _ fun x B1 H1 g1 hx => by
    cases hx
    refine ⟨n, rfl, RgOk.of_le (Int.le_refl 0) (by omega) (by decide) (by omega), fun q hq => k q _ B1 _ (g1.trans (Grow.new0 g1.sub hq)) (ex_none g1.h hq) (ex_none g1.sub hq) upd_same ?_⟩
    have e1 : rgV 0 n = (ns n).map V.int := by simp [rgV, ns]
    rw [e1, rgN_ints]
    exact dds_ints _
theorem rd_catI {a l : List Int} (h : a.length + l.length ≤ 100000) : RD (rAddG K) (.tuple (a.map PyData.int)) (.tuple (l.map PyData.int)) (ti (a ++ l)) := by
  have e : ti (a ++ l) = .tuple (a.map PyData.int ++ l.map PyData.int) := by simp [ti]
  rw [e]
  exact rd_addT (by simp; omega)
theorem rd_ww : RD (rEqD K) (.str "write") (.str "write") (.bool true) := rd_eq (by decide +kernel) (by decide +kernel)
theorem rd_mm : RD (rEqD K) (.str "move") (.str "move") (.bool true) := rd_eq (by decide +kernel) (by decide +kernel)
theorem rd_wm : RD (rEqD K) (.str "write") (.str "move") (.bool false) := rd_eq (by decide +kernel) (by decide +kernel)
theorem rd_mw : RD (rEqD K) (.str "move") (.str "write") (.bool false) := rd_eq (by decide +kernel) (by decide +kernel)
theorem rd_nww : RD (rNeD K) (.str "write") (.str "write") (.bool false) := rd_ne (by decide +kernel) (by decide +kernel)
end
end BK
set_option maxRecDepth 100000
set_option maxHeartbeats 4000000
/-! DO: the objects of the program: Tape, Numbers, the tables, Several. -/
namespace BK
open PySem L2 DL CM
section
variable {K : PySem.W.Frag} {mg : Str → Option Value}
/-- an instance with these fields (known), without those names -/
def InsAt (C : Addr) (fs : List (Str × Sl)) (no : List Str) (B : Hp) (v : V) : Prop :=
  ∃ (a dx : Addr) (vs : List (Str × V)), v = .ref a ∧ B a = some (.ins C dx vs) ∧ (∀ f r, (f, r) ∈ fs → ∃ y, vs.lookup f = some y ∧ VOk B y r) ∧ ∀ m ∈ no, vs.lookup m = none
theorem InsAt.mono {C : Addr} {fs : List (Str × Sl)} {no : List Str} : Mono (InsAt C fs no) := fun B B' v e ⟨a, dx, vs, h1, h2, h3, h4⟩ =>
  ⟨a, dx, vs, h1, e _ _ h2, fun f r h => by
    obtain ⟨y, q1, q2⟩ := h3 f r h
    exact ⟨y, q1, q2.mono e⟩, h4⟩
theorem InsAt.hasF {C : Addr} {fs : List (Str × Sl)} {no : List Str} {f : Str} {r : Sl} (h : (f, r) ∈ fs) (hc : Cls K C) (hn : NoAttr K C f) : HasF K f (InsAt C fs no) r := fun B v ⟨a, dx, vs, h1, h2, h3, h4⟩ => by
  obtain ⟨y, q1, q2⟩ := h3 f r h
  exact ⟨a, C, dx, vs, y, h1, h2, hc, hn, q1, q2⟩
theorem InsAt.isIns {C : Addr} {fs : List (Str × Sl)} {no : List Str} {m : Str} (h : m ∈ no) : IsIns C m (InsAt C fs no) := fun B v ⟨a, dx, vs, h1, h2, h3, h4⟩ => ⟨a, dx, vs, h1, h2, h4 m h⟩
theorem InsAt.weak {C : Addr} {fs fs' : List (Str × Sl)} {no no' : List Str} (h1 : ∀ p ∈ fs', p ∈ fs) (h2 : ∀ m ∈ no', m ∈ no) {B : Hp} {v : V} (h : InsAt C fs no B v) : InsAt C fs' no' B v := by
  obtain ⟨a, dx, vs, a1, a2, a3, a4⟩ := h
  exact ⟨a, dx, vs, a1, a2, fun f r q => a3 f r (h1 _ q), fun m q => a4 m (h2 _ q)⟩
end
/-! ### an __init__: the new instance is written field by field -/
/-- the heap without x -/
def hide (H : Hp) (x : Addr) : Hp := fun a => if a = x then none else H a
theorem hide_same {H : Hp} {x : Addr} : hide H x x = none := by unfold hide; rw [if_pos rfl]
theorem hide_ne {H : Hp} {x a : Addr} (h : a ≠ x) : hide H x a = H a := by unfold hide; rw [if_neg h]
theorem hide_ex {H : Hp} {x : Addr} : Ex (hide H x) H := fun a o h => by
  by_cases q : a = x
  · rw [q, hide_same] at h; cases h
  · rw [hide_ne q] at h; exact h
theorem ex_hide {B B' : Hp} {x : Addr} (e : Ex B B') (hx : B x = none) : Ex B (hide B' x) := fun a o h => by
  have : a ≠ x := fun q => by rw [q, hx] at h; cases h
  rw [hide_ne this]
  exact e a o h
mutual
theorem dd_hide {H : Hp} {x C dx : Addr} {fs : List (Str × V)} (hx : H x = some (.ins C dx fs)) : ∀ (d : PyData) (v : V), DD H v d → DD (hide H x) v d
  | .none, _, h => by cases h; exact .non
  | .bool b, _, h => by cases h; exact .bl b
  | .int i, _, h => by cases h; exact .int i
  | .str x, _, h => by cases h; exact .str x
  | .list ds, _, h => by
    cases h with
    | lst h1 h2 => exact .lst (by rw [hide_ne (ne_of h1 hx (by intro z; cases z))]; exact h1) (dds_hide hx ds _ h2)
  | .tuple ds, _, h => by
    cases h with
    | tup h1 h2 => exact .tup (by rw [hide_ne (ne_of h1 hx (by intro z; cases z))]; exact h1) (dds_hide hx ds _ h2)
  | .dict _, _, h => by cases h
theorem dds_hide {H : Hp} {x C dx : Addr} {fs : List (Str × V)} (hx : H x = some (.ins C dx fs)) : ∀ (ds : List PyData) (vs : List V), DDs H vs ds → DDs (hide H x) vs ds
  | [], _, h => by cases h; exact .nil
  | d :: ds, _, h => by
    cases h with
    | cons h1 h2 => exact .cons (dd_hide hx d _ h1) (dds_hide hx ds _ h2)
end
/-- what is known does not lean on instances -/
def Indep : Sl → Prop
  | .ob φ => ∀ (B : Hp) (x C dx : Addr) (fs : List (Str × V)) (v : V), B x = some (.ins C dx fs) → φ B v → φ (hide B x) v
  | _ => True
theorem vok_hide {B : Hp} {x C dx : Addr} {fs : List (Str × V)} {v : V} {r : Sl} (hx : B x = some (.ins C dx fs)) (hi : Indep r) (h : VOk B v r) : VOk (hide B x) v r := by
  cases r with
  | no => trivial
  | d y => exact dd_hide hx y v h
  | ob φ => exact ⟨h.1, hi B x C dx fs v hx h.2⟩
  | own ds => exact h
def forget (δ : List Sl) : List Sl := δ.map fun s => match s with
  | .d x => .d x
  | _ => .no
def SelfAt (C x : Addr) (fs : List (Str × Sl)) (no : List Str) (B H : Hp) : Prop :=
  ∃ (dx : Addr) (vs : List (Str × V)), H x = some (.ins C dx vs) ∧ B x = none ∧ vs.length ≤ 50 ∧ (∀ f r, (f, r) ∈ fs → ∃ y, vs.lookup f = some y ∧ VOk B y r) ∧ ∀ m ∈ no, vs.lookup m = none
theorem SelfAt.grow {C x : Addr} {fs : List (Str × Sl)} {no : List Str} {B H B' H' : Hp} (s : SelfAt C x fs no B H) (g : Grow B H B' H') : SelfAt C x fs no B' H' := by
  obtain ⟨dx, vs, h1, h2, h3, h4, h5⟩ := s
  exact ⟨dx, vs, g.h _ _ h1, g.out x (by rw [h1]; intro z; cases z) h2, h3, fun f r q => by
    obtain ⟨y, q1, q2⟩ := h4 f r q
    exact ⟨y, q1, q2.mono g.b⟩, h5⟩
def ExI (t : TS) (C : Addr) (no : List Str) (δ : List Sl) (fs : List (Str × Sl)) (n : Nat) (O : List Sl → List (Str × Sl) → Nat → Prop) : Prop :=
  ∀ (B0 H0 B H : Hp) (σ : Ss) (x : Addr), EnvOk B0 H0 B H σ δ → σ[0]? = some (some (.ref x)) → H0 x = none → SelfAt C x fs no B H → n ≤ 40 → (∃ dx vs, H x = some (.ins C dx vs) ∧ vs.length ≤ n) →
    ∀ D : Ends, (∀ (σ' : Ss) (B' H' : Hp) (δ' : List Sl) (fs' : List (Str × Sl)) (n' : Nat), EnvOk B0 H0 B' H' σ' δ' → σ'[0]? = some (some (.ref x)) → SelfAt C x fs' no B' H' → n' ≤ 40 → (∃ dx vs, H' x = some (.ins C dx vs) ∧ vs.length ≤ n') → Ex B B' → O δ' fs' n' → D.nx σ' H') → t D σ H
section
variable {K : PySem.W.Frag} {C : Addr} {no : List Str} {δ : List Sl} {fs : List (Str × Sl)} {n : Nat} {O : List Sl → List (Str × Sl) → Nat → Prop} {t u : TS} {c : TT} {te tv : TE}
theorem xi_seq (h : ExI t C no δ fs n (fun δ' fs' n' => ExI u C no δ' fs' n' O)) : ExI (tSeq t u) C no δ fs n O := fun B0 H0 B H σ x e h0 hx s hn hl D k =>
  h B0 H0 B H σ x e h0 hx s hn hl _ fun σ' B' H' δ' fs' n' e' h0' s' hn' hl' b q => q B0 H0 B' H' σ' x e' h0' hx s' hn' hl' D fun σ2 B2 H2 δ2 fs2 n2 e2 h2 s2 hn2 hl2 b2 q2 => k σ2 B2 H2 δ2 fs2 n2 e2 h2 s2 hn2 hl2 (b.trans b2) q2
theorem xi_next (h : O δ fs n) : ExI tNext C no δ fs n O := fun B0 H0 B H σ x e h0 hx s hn hl D k => k σ B H δ fs n e h0 s hn hl Ex.rfl h
/-- the instance as a thing that is read -/
theorem self_env {B0 H0 B H : Hp} {σ : Ss} {x : Addr} (e : EnvOk B0 H0 B H σ δ) (h0 : σ[0]? = some (some (.ref x))) (hx : H0 x = none) (s : SelfAt C x fs no B H) :
    ∃ dx vs, H x = some (.ins C dx vs) ∧ B x = none ∧ EnvOk B0 H0 (upd B x (.ins C dx vs)) H σ (δ.set 0 (.ob (InsAt C fs no))) := by
  obtain ⟨dx, vs, h1, h2, h3, h4, h5⟩ := s
  have hb : Ex B (upd B x (.ins C dx vs)) := Evl.Ex.new h2
  refine ⟨dx, vs, h1, h2, ⟨e.gr.b.trans hb, e.gr.h, ex_put e.gr.sub h1, fun l q1 q2 => ?_⟩, by rw [List.length_set, e.len], fun i r hi => ?_, fun i j l ds es hij q1 q2 q3 => ?_⟩
  · have : l ≠ x := fun z => q1 (by rw [z]; exact hx)
    rw [upd_ne this]
    exact e.gr.out l q1 q2
  · rcases get_set hi with ⟨rfl, rfl, _⟩ | ⟨hn, hi⟩
    · exact ⟨_, h0, InsAt.mono, x, dx, vs, rfl, upd_same, fun f r q => by
        obtain ⟨y, r1, r2⟩ := h4 f r q
        exact ⟨y, r1, r2.mono hb⟩, h5⟩
    · have z := slok_set (v := some (.ref x)) (e.at_ i r hi) hn
      have z := e.at_ i r hi
      cases r with
      | no => trivial
      | d y => obtain ⟨v, z1, z2⟩ := z; exact ⟨v, z1, z2.mono hb⟩
      | ob φ => obtain ⟨v, z1, z2, z3⟩ := z; exact ⟨v, z1, z2, z2 _ _ _ hb z3⟩
      | own ds =>
        obtain ⟨l, xs, z1, z2, z3, z4, z5⟩ := z
        exact ⟨l, xs, z1, z2, by rw [upd_ne (ne_of z4 h1 (by intro z; cases z))]; exact z3, z4, z5.mono hb⟩
  · rcases get_set q1 with ⟨_, q, _⟩ | ⟨_, q1⟩
    · cases q
    · rcases get_set q2 with ⟨_, q, _⟩ | ⟨_, q2⟩
      · cases q
      · exact e.sep i j l ds es hij q1 q2 q3
theorem self_grow {B H B' H' : Hp} {x C dx : Addr} {vs : List (Str × V)} (hB : B x = none) (hH : H x = some (.ins C dx vs)) (g : Grow (upd B x (.ins C dx vs)) H B' H') : Grow B H (hide B' x) H' := by
  refine ⟨ex_hide ((Evl.Ex.new hB).trans g.b) hB, g.h, hide_ex.trans g.sub, fun l q1 q2 => ?_⟩
  by_cases q : l = x
  · rw [q]; exact hide_same
  · rw [hide_ne q]
    exact g.out l q1 (by rw [upd_ne q]; exact q2)
/-- .. and given back -/
theorem self_back {B0 H0 B B' H H' : Hp} {σ : Ss} {x dx : Addr} {vs : List (Str × V)} {δ' : List Sl} (h0 : H0 x = none) (hB : B x = none) (e0 : Ex B0 B) (s : SelfAt C x fs no B H) (hH : H x = some (.ins C dx vs)) (hH' : H' x = some (.ins C dx vs)) (hb : Ex (upd B x (.ins C dx vs)) B') (e : EnvOk B0 H0 B' H' σ δ') :
    EnvOk B0 H0 (hide B' x) H' σ (forget δ') ∧ SelfAt C x fs no (hide B' x) H' ∧ Ex B (hide B' x) := by
  have hx : B' x = some (.ins C dx vs) := hb _ _ upd_same
  have e1 : Ex B (hide B' x) := ex_hide ((Evl.Ex.new hB).trans hb) hB
  refine ⟨⟨⟨e0.trans e1, e.gr.h, hide_ex.trans e.gr.sub, fun l q1 q2 => ?_⟩, by rw [e.len]; simp [forget], fun i r hi => ?_, fun i j l ds es _ q _ _ => ?_⟩, ?_, e1⟩
  · have : l ≠ x := fun z => q1 (by rw [z]; exact h0)
    rw [hide_ne this]
    exact e.gr.out l q1 q2
  · unfold forget at hi
    rw [List.getElem?_map] at hi
    cases q : δ'[i]? with
    | none => rw [q] at hi; cases hi
    | some r0 =>
      rw [q] at hi
      have hi := Option.some.inj hi
      subst hi
      have z := e.at_ i r0 q
      cases r0 with
      | no => trivial
      | own ds => trivial
      | ob φ => trivial
      | d y =>
        obtain ⟨v, z1, z2⟩ := z
        exact ⟨v, z1, dd_hide hx y v z2⟩
  · unfold forget at q
    rw [List.getElem?_map] at q
    cases q2 : δ'[i]? with
    | none => rw [q2] at q; cases q
    | some r0 =>
      rw [q2] at q
      have q := Option.some.inj q
      cases r0 <;> cases q
  · obtain ⟨dx2, vs2, h1, h2, h3, h4, h5⟩ := s
    rw [hH] at h1
    cases h1
    exact ⟨dx, vs, hH', hide_same, h3, fun f r q => by
      obtain ⟨y, r1, r2⟩ := h4 f r q
      exact ⟨y, r1, r2.mono e1⟩, h5⟩
/-- a statement that only reads the instance -/
theorem xi_read (h : ExS t (δ.set 0 (.ob (InsAt C fs no))) { nx := fun δ' => δ'[0]? = some (.ob (InsAt C fs no)) ∧ O (forget δ') fs n, rt := fun _ => False }) (hs : ∀ (D : Ends) (σ : Ss) (H : Hp) (x : Addr), σ[0]? = some (some (.ref x)) → t { D with nx := fun σ' H' => σ'[0]? = some (some (.ref x)) → D.nx σ' H' } σ H → t D σ H) :
    ExI t C no δ fs n O := fun B0 H0 B H σ x e h0 hx s hn hl D k => by
  obtain ⟨dx, vs, h1, h2, e1⟩ := self_env e h0 hx s
  refine hs D σ H x h0 (h _ _ _ _ _ e1 _ ⟨fun σ' B' H' δ' e' b q h0' => ?_, fun _ _ _ _ _ _ _ z => z.elim, fun _ _ _ _ _ _ z => z.elim, fun _ _ _ _ _ _ z => z.elim⟩)
  have hB' : B' x = some (.ins C dx vs) := b _ _ upd_same
  have hH' : H' x = some (.ins C dx vs) := e'.gr.sub _ _ hB'
  obtain ⟨a1, a2, a3⟩ := self_back (C := C) (fs := fs) (no := no) hx h2 e.gr.b s h1 hH' b e'
  obtain ⟨dx2, vs2, l1, l2⟩ := hl
  rw [h1] at l1
  cases l1
  exact k σ' (hide B' x) H' _ fs n a1 h0' a2 hn ⟨dx, vs, hH', l2⟩ a3 q.2
theorem xi_if {b : Bool} (h : EvT c (δ.set 0 (.ob (InsAt C fs no))) b) (h1 : b = true → ExI t C no δ fs n O) (h2 : b = false → ExI u C no δ fs n O) : ExI (tIfS c t u) C no δ fs n O := fun B0 H0 B H σ x e h0 hx s hn hl D k => by
  obtain ⟨dx, vs, a1, a2, e1⟩ := self_env e h0 hx s
  refine h _ _ _ _ _ e1 _ fun B' H' g => ?_
  have hH' : H' x = some (.ins C dx vs) := g.h _ _ a1
  have g' := self_grow a2 a1 g
  have hl' : ∃ dx vs, H' x = some (.ins C dx vs) ∧ vs.length ≤ n := by
    obtain ⟨dx2, vs2, l1, l2⟩ := hl
    rw [a1] at l1
    cases l1
    exact ⟨dx, vs, hH', l2⟩
  cases b with
  | true => exact iteT (h1 rfl _ _ _ _ _ x (e.grow g') h0 hx (s.grow g') hn hl' D fun σ2 B2 H2 δ2 fs2 n2 e2 q2 s2 hn2 hl2 bb q => k σ2 B2 H2 δ2 fs2 n2 e2 q2 s2 hn2 hl2 (g'.b.trans bb) q)
  | false => exact iteF (h2 rfl _ _ _ _ _ x (e.grow g') h0 hx (s.grow g') hn hl' D fun σ2 B2 H2 δ2 fs2 n2 e2 q2 s2 hn2 hl2 bb q => k σ2 B2 H2 δ2 fs2 n2 e2 q2 s2 hn2 hl2 (g'.b.trans bb) q)
/-- self.f = e -/
theorem xi_fld {f : Str} {r : Sl} (hc : Cls K C) (hf : NoAttr K C f) (h : EvX tv (δ.set 0 (.ob (InsAt C fs no))) r) (hi : Indep r) (hno : f ∉ no) (hn : n < 40) (hs : ∀ s, δ[0]? = some s → s = .no) (q : O δ ((f, r) :: fs.filter (fun p => !decide (p.1 = f))) (n + 1)) :
    ExI (sFld K (tVar 0) tv f) C no δ fs n O := fun B0 H0 B H σ x e h0 hx s hn' hl D k => by
  obtain ⟨dx, vs, a1, a2, e1⟩ := self_env e h0 hx s
  refine h _ _ _ _ _ e1 _ fun y B' H' g hy => ⟨_, h0, x, C, dx, vs, rfl, g.h _ _ a1, hc, hf, ?_, ?_⟩
  · obtain ⟨dx2, vs2, l1, l2⟩ := hl
    rw [a1] at l1
    cases l1
    omega
  · have hH' : H' x = some (.ins C dx vs) := g.h _ _ a1
    have hB' : B' x = some (.ins C dx vs) := g.b _ _ upd_same
    have g' := self_grow a2 a1 g
    have b1 := e.grow g'
    have hy' := vok_hide hB' hi hy
    obtain ⟨dx2, vs2, l1, l2⟩ := hl
    rw [a1] at l1
    cases l1
    refine k σ (hide B' x) (upd H' x (.ins C dx (putF f y vs))) δ _ (n + 1) ⟨⟨b1.gr.b, fun a o ha => ?_, ex_upd b1.gr.sub hide_same, b1.gr.out⟩, b1.len, fun i s hi => ?_, b1.sep⟩ h0 ?_ (by omega) ⟨dx, _, upd_same, by have := length_putF f y vs; omega⟩ g'.b q
    · have : a ≠ x := fun z => by rw [z, hx] at ha; cases ha
      rw [upd_ne this]
      exact b1.gr.h a o ha
    · have z := b1.at_ i s hi
      cases s with
      | no => trivial
      | d y => exact z
      | ob φ => exact z
      | own ds =>
        obtain ⟨l, xs, z1, z2, z3, z4, z5⟩ := z
        exact ⟨l, xs, z1, z2, z3, by rw [upd_ne (ne_of z4 hH' (by intro z; cases z))]; exact z4, z5⟩
    · obtain ⟨dx2, vs2, h1, h2, h3, h4, h5⟩ := s.grow g'
      rw [hH'] at h1
      cases h1
      refine ⟨dx, _, upd_same, hide_same, by have := length_putF f y vs; omega, fun g' r' hg => ?_, fun m hm => ?_⟩
      · rw [lookup_putF]
        rcases List.mem_cons.mp hg with hg | hg
        · cases hg
          exact ⟨y, if_pos rfl, hy'⟩
        · have hne : ¬ g' = f := by
            have := (List.mem_filter.mp hg).2
            simpa using this
          rw [if_neg hne]
          exact h4 g' r' (List.mem_filter.mp hg).1
      · rw [lookup_putF, if_neg (fun z => hno (by rw [← z]; exact hm))]
        exact h5 m hm
def nameFree (f : Str) (ns : List Str) : Bool := ns.all fun g => !decide (g = f)
/-- .. a field that is not there yet -/
theorem xi_new {f : Str} {r : Sl} (ns : List Str) (hns : fs.map (·.1) = ns) (hfn : nameFree f ns = true) (hc : Cls K C) (hf : NoAttr K C f) (h : EvX tv (δ.set 0 (.ob (InsAt C fs no))) r) (hi : Indep r) (hno : f ∉ no) (hn : n < 40) (hs : ∀ s, δ[0]? = some s → s = .no) (q : O δ ((f, r) :: fs) (n + 1)) :
    ExI (sFld K (tVar 0) tv f) C no δ fs n O := by
  refine xi_fld hc hf h hi hno hn hs ?_
  have e : fs.filter (fun p => !decide (p.1 = f)) = fs := List.filter_eq_self.mpr fun p hp => by
    have := List.all_eq_true.mp hfn p.1 (by rw [← hns]; exact List.mem_map_of_mem hp)
    exact this
  rw [e]
  exact q
/-- self.f = another name's thing -/
theorem xi_newV {f : Str} {i : Nat} {φ : Hp → V → Prop} (ns : List Str) (hns : fs.map (·.1) = ns) (hfn : nameFree f ns = true) (hc : Cls K C) (hf : NoAttr K C f) (h : δ[i]? = some (.ob φ)) (hno : f ∉ no) (hn : n < 40) (q : O δ ((f, .ob φ) :: fs) (n + 1)) :
    ExI (sFld K (tVar 0) (tVar i) f) C no δ fs n O := fun B0 H0 B H σ x e h0 hx s hn' hl D k => by
  obtain ⟨v, v1, v2⟩ := e.at_ i _ h
  obtain ⟨dx, vs, h1, h2, h3, h4, h5⟩ := s
  obtain ⟨dx2, vs2, l1, l2⟩ := hl
  rw [h1] at l1
  cases l1
  refine ⟨v, v1, _, h0, x, C, dx, vs, rfl, h1, hc, hf, by omega, ?_⟩
  refine k σ B (upd H x (.ins C dx (putF f v vs))) δ _ (n + 1) ⟨⟨e.gr.b, fun a o ha => ?_, ex_upd e.gr.sub h2, e.gr.out⟩, e.len, fun i s hi => ?_, e.sep⟩ h0 ⟨dx, _, upd_same, h2, by have := length_putF f v vs; omega, fun g' r' hg => ?_, fun m hm => ?_⟩ (by omega) ⟨dx, _, upd_same, by have := length_putF f v vs; omega⟩ Ex.rfl q
  · have : a ≠ x := fun z => by rw [z, hx] at ha; cases ha
    rw [upd_ne this]
    exact e.gr.h a o ha
  · have z := e.at_ i s hi
    cases s with
    | no => trivial
    | d y => exact z
    | ob φ => exact z
    | own ds =>
      obtain ⟨l, xs, z1, z2, z3, z4, z5⟩ := z
      exact ⟨l, xs, z1, z2, z3, by rw [upd_ne (ne_of z4 h1 (by intro z; cases z))]; exact z4, z5⟩
  · rw [lookup_putF]
    rcases List.mem_cons.mp hg with hg | hg
    · cases hg
      exact ⟨v, if_pos rfl, v2⟩
    · have hne : ¬ g' = f := by
        have := List.all_eq_true.mp hfn g' (by rw [← hns]; exact List.mem_map_of_mem (f := (·.1)) hg)
        simpa using this
      rw [if_neg hne]
      exact h4 g' r' hg
  · rw [lookup_putF, if_neg (fun z => hno (by rw [← z]; exact hm))]
    exact h5 m hm
end
/-- the promise of an __init__ -/
def spI (C : Addr) (R : List Sl → (Hp → V → Prop) → Prop) : Sp := fun vs H Q _ =>
  ∃ (B : Hp) (x dx : Addr) (us : List V) (as : List Sl) (φ : Hp → V → Prop), vs = .ref x :: us ∧ H x = some (.ins C dx []) ∧ Ex B H ∧ B x = none ∧ VsOk B us as ∧ R as φ ∧
    ∀ (B' H' : Hp), Ex B B' → Ex B' H' → (∀ a o, H a = some o → a ≠ x → H' a = some o) → (∀ l, H l ≠ none → B l = none → l ≠ x → B' l = none) → φ B' (.ref x) → Q .non H'
theorem ev_make {C : Addr} {R : List Sl → (Hp → V → Prop) → Prop} {E : XK} {t : TA} {δ : List Sl} {as : List Sl} {φ : Hp → V → Prop} (ha : EvA t δ as) (hR : R as φ) (hm : Mono φ) : EvX (tMake C (spI C R) [] E t) δ (.ob φ) := fun B0 H0 B H σ e Q k =>
  ha _ _ _ _ _ e _ fun vs B1 H1 g1 hv x dx nx nd ne => by
    have s0 : Ex H1 (upd (upd H1 dx (.own x)) x (.ins C dx [])) := fun b o e => by
      rw [upd_ne (ne_of_none e nx), upd_ne (ne_of_none e nd)]
      exact e
    refine ⟨B1, x, dx, vs, as, φ, by rw [List.append_nil], upd_same, g1.sub.trans s0, ex_none g1.sub nx, hv, hR, fun B' H' b1 b2 b3 b4 hφ => ⟨rfl, k _ B' H' ?_ ⟨hm, hφ⟩⟩⟩
    refine ⟨g1.b.trans b1, fun a o h => b3 a o (s0 _ _ (g1.h _ _ h)) (ne_of_none (g1.h _ _ h) nx), b2, fun l q1 q2 => ?_⟩
    have q3 := ex_ne g1.h q1
    exact b4 l (ex_ne s0 q3) (g1.out l q1 q2) fun z => q3 (by rw [z]; exact nx)
theorem spI_len {C : Addr} {R : List Sl → (Hp → V → Prop) → Prop} {n : Nat} (h : ∀ as φ, R as φ → as.length = n) {vs : List V} {H : Hp} {Q : VK} {E : XK} (s : spI C R vs H Q E) : vs.length = n + 1 := by
  obtain ⟨B, x, dx, us, as, φ, rfl, _, _, _, hv, hR, _⟩ := s
  rw [List.length_cons, hv.length, h as φ hR]
theorem spI_run {C : Addr} {R : List Sl → (Hp → V → Prop) → Prop} {N : List Str} {no : List Str} {t : TS} {vs : List V} {H : Hp} {Q : VK} {E : XK} (s : spI C R vs H Q E) (hN : 1 ≤ N.length)
    (h : ∀ as φ, R as φ → ExI t C no (.no :: (as ++ List.replicate (N.length - (as.length + 1)) .no)) [] 0 (fun _ fs _ => ∀ B v, InsAt C fs no B v → φ B v)) : t { nx := fun _ H' => Q .non H', rt := Q } (L2.start N vs) H := by
  obtain ⟨B, x, dx, us, as, φ, rfl, hx, e, bx, hv, hR, k⟩ := s
  have hI := h as φ hR
  have e' : Ex B (hide H x) := ex_hide e bx
  have env0 := env_start (B := B) (H := H) e (vs := .ref x :: us) (as := .no :: as) ⟨trivial, hv⟩ N
  have hl : (Sl.no :: as).length = as.length + 1 := rfl
  rw [hl] at env0
  have env : EnvOk B (hide H x) B H (L2.start N (.ref x :: us)) (.no :: (as ++ List.replicate (N.length - (as.length + 1)) .no)) := by
    refine ⟨⟨Ex.rfl, hide_ex, e, fun _ _ h => h⟩, env0.len, fun i r hi => ?_, fun i j l ds es _ q _ _ => ?_⟩
    · have z := env0.at_ i r hi
      cases r with
      | no => trivial
      | d y => exact z
      | ob ψ => exact z
      | own ds =>
        obtain ⟨l, xs, z1, z2, z3, z4, _⟩ := z
        rw [z2] at z4
        cases z4
    · have z := env0.at_ i _ q
      obtain ⟨l, xs, z1, z2, z3, z4, _⟩ := z
      rw [z2] at z4
      cases z4
  refine hI _ _ _ _ _ x env ?_ hide_same ⟨dx, [], hx, bx, Nat.zero_le _, fun f r q => (nomatch q), fun m _ => rfl⟩ (by omega) ⟨dx, [], hx, Nat.zero_le _⟩ _ fun σ' B' H' δ' fs' n' e1 h0 s1 _ hl1 b hO => ?_
  · rfl
  · obtain ⟨dx2, vs2, h1, h2, h3, h4, h5⟩ := s1
    have hb : Ex B' (upd B' x (.ins C dx2 vs2)) := Evl.Ex.new h2
    refine k (upd B' x (.ins C dx2 vs2)) H' (b.trans hb) (ex_put e1.gr.sub h1) (fun a o ha hax => e1.gr.h a o (by rw [hide_ne hax]; exact ha)) (fun l q1 q2 q3 => ?_) (hO _ _ ⟨x, dx2, vs2, rfl, upd_same, fun f r q => ?_, h5⟩)
    · rw [upd_ne q3]
      exact e1.gr.out l (by rw [hide_ne q3]; exact q1) q2
    · obtain ⟨y, r1, r2⟩ := h4 f r q
      exact ⟨y, r1, r2.mono hb⟩
/-- a Tape of the machine M -/
abbrev TapeF (M : Mach) : List (Str × Sl) := [("marks", .d (.int M.m)), ("states", .d (.int M.s)), ("_rows", .d (.list (M.rows.map orD)))]
abbrev TapeN : List Str := ["table", "row", "_is_row"]
abbrev TapeAt (C : Addr) (M : Mach) : Hp → V → Prop := InsAt C (TapeF M) TapeN
/-- the numbers of the clean machine -/
abbrev NumF (CT : Addr) (M : Mach) : List (Str × Sl) := [("machine", .ob (TapeAt CT M)), ("states", .d (.int M.s)), ("pairs", .d (.int M.pairs)), ("halt", .d (.int M.halt)), ("undo", .d (.int M.undo)), ("end", .d (.int M.end_))]
abbrev NumN : List Str := ["enter", "at", "go", "note", "copying", "back_at", "back_enter", "back_note", "back_go"]
abbrev NumAt (C CT : Addr) (M : Mach) : Hp → V → Prop := InsAt C (NumF CT M) NumN
end BK
set_option maxRecDepth 100000
set_option maxHeartbeats 4000000
/-! DR: loops over mutable dicts, raw. -/
namespace BK
open PySem L2 DL CM
theorem for_raw {wi : TI} {g : TG} {tb : TS} {D : Ends} {ds : List PyData} {B0 H0 B H : Hp} {σ : Ss} {δ : List Sl} (e : EnvOk B0 H0 B H σ δ) (hi : EvI wi δ ds) (I : Nat → Ss → Hp → Hp → Prop)
    (hsub : ∀ i σ B H, I i σ B H → Ex B H) (h0 : ∀ B1 H1, Grow B H B1 H1 → I 0 σ B1 H1)
    (hs : ∀ (i : Nat) (d : PyData) (σ1 : Ss) (B1 H1 : Hp) (x : V) (B2 H2 : Hp), ds[i]? = some d → I i σ1 B1 H1 → Grow B1 H1 B2 H2 → DD B2 x d →
      g x σ1 H2 fun σ3 H3 => tb { D with nx := fun σ4 H4 => ∃ B4, Ex B1 B4 ∧ I (i + 1) σ4 B4 H4, ct := fun σ4 H4 => ∃ B4, Ex B1 B4 ∧ I (i + 1) σ4 B4 H4, bk := D.nx } σ3 H3)
    (hd : ∀ (σ1 : Ss) (B1 H1 : Hp), Ex B B1 → I ds.length σ1 B1 H1 → D.nx σ1 H1) : tFor wi g tb D σ H :=
  hi _ _ _ _ _ e _ fun J B1 H1 g1 hJ => by
    refine ⟨fun i m σ' H' => m = ds.length - i ∧ i ≤ ds.length ∧ ∃ B', Ex B1 B' ∧ I i σ' B' H', ⟨_, rfl, Nat.zero_le _, B1, Ex.rfl, h0 B1 H1 g1⟩, fun i m σ' H' ⟨hm, hil, B', x', hI⟩ => ?_⟩
    obtain ⟨j1, j2, j3⟩ := hJ B' H' x' (hsub _ _ _ _ hI)
    by_cases q : i < ds.length
    · refine .inr ⟨j1 i q, fun σ'' H'' => ∃ B4, Ex B' B4 ∧ I (i + 1) σ'' B4 H'', fun σ'' H'' ⟨B4, z1, z2⟩ => ⟨ds.length - (i + 1), by omega, rfl, by omega, B4, x'.trans z1, z2⟩, fun x H2 hy => ?_⟩
      obtain ⟨B2, g2, hx⟩ := j3 i ds[i] x H2 (List.getElem?_eq_getElem q) hy
      exact hs i ds[i] σ' B' H' x B2 H2 (List.getElem?_eq_getElem q) hI g2 hx
    · have : i = ds.length := by omega
      subst this
      exact .inl ⟨j2, hd σ' B' H' (g1.b.trans x') hI⟩
/-- a thing that is no data and no owned list is written -/
theorem _root_.DL.EnvOk.mut {B0 H0 B H : Hp} {σ : Ss} {δ : List Sl} (e : EnvOk B0 H0 B H σ δ) {p : Addr} {o o' : HO} (hp : H p = some o) (hn : ∀ xs, o ≠ .lst xs) (h0 : H0 p = none) (hB : B p = none) : EnvOk B0 H0 B (upd H p o') σ δ := by
  refine ⟨⟨e.gr.b, fun a u h => ?_, ex_upd e.gr.sub hB, e.gr.out⟩, e.len, fun i s hi => ?_, e.sep⟩
  · have : a ≠ p := fun z => by rw [z, h0] at h; cases h
    rw [upd_ne this]
    exact e.gr.h a u h
  · have z := e.at_ i s hi
    cases s with
    | no => trivial
    | d y => exact z
    | ob φ => exact z
    | own ds =>
      obtain ⟨l, xs, z1, z2, z3, z4, z5⟩ := z
      exact ⟨l, xs, z1, z2, z3, by rw [upd_ne (ne_of z4 hp (fun w => hn _ w.symm))]; exact z4, z5⟩
theorem noOwn_get {δ : List Sl} (h : noOwn δ = true) (i : Nat) (ds : List PyData) : δ[i]? ≠ some (.own ds) := fun q => by
  have := List.all_eq_true.mp h _ (List.mem_of_getElem? q)
  cases this
/-- nothing is owned: anything that is no data may be written -/
theorem _root_.DL.EnvOk.mutN {B0 H0 B H : Hp} {σ : Ss} {δ : List Sl} (e : EnvOk B0 H0 B H σ δ) (hno : noOwn δ = true) {p : Addr} {o' : HO} (h0 : H0 p = none) (hB : B p = none) : EnvOk B0 H0 B (upd H p o') σ δ := by
  refine ⟨⟨e.gr.b, fun a u h => ?_, ex_upd e.gr.sub hB, e.gr.out⟩, e.len, fun i s hi => ?_, e.sep⟩
  · have : a ≠ p := fun z => by rw [z, h0] at h; cases h
    rw [upd_ne this]
    exact e.gr.h a u h
  · have z := e.at_ i s hi
    cases s with
    | no => trivial
    | d y => exact z
    | ob φ => exact z
    | own ds => exact absurd hi (noOwn_get hno i ds)
/-- more is data from here on -/
theorem _root_.DL.EnvOk.reB {B0 H0 B H B' : Hp} {σ : Ss} {δ : List Sl} (e : EnvOk B0 H0 B H σ δ) (hno : noOwn δ = true) (h1 : Ex B B') (h2 : Ex B' H) (h3 : ∀ l, H0 l ≠ none → B0 l = none → B' l = none) : EnvOk B0 H0 B' H σ δ := by
  refine ⟨⟨e.gr.b.trans h1, e.gr.h, h2, h3⟩, e.len, fun i s hi => ?_, e.sep⟩
  have z := e.at_ i s hi
  cases s with
  | no => trivial
  | d y => obtain ⟨v, z1, z2⟩ := z; exact ⟨v, z1, z2.mono h1⟩
  | ob φ => obtain ⟨v, z1, z2, z3⟩ := z; exact ⟨v, z1, z2, z2 _ _ _ h1 z3⟩
  | own ds => exact absurd hi (noOwn_get hno i ds)
theorem set_self {α : Type} {l : List α} {i : Nat} {a : α} (h : l[i]? = some a) : l.set i a = l := by
  apply List.ext_getElem?
  intro j
  by_cases q : i = j
  · subst q
    rw [List.getElem?_set_self (List.getElem?_eq_some_iff.mp h).1, h]
  · rw [List.getElem?_set_ne q]
theorem _root_.DL.EnvOk.know {B0 H0 B H : Hp} {σ : Ss} {δ : List Sl} (e : EnvOk B0 H0 B H σ δ) {i : Nat} {v : V} {r : Sl} (h : σ[i]? = some (some v)) (hv : VOk B v r) : EnvOk B0 H0 B H σ (δ.set i r) := by
  have z := e.set i hv
  rw [set_self h] at z
  exact z
theorem putK_mem {κ : Type} [DecidableEq κ] {kvs : List (κ × V)} {k k' : κ} {v v' : V} (h : (k', v') ∈ putK kvs k v) : k' = k ∨ ∃ u, (k', u) ∈ kvs := by
  unfold putK at h
  split at h
  · obtain ⟨⟨a, b⟩, h1, h2⟩ := List.mem_map.mp h
    by_cases q : a = k
    · simp [q] at h2
      exact .inl h2.1.symm
    · simp [q] at h2
      exact .inr ⟨b, by rw [← h2.1]; exact h1⟩
  · rcases List.mem_append.mp h with h | h
    · exact .inr ⟨_, h⟩
    · rw [List.mem_singleton] at h
      exact .inl (Prod.mk.inj h).1
theorem valV_mem {κ : Type} [DecidableEq κ] {kvs : List (κ × V)} {k : κ} {v : V} (h : (k, v) ∈ kvs) : ∃ u, valV kvs k = some u := by
  cases q : valV kvs k with
  | some u => exact ⟨u, rfl⟩
  | none => exact absurd (List.mem_map_of_mem (f := (·.1)) h) (valV_not q)
/-- a key of ints -/
def keyI (l : List Int) : List Key := l.map Sum.inl
theorem keyI_kV (l : List Int) : (keyI l).map kV = l.map V.int := by
  unfold keyI
  rw [List.map_map]
  rfl
theorem keyI_inj {l m : List Int} (h : keyI l = keyI m) : l = m := by
  have : ∀ (l m : List Int), keyI l = keyI m → l = m := fun l => by
    induction l with
    | nil => intro m h; cases m with
      | nil => rfl
      | cons a m => cases h
    | cons a l ih => intro m h; cases m with
      | nil => cases h
      | cons b m =>
        injection h with h1 h2
        injection h1 with h1
        rw [h1, ih m h2]
  exact this l m h
theorem sget {σ : Ss} {i j : Nat} {v : Option V} (h : i ≠ j) : (σ.set i v)[j]? = σ[j]? := List.getElem?_set_ne h
end BK
set_option maxRecDepth 100000
set_option maxHeartbeats 4000000
namespace BK
open PySem L2 DL CM
local macro_rules | `(tactic| walk_at "rd") => `(tactic| first
  | with_reducible exact rd_addI
  | with_reducible exact rd_sub
  | with_reducible exact rd_lt
  | with_reducible exact rd_le
  | with_reducible exact rd_gt
  | with_reducible exact rd_ge
  | with_reducible exact rd_eqI
  | with_reducible exact rd_neI
  | with_reducible exact rd_is
  | with_reducible exact rd_isNot
  | exact rd_mul (cmul_s (by omega) (by omega))
  | exact rd_mod (by first | decide | omega)
  | exact rd_fdv (by first | decide | omega)
  | exact rd_consI (by first | omega | (simp; omega) | simp)
  | exact rd_snocI (by first | omega | (simp; omega) | simp)
  | exact rd_catI (by first | omega | (simp; omega) | simp)
  | with_reducible exact rd_head0
  | with_reducible exact rd_ww
  | with_reducible exact rd_mm
  | with_reducible exact rd_wm
  | with_reducible exact rd_mw
  | with_reducible exact rd_nww
  | exact rd_ixT rfl
  | exact rd_ixL rfl
  | exact rd_addT (by first | decide | simp))
local macro_rules | `(tactic| walk_at "R") => `(tactic| first
  | exact ⟨_, _, _, rfl, rfl⟩
  | exact ⟨_, rfl, (by first | omega | (simp; omega) | simp), rfl⟩)
local macro_rules | `(tactic| walk_at "rc") => `(tactic| first
  | with_reducible exact rc_int
  | with_reducible exact rc_intB
  | with_reducible exact rc_lenT
  | with_reducible exact rc_lenL
  | with_reducible exact rc_abs
  | with_reducible exact rc_tupL
  | with_reducible exact rc_tupT)
local macro_rules | `(tactic| walk_at "ev") => `(tactic| first
  | with_reducible exact ev_int
  | with_reducible exact ev_non
  | with_reducible exact ev_bl
  | with_reducible exact ev_str
  | exact ev_var rfl
  | exact ev_ob rfl
  | ((with_reducible refine' ev_isi ?k1 ?k2); (case k1 => walk_at "ev"); (case k2 => first | exact kit_ii | exact kit_ib | exact kit_tt | exact kit_it))
  | ((with_reducible refine' ev_op ?k1 ?k2 ?k3); (case k1 => walk_at "ev"); (case k2 => walk_at "ev"); (case k3 => walk_at "rd"))
  | ((with_reducible refine' ev_un ?k1 ?k2); (case k1 => walk_at "ev"); (case k2 => exact ru_neg))
  | ((with_reducible refine' ev_cb ?k1 ?k2); (case k1 => walk_at "ed"); (case k2 => walk_at "rc"))
  | ((with_reducible refine' ev_tup ?k1 ?k2); (case k1 => walk_at "ed"); (case k2 => exact Nat.le_of_ble_eq_true rfl))
  | ((with_reducible refine' ev_andV ?k1 ?k2); (case k1 => walk_at "ev"); (case k2 => (intro _; walk_at "ev")))
  | ((with_reducible refine' ev_orV ?k1 ?k2); (case k1 => walk_at "ev"); (case k2 => (intro _; walk_at "ev")))
  | ((with_reducible refine' ev_notV ?k1); (case k1 => walk_at "ev"))
  | ((with_reducible refine' ev_chain ?k1 ?k2 ?k3 ?k4 ?k5); (case k1 => walk_at "ev"); (case k2 => walk_at "ev"); (case k3 => (intro _; walk_at "ev")); (case k4 => walk_at "rd"); (case k5 => walk_at "rd"))
  | ((with_reducible refine' ev_fld ?k1 ?k2); (case k1 => walk_at "ev"); (case k2 => walk_at "F"))
  | ((with_reducible refine' ev_meth ?k1 ?k2 ?k3 ?k4); (case k1 => walk_at "ev"); (case k2 => walk_at "I"); (case k3 => walk_at "ea"); (case k4 => walk_at "R"))
  | ((with_reducible refine' ev_call ?k1 ?k2); (case k1 => walk_at "ea"); (case k2 => walk_at "R"))
  | ((with_reducible refine' ev_sl1 ?k1); (case k1 => walk_at "ev"))
  | ((with_reducible refine' ev_sl ?k1 ?k2 ?k3); (case k1 => walk_at "ev"); (case k2 => walk_at "eo"); (case k3 => walk_at "eo"))
  | ((with_reducible refine' ev_ofL (el_sl ?k1 ?k2 ?k3)); (case k1 => walk_at "ev"); (case k2 => walk_at "eo"); (case k3 => walk_at "eo")))
local macro_rules | `(tactic| walk_at "eo") => `(tactic| first
  | with_reducible exact eo_none
  | ((with_reducible refine' eo_some ?k1); (case k1 => walk_at "ev")))
local macro_rules | `(tactic| walk_at "ed") => `(tactic| first
  | with_reducible exact ed_nil
  | ((with_reducible refine' ed_cons ?k1 ?k2); (case k1 => walk_at "ev"); (case k2 => walk_at "ed")))
local macro_rules | `(tactic| walk_at "ea") => `(tactic| first
  | with_reducible exact ea_nil
  | ((with_reducible refine' ea_cons ?k1 ?k2); (case k1 => walk_at "ev"); (case k2 => walk_at "ea")))
local macro_rules | `(tactic| walk_at "et") => `(tactic| first
  | ((with_reducible refine' et_test ?k1); (case k1 => walk_at "ev"))
  | ((with_reducible refine' et_B ?k1); (case k1 => walk_at "ev"))
  | ((with_reducible refine' et_not ?k1); (case k1 => walk_at "et"))
  | ((with_reducible refine' et_and ?k1 ?k2); (case k1 => walk_at "et"); (case k2 => (intro _; walk_at "et")))
  | ((with_reducible refine' et_or ?k1 ?k2); (case k1 => walk_at "et"); (case k2 => (intro _; walk_at "et"))))
local macro_rules | `(tactic| walk_at "give") => `(tactic| ((with_reducible refine' xs_give ?k1 ?_); (case k1 => walk_at "ev")))
local macro_rules | `(tactic| walk_at "ret") => `(tactic| ((with_reducible refine' xs_ret ?k1 ?_); (case k1 => walk_at "ev")))
local macro_rules | `(tactic| walk_at "tst") => `(tactic| ((with_reducible refine' et_tst ?k1 ?_); (case k1 => walk_at "ev")))
local macro_rules | `(tactic| walk_at "etto") => `(tactic| ((with_reducible refine' et_to ?k1 ?_); (case k1 => walk_at "et")))
local macro_rules | `(tactic| walk_at "evto") => `(tactic| ((with_reducible refine' ev_dto ?k1 ?_); (case k1 => walk_at "ev")))

section
variable {P : Program} {w : World} {K : PySem.W.Frag} {mg : Str → Option Value} {base : Heap}
def R_is_integer (as : List Sl) (r : Sl) : Prop := ∃ i lo hi : Int, as = [.d (.int i), .d (.int lo), .d (.int hi)] ∧ r = .d (.bool (decide (lo ≤ i) && decide (i ≤ hi)))
theorem R_is_integer_len (as : List Sl) (r : Sl) (h : R_is_integer as r) : as.length = 3 := by obtain ⟨_, _, _, rfl, _⟩ := h; rfl
theorem ok_is_integer (T : Txt K mg) : FnOk P w K mg base CX0 1 T.is_integer.f T.is_integer.fd P_is_integer (spR R_is_integer) := by
  refine T.is_integer.F.ok sc_is_integer (fun vs H Q E h => ?_) (fun cdv A outer s H vs Q E hr h => ?_)
  · exact spR_len (R_is_integer_len) h
  · refine ⟨_, (pss_one (ps_ret (pe_and (pe_callB (k_isi (K := K) rfl) (by rfl) T.b_isinstance (by decide +kernel) (pa_cons (pv 0) (pa_cons (pe_bltn (v := .ty "int") (by rfl) T.b_int (by decide +kernel) rfl) pa_nil))) (pe_and (pe_not (pe_callB (k_isi (K := K) rfl) (by rfl) T.b_isinstance (by decide +kernel) (pa_cons (pv 0) (pa_cons (pe_bltn (v := .ty "bool") (by rfl) T.b_bool (by decide +kernel) rfl) pa_nil)))) (pe_one (pe_chain (op_le') (op_le') (pv 1) (pv 0) (pv 2))))))), ?_⟩
    refine spR_run h (fun as r hR => ?_)
    obtain ⟨i, lo, hi, rfl, rfl⟩ := hR
    walk_at "ret"
    show Sl.d _ = Sl.d _
    simp
def R_is_number := R_is_integer
theorem R_is_number_len (as : List Sl) (r : Sl) (h : R_is_number as r) : as.length = 3 := R_is_integer_len as r h
theorem ok_is_number (T : Txt K mg) : FnOk P w K mg base CX0 1 T.is_number.f T.is_number.fd P_is_number (spR R_is_number) := by
  refine T.is_number.F.ok sc_is_number (fun vs H Q E h => ?_) (fun cdv A outer s H vs Q E hr h => ?_)
  · exact spR_len (R_is_number_len) h
  · refine ⟨_, (pss_one (ps_ret (pe_and (pe_callB (k_isi (K := K) rfl) (by rfl) T.b_isinstance (by decide +kernel) (pa_cons (pv 0) (pa_cons (pe_bltn (v := .ty "int") (by rfl) T.b_int (by decide +kernel) rfl) pa_nil))) (pe_and (pe_not (pe_callB (k_isi (K := K) rfl) (by rfl) T.b_isinstance (by decide +kernel) (pa_cons (pv 0) (pa_cons (pe_bltn (v := .ty "bool") (by rfl) T.b_bool (by decide +kernel) rfl) pa_nil)))) (pe_one (pe_chain (op_le') (op_le') (pv 1) (pv 0) (pv 2))))))), ?_⟩
    refine spR_run h (fun as r hR => ?_)
    obtain ⟨i, lo, hi, rfl, rfl⟩ := hR
    walk_at "ret"
    show Sl.d _ = Sl.d _
    simp
def R_trimmed (as : List Sl) (r : Sl) : Prop := ∃ l : List Int, as = [.d (ti l)] ∧ l.length ≤ 90000 ∧ r = .d (ti (trim l))
theorem R_trimmed_len (as : List Sl) (r : Sl) (h : R_trimmed as r) : as.length = 1 := by obtain ⟨_, rfl, _⟩ := h; rfl
theorem ok_trimmed (T : Txt K mg) : FnOk P w K mg base CX0 1 T.trimmed.f T.trimmed.fd P_trimmed (spR R_trimmed) := by
  refine T.trimmed.F.ok sc_trimmed (fun vs H Q E h => ?_) (fun cdv A outer s H vs Q E hr h => ?_)
  · exact spR_len (R_trimmed_len) h
  · refine ⟨_, (pss_cons (ps_set (i := 1) sc_trimmed.nd rfl (Or.inl rfl) (pe_callB (k_len (K := K) rfl) (by rfl) T.b_len (by decide +kernel) (pa_cons (pv 0) pa_nil)))
    (pss_cons (ps_while PassesOwn.never (PW.pt (pw_and (pt_cmpR (op_gt') (pv 1) pe_int (nomark _)) (pw_and1 (pt_cmpR (k_eq (K := K) rfl hr.units) (pe_ix (k_ix (K := K) rfl) (pv 0) (pe_op (op_subG) (pv 1) pe_int) (fun _ _ => rfl)) pe_int (nomark _))))) (pss_one (ps_aug (i := 1) sc_trimmed.nd rfl (Or.inl rfl) pe_int ip_sub)))
    (pss_one (ps_ret (pe_callTy (k_tup (K := K) rfl) (by rfl) T.b_tuple (by decide +kernel) (pa_cons (pe_slice (k_sl (K := K) rfl) (pv 0) po_none (po_some (pv 1))) pa_nil)))))), ?_⟩
    refine spR_run h (fun as r hR => ?_)
    obtain ⟨l, rfl, hl, rfl⟩ := hR
    walk_at "give"
    refine xs_seq (xs_while (fun m δ' => m ≤ l.length ∧ trim (l.take m) = trim l ∧ δ' = [.d (ti l), .d (.int (m : Int))]) l.length ⟨Nat.le_refl _, by rw [List.take_length], ?_⟩ ?_)
    · simp [ti]
    · rintro m δ1 ⟨hm, ht, rfl⟩
      cases m with
      | zero =>
        refine ⟨false, ?_, fun z => (nomatch z), fun _ => ?_⟩
        · refine et_and0 ?_
          walk_at "tst"
          simp
        · walk_at "ret"
          show Sl.d _ = Sl.d _
          have e := cutD_take (ds := l.map PyData.int) (n := 0) (Nat.zero_le _)
          rw [e, ← ht]
          simp [ti, trim]
      | succ m =>
        obtain ⟨a, ha⟩ : ∃ a, l[m]? = some a := ⟨l[m], List.getElem?_eq_getElem (by omega)⟩
        refine ⟨decide (a = 0), ?_, fun z => ?_, fun z => ?_⟩
        · refine et_and1 ?_ ?_
          · walk_at "tst"
            simp
          · refine et_test (ev_op (ev_op (ev_var rfl) (ev_op (ev_var rfl) ev_int rd_sub) (rd_ixT (atI_ints (j := m) ?_ ha))) ev_int rd_eqI)
            omega
        · refine xs_aug (a := ((m + 1 : Nat) : Int)) (b := 1) rfl ev_int ⟨m, Nat.lt_succ_self m, by omega, ?_, ?_⟩
          · rw [← ht]
            exact (trim_take ha (of_decide_eq_true z)).symm
          · simp
        · walk_at "ret"
          show Sl.d _ = Sl.d _
          have e := cutD_take (ds := l.map PyData.int) (n := m + 1) (by simpa using hm)
          rw [e, ← ht, trim_take' ha (of_decide_eq_false z)]
          simp [ti, List.map_take]
def R_moved_tape (as : List Sl) (r : Sl) : Prop := ∃ (t : Tp) (d : Int), as = [.d (tpD t), .d (.int d)] ∧ t.l.length ≤ 80000 ∧ t.r.length ≤ 80000 ∧ r = .d (tpD (mv t d))
theorem R_moved_tape_len (as : List Sl) (r : Sl) (h : R_moved_tape as r) : as.length = 2 := by obtain ⟨_, _, rfl, _⟩ := h; rfl
theorem ok_moved_tape (T : Txt K mg) : FnOk P w K mg base CX0 2 T.moved_tape.f T.moved_tape.fd P_moved_tape (spR R_moved_tape) := by
  refine T.moved_tape.F.ok sc_moved_tape (fun vs H Q E h => ?_) (fun cdv A outer s H vs Q E hr h => ?_)
  · exact spR_len (R_moved_tape_len) h
  · refine ⟨_, (pss_cons (ps_asg (pv 0) (k_pgT (K := K) rfl rfl (pgs_cons (pg_name (i := 2) sc_moved_tape.nd rfl (Or.inl rfl)) (pgs_cons (pg_name (i := 3) sc_moved_tape.nd rfl (Or.inl rfl)) (pgs_cons (pg_name (i := 4) sc_moved_tape.nd rfl (Or.inl rfl)) pgs_nil)))))
    (pss_cons (ps_if (pt_cmpR (k_eq (K := K) rfl hr.units) (pv 1) pe_int (nomark _)) (pss_one (ps_ret (pe_tup (pa_cons (pe_call (ok_trimmed T) (hr.mono (by decide)) (by rfl) T.trimmed.g T.trimmed.F.kp T.trimmed.b .nil pass0 (pa_cons (pe_op (k_add (K := K) rfl) (pe_tup (pa_cons (pv 3) pa_nil)) (pv 2)) pa_nil)) (pa_cons (pe_ix (k_ix (K := K) rfl) (pe_op (k_add (K := K) rfl) (pv 4) (pe_tup (pa_cons pe_int pa_nil))) pe_int (fun _ _ => rfl)) (pa_cons (pe_slice (k_sl (K := K) rfl) (pv 4) (po_some pe_int) po_none) pa_nil)))))) pss_nil)
    (pss_cons (ps_if (pt_cmpR (k_eq (K := K) rfl hr.units) (pv 1) (pe_un un_negG pe_int) (nomark _)) (pss_one (ps_ret (pe_tup (pa_cons (pe_slice (k_sl (K := K) rfl) (pv 2) (po_some pe_int) po_none) (pa_cons (pe_ix (k_ix (K := K) rfl) (pe_op (k_add (K := K) rfl) (pv 2) (pe_tup (pa_cons pe_int pa_nil))) pe_int (fun _ _ => rfl)) (pa_cons (pe_call (ok_trimmed T) (hr.mono (by decide)) (by rfl) T.trimmed.g T.trimmed.F.kp T.trimmed.b .nil pass0 (pa_cons (pe_op (k_add (K := K) rfl) (pe_tup (pa_cons (pv 3) pa_nil)) (pv 4)) pa_nil)) pa_nil)))))) pss_nil)
    (pss_one (ps_ret (pv 0)))))), ?_⟩
    refine spR_run h (fun as r hR => ?_)
    obtain ⟨t, d, rfl, hl, hr', rfl⟩ := hR
    refine xs_giveG (ev_var rfl) (eg_tup rfl (egs_cons eg_name (egs_cons eg_name (egs_cons eg_name egs_nil)))) ?_
    by_cases h1 : d = 1
    · refine xs_seq (xs_if1 ?_ ?_)
      · walk_at "tst"
        simp [h1]
      · walk_at "ret"
        show Sl.d _ = Sl.d _
        simp [mv, h1]
    · refine xs_skip ?_ ?_
      · walk_at "tst"
        simp [h1]
      · by_cases h2 : d = -1
        · refine xs_seq (xs_if1 ?_ ?_)
          · walk_at "tst"
            simp [h2]
          · walk_at "ret"
            show Sl.d _ = Sl.d _
            simp [mv, h2]
        · refine xs_skip ?_ ?_
          · walk_at "tst"
            simp [h2]
          · walk_at "ret"
            show Sl.d _ = Sl.d _
            simp [mv, h1, h2]
end
end BK
set_option maxRecDepth 100000
set_option maxHeartbeats 4000000
namespace BK
open PySem L2 DL CM
local macro_rules | `(tactic| walk_at "rd") => `(tactic| first
  | with_reducible exact rd_addI
  | with_reducible exact rd_sub
  | with_reducible exact rd_lt
  | with_reducible exact rd_le
  | with_reducible exact rd_gt
  | with_reducible exact rd_ge
  | with_reducible exact rd_eqI
  | with_reducible exact rd_neI
  | with_reducible exact rd_is
  | with_reducible exact rd_isNot
  | exact rd_mul (cmul_s (by omega) (by omega))
  | exact rd_mod (by first | decide | omega)
  | exact rd_fdv (by first | decide | omega)
  | exact rd_consI (by first | omega | (simp; omega) | simp)
  | exact rd_snocI (by first | omega | (simp; omega) | simp)
  | exact rd_catI (by first | omega | (simp; omega) | simp)
  | with_reducible exact rd_head0
  | with_reducible exact rd_ww
  | with_reducible exact rd_mm
  | with_reducible exact rd_wm
  | with_reducible exact rd_mw
  | with_reducible exact rd_nww
  | exact rd_ixT rfl
  | exact rd_ixL rfl
  | exact rd_addT (by first | decide | simp))
local macro_rules | `(tactic| walk_at "R") => `(tactic| first
  | exact ⟨_, _, _, rfl, rfl⟩
  | exact ⟨_, rfl, (by first | omega | (simp; omega) | simp), rfl⟩)
local macro_rules | `(tactic| walk_at "rc") => `(tactic| first
  | with_reducible exact rc_int
  | with_reducible exact rc_intB
  | with_reducible exact rc_lenT
  | with_reducible exact rc_lenL
  | with_reducible exact rc_abs
  | with_reducible exact rc_tupL
  | with_reducible exact rc_tupT)
local macro_rules | `(tactic| walk_at "ev") => `(tactic| first
  | with_reducible exact ev_int
  | with_reducible exact ev_non
  | with_reducible exact ev_bl
  | with_reducible exact ev_str
  | exact ev_var rfl
  | exact ev_ob rfl
  | ((with_reducible refine' ev_isi ?k1 ?k2); (case k1 => walk_at "ev"); (case k2 => first | exact kit_ii | exact kit_ib | exact kit_tt | exact kit_it))
  | ((with_reducible refine' ev_op ?k1 ?k2 ?k3); (case k1 => walk_at "ev"); (case k2 => walk_at "ev"); (case k3 => walk_at "rd"))
  | ((with_reducible refine' ev_un ?k1 ?k2); (case k1 => walk_at "ev"); (case k2 => exact ru_neg))
  | ((with_reducible refine' ev_cb ?k1 ?k2); (case k1 => walk_at "ed"); (case k2 => walk_at "rc"))
  | ((with_reducible refine' ev_tup ?k1 ?k2); (case k1 => walk_at "ed"); (case k2 => exact Nat.le_of_ble_eq_true rfl))
  | ((with_reducible refine' ev_andV ?k1 ?k2); (case k1 => walk_at "ev"); (case k2 => (intro _; walk_at "ev")))
  | ((with_reducible refine' ev_orV ?k1 ?k2); (case k1 => walk_at "ev"); (case k2 => (intro _; walk_at "ev")))
  | ((with_reducible refine' ev_notV ?k1); (case k1 => walk_at "ev"))
  | ((with_reducible refine' ev_chain ?k1 ?k2 ?k3 ?k4 ?k5); (case k1 => walk_at "ev"); (case k2 => walk_at "ev"); (case k3 => (intro _; walk_at "ev")); (case k4 => walk_at "rd"); (case k5 => walk_at "rd"))
  | ((with_reducible refine' ev_fld ?k1 ?k2); (case k1 => walk_at "ev"); (case k2 => walk_at "F"))
  | ((with_reducible refine' ev_meth ?k1 ?k2 ?k3 ?k4); (case k1 => walk_at "ev"); (case k2 => walk_at "I"); (case k3 => walk_at "ea"); (case k4 => walk_at "R"))
  | ((with_reducible refine' ev_call ?k1 ?k2); (case k1 => walk_at "ea"); (case k2 => walk_at "R"))
  | ((with_reducible refine' ev_sl1 ?k1); (case k1 => walk_at "ev"))
  | ((with_reducible refine' ev_sl ?k1 ?k2 ?k3); (case k1 => walk_at "ev"); (case k2 => walk_at "eo"); (case k3 => walk_at "eo"))
  | ((with_reducible refine' ev_ofL (el_sl ?k1 ?k2 ?k3)); (case k1 => walk_at "ev"); (case k2 => walk_at "eo"); (case k3 => walk_at "eo")))
local macro_rules | `(tactic| walk_at "eo") => `(tactic| first
  | with_reducible exact eo_none
  | ((with_reducible refine' eo_some ?k1); (case k1 => walk_at "ev")))
local macro_rules | `(tactic| walk_at "ed") => `(tactic| first
  | with_reducible exact ed_nil
  | ((with_reducible refine' ed_cons ?k1 ?k2); (case k1 => walk_at "ev"); (case k2 => walk_at "ed")))
local macro_rules | `(tactic| walk_at "ea") => `(tactic| first
  | with_reducible exact ea_nil
  | ((with_reducible refine' ea_cons ?k1 ?k2); (case k1 => walk_at "ev"); (case k2 => walk_at "ea")))
local macro_rules | `(tactic| walk_at "et") => `(tactic| first
  | ((with_reducible refine' et_test ?k1); (case k1 => walk_at "ev"))
  | ((with_reducible refine' et_B ?k1); (case k1 => walk_at "ev"))
  | ((with_reducible refine' et_not ?k1); (case k1 => walk_at "et"))
  | ((with_reducible refine' et_and ?k1 ?k2); (case k1 => walk_at "et"); (case k2 => (intro _; walk_at "et")))
  | ((with_reducible refine' et_or ?k1 ?k2); (case k1 => walk_at "et"); (case k2 => (intro _; walk_at "et"))))
local macro_rules | `(tactic| walk_at "give") => `(tactic| ((with_reducible refine' xs_give ?k1 ?_); (case k1 => walk_at "ev")))
local macro_rules | `(tactic| walk_at "ret") => `(tactic| ((with_reducible refine' xs_ret ?k1 ?_); (case k1 => walk_at "ev")))
local macro_rules | `(tactic| walk_at "tst") => `(tactic| ((with_reducible refine' et_tst ?k1 ?_); (case k1 => walk_at "ev")))
local macro_rules | `(tactic| walk_at "etto") => `(tactic| ((with_reducible refine' et_to ?k1 ?_); (case k1 => walk_at "et")))
local macro_rules | `(tactic| walk_at "evto") => `(tactic| ((with_reducible refine' ev_dto ?k1 ?_); (case k1 => walk_at "ev")))

section
variable {P : Program} {w : World} {K : PySem.W.Frag} {mg : Str → Option Value} {base : Heap}
def inD (lo hi : Int) : PyData → Bool
  | .int i => decide (lo ≤ i) && decide (i ≤ hi)
  | _ => false
def R_is_tuple (as : List Sl) (r : Sl) : Prop := ∃ (l : List Int) (lo hi : Int), as = [.d (ti l), .d (.int l.length), .d (.int lo), .d (.int hi)] ∧ l.length ≤ 10000 ∧ (∀ a ∈ l, lo ≤ a ∧ a ≤ hi) ∧ r = .d (.bool true)
theorem R_is_tuple_len (as : List Sl) (r : Sl) (h : R_is_tuple as r) : as.length = 4 := by obtain ⟨_, _, _, rfl, _⟩ := h; rfl
theorem all_inD {l : List Int} {lo hi : Int} (h : ∀ a ∈ l, lo ≤ a ∧ a ≤ hi) : ((l.map PyData.int).map (inD lo hi)).all id = true := by
  rw [List.all_eq_true]
  intro x hx
  simp only [List.mem_map] at hx
  obtain ⟨d, ⟨a, ha, rfl⟩, rfl⟩ := hx
  have := h a ha
  simp [inD, this.1, this.2]
theorem ok_is_tuple (T : Txt K mg) : FnOk P w K mg base CX0 2 T.is_tuple.f T.is_tuple.fd P_is_tuple (spR R_is_tuple) := by
  refine T.is_tuple.F.ok sc_is_tuple (fun vs H Q E h => ?_) (fun cdv A outer s H vs Q E hr h => ?_)
  · exact spR_len (R_is_tuple_len) h
  · refine ⟨_, (pss_one (ps_ret (pe_and (pe_callB (k_isi (K := K) rfl) (by rfl) T.b_isinstance (by decide +kernel) (pa_cons (pv 0) (pa_cons (pe_bltn (v := .ty "tuple") (by rfl) T.b_tuple (by decide +kernel) rfl) pa_nil))) (pe_and (pe_cmpR (k_eq (K := K) rfl hr.units) (pe_callB (k_len (K := K) rfl) (by rfl) T.b_len (by decide +kernel) (pa_cons (pv 0) pa_nil)) (pv 1) (nomark _)) (pe_one (pe_callB (k_all (K := K) rfl rfl) (by rfl) T.b_all (by decide +kernel) (pa_cons (pe_lc (own := [("one", 4)]) rfl sc_is_tuple.nd (k_piT (K := K) rfl (pv 0)) (blkOk_by (own := [("one", 4)]) (N := N_is_tuple) (sc := defScope s_is_tuple) (by decide +kernel)) (fun _ _ _ _ _ => (pg_name (i := 4) sc_is_tuple.nd rfl (Or.inl rfl))) (fun _ _ _ _ _ => pts_nil) (fun _ _ _ _ _ => (pe_call (ok_is_number T) (hr.mono (by decide)) (by rfl) T.is_number.g T.is_number.F.kp T.is_number.b .nil pass0 (pa_cons (pv 4) (pa_cons (pv 2) (pa_cons (pv 3) pa_nil)))))) pa_nil))))))), ?_⟩
    refine spR_run h (fun as r hR => ?_)
    obtain ⟨l, lo, hi, rfl, hl, hb, rfl⟩ := hR
    refine xs_ret (ev_and1 (ev_isi (ev_var rfl) kit_tt) (ev_and1 (ev_bto (ev_op (ev_cb (ed_cons (ev_var rfl) ed_nil) rc_lenT) (ev_var rfl) rd_eqI) (by simp)) ?_)) rfl
    have e : (l.map PyData.int).map (fun d => PyData.bool (inD lo hi d)) = ((l.map PyData.int).map (inD lo hi)).map PyData.bool := by simp
    refine ev_bto (ev_cb (ed_cons (ev_ofL (el_to (el_lc1 (fun d => .bool (inD lo hi d)) (ei_tup (ev_var rfl)) ?_ ?_) e)) ed_nil) rc_all) (all_inD hb)
    · simp
      omega
    · intro d hd
      obtain ⟨i, hi', rfl⟩ := List.mem_map.mp hd
      exact ⟨_, _, eg_name, by simp, ev_call (ea_cons (ev_var rfl) (ea_cons (ev_var rfl) (ea_cons (ev_var rfl) ea_nil))) ⟨_, _, _, rfl, rfl⟩⟩
def R_backward (as : List Sl) (r : Sl) : Prop := ∃ rw : Rw, as = [.d (rwD rw)] ∧ r = .d (rwD rw.bw)
theorem R_backward_len (as : List Sl) (r : Sl) (h : R_backward as r) : as.length = 1 := by obtain ⟨_, rfl, _⟩ := h; rfl
def negD : PyData → PyData
  | .int i => .int (-i)
  | d => d
theorem ok_backward (T : Txt K mg) : FnOk P w K mg base CX0 1 T.backward.f T.backward.fd P_backward (spR R_backward) := by
  refine T.backward.F.ok sc_backward (fun vs H Q E h => ?_) (fun cdv A outer s H vs Q E hr h => ?_)
  · exact spR_len (R_backward_len) h
  · refine ⟨_, (pss_cons (ps_if (pt_cmpR (k_eq (K := K) rfl hr.units) (pe_ix (k_ix (K := K) rfl) (pv 0) pe_int (fun _ _ => rfl)) pe_str (nomark _)) (pss_one (ps_ret (pe_tup (pa_cons pe_str (pa_cons (pe_ix (k_ix (K := K) rfl) (pv 0) pe_int (fun _ _ => rfl)) (pa_cons (pe_ix (k_ix (K := K) rfl) (pv 0) pe_int (fun _ _ => rfl)) (pa_cons (pe_ix (k_ix (K := K) rfl) (pv 0) pe_int (fun _ _ => rfl)) (pa_cons (pe_ix (k_ix (K := K) rfl) (pv 0) pe_int (fun _ _ => rfl)) pa_nil)))))))) pss_nil)
    (pss_one (ps_ret (pe_tup (pa_cons pe_str (pa_cons (pe_ix (k_ix (K := K) rfl) (pv 0) pe_int (fun _ _ => rfl)) (pa_cons (pe_callTy (k_tup (K := K) rfl) (by rfl) T.b_tuple (by decide +kernel) (pa_cons (pe_lc (own := [("move", 1)]) rfl sc_backward.nd (k_piT (K := K) rfl (pe_ix (k_ix (K := K) rfl) (pv 0) pe_int (fun _ _ => rfl))) (blkOk_by (own := [("move", 1)]) (N := N_backward) (sc := defScope s_backward) (by decide +kernel)) (fun _ _ _ _ _ => (pg_name (i := 1) sc_backward.nd rfl (Or.inl rfl))) (fun _ _ _ _ _ => pts_nil) (fun _ _ _ _ _ => (pe_un un_negG (pv 1)))) pa_nil)) (pa_cons (pe_ix (k_ix (K := K) rfl) (pv 0) pe_int (fun _ _ => rfl)) pa_nil)))))))), ?_⟩
    refine spR_run h (fun as r hR => ?_)
    obtain ⟨rw, rfl, rfl⟩ := hR
    cases rw with
    | w st a0 a1 a2 b0 b1 b2 nx =>
      refine xs_seq (xs_if1 ?_ ?_)
      · walk_at "etto"
        rfl
      · walk_at "ret"
        rfl
    | m st d0 d1 d2 nx =>
      refine xs_skip ?_ ?_
      · walk_at "etto"
        rfl
      · refine xs_ret (ev_tup (ed_cons ev_str (ed_cons (ev_op (ev_var rfl) ev_int (rd_ixT rfl)) (ed_cons (ev_cb (ed_cons (ev_ofL (el_lc1 negD (ei_tup (ev_op (ev_var rfl) ev_int (rd_ixT rfl))) (Nat.le_of_ble_eq_true rfl) ?_)) ed_nil) rc_tupL) (ed_cons (ev_op (ev_var rfl) ev_int (rd_ixT rfl)) ed_nil)))) (Nat.le_of_ble_eq_true rfl)) rfl
        intro d hd
        obtain ⟨i, hi', rfl⟩ := List.mem_map.mp hd
        exact ⟨_, _, eg_name, by simp, ev_un (ev_var rfl) ru_neg⟩
def R_same (as : List Sl) (r : Sl) : Prop := ∃ (st a0 a1 a2 nx : Int), as = [.d (.int st), .d (ti [a0, a1, a2]), .d (.int nx)] ∧ r = .d (rwD (.w st a0 a1 a2 a0 a1 a2 nx))
theorem R_same_len (as : List Sl) (r : Sl) (h : R_same as r) : as.length = 3 := by obtain ⟨_, _, _, _, _, rfl, _⟩ := h; rfl
theorem ok_same (T : Txt K mg) : FnOk P w K mg base CX0 1 T.same.f T.same.fd P_same (spR R_same) := by
  refine T.same.F.ok sc_same (fun vs H Q E h => ?_) (fun cdv A outer s H vs Q E hr h => ?_)
  · exact spR_len (R_same_len) h
  · refine ⟨_, (pss_one (ps_ret (pe_tup (pa_cons pe_str (pa_cons (pv 0) (pa_cons (pv 1) (pa_cons (pv 1) (pa_cons (pv 2) pa_nil)))))))), ?_⟩
    refine spR_run h (fun as r hR => ?_)
    obtain ⟨st, a0, a1, a2, nx, rfl, rfl⟩ := hR
    walk_at "ret"
    rfl
def bl : Tp := ⟨[], 0, []⟩
def R_clean_begin (as : List Sl) (r : Sl) : Prop := ∃ (q : Int) (t : Tp), as = [.d (upD q t)] ∧ r = .d (cfD ⟨0, t, bl, bl⟩)
theorem R_clean_begin_len (as : List Sl) (r : Sl) (h : R_clean_begin as r) : as.length = 1 := by obtain ⟨_, _, rfl, _⟩ := h; rfl
theorem ok_clean_begin (T : Txt K mg) : FnOk P w K mg base CX0 1 T.clean_begin.f T.clean_begin.fd P_clean_begin (spR R_clean_begin) := by
  refine T.clean_begin.F.ok sc_clean_begin (fun vs H Q E h => ?_) (fun cdv A outer s H vs Q E hr h => ?_)
  · exact spR_len (R_clean_begin_len) h
  · refine ⟨_, (pss_cons (ps_asg (pv 0) (k_pgT (K := K) rfl rfl (pgs_cons (pg_name (i := 1) sc_clean_begin.nd rfl (Or.inl rfl)) (pgs_cons (pg_name (i := 2) sc_clean_begin.nd rfl (Or.inl rfl)) (pgs_cons (pg_name (i := 3) sc_clean_begin.nd rfl (Or.inl rfl)) (pgs_cons (pg_name (i := 4) sc_clean_begin.nd rfl (Or.inl rfl)) pgs_nil))))))
    (pss_one (ps_ret (pe_tup (pa_cons pe_int (pa_cons (pe_tup (pa_cons (pe_tup (pa_cons (pv 2) (pa_cons (pv 3) (pa_cons (pv 4) pa_nil)))) (pa_cons (pe_tup (pa_cons (pe_tup pa_nil) (pa_cons pe_int (pa_cons (pe_tup pa_nil) pa_nil)))) (pa_cons (pe_tup (pa_cons (pe_tup pa_nil) (pa_cons pe_int (pa_cons (pe_tup pa_nil) pa_nil)))) pa_nil)))) pa_nil)))))), ?_⟩
    refine spR_run h (fun as r hR => ?_)
    obtain ⟨q, t, rfl, rfl⟩ := hR
    refine xs_giveG (ev_var rfl) (eg_tup rfl (egs_cons eg_name (egs_cons eg_name (egs_cons eg_name (egs_cons eg_name egs_nil))))) ?_
    walk_at "ret"
    rfl
/-- the marks on a tape that are not blank -/
def cnt (t : Tp) : Nat := ((t.l ++ [t.m] ++ t.r).filter fun a => decide (a ≠ 0)).length
def neD : PyData → Bool
  | .int i => decide (i ≠ 0)
  | _ => false
def R_lent (as : List Sl) (r : Sl) : Prop := ∃ (c : Cf), as = [.d (cfD c)] ∧ c.t1.l.length ≤ 10000 ∧ c.t1.r.length ≤ 10000 ∧ r = .d (.int (cnt c.t1))
theorem R_lent_len (as : List Sl) (r : Sl) (h : R_lent as r) : as.length = 1 := by obtain ⟨_, rfl, _⟩ := h; rfl
theorem ok_lent (T : Txt K mg) : FnOk P w K mg base CX0 1 T.lent.f T.lent.fd P_lent (spR R_lent) := by
  refine T.lent.F.ok sc_lent (fun vs H Q E h => ?_) (fun cdv A outer s H vs Q E hr h => ?_)
  · exact spR_len (R_lent_len) h
  · refine ⟨_, (pss_cons (ps_asg (pe_ix (k_ix (K := K) rfl) (pe_ix (k_ix (K := K) rfl) (pv 0) pe_int (fun _ _ => rfl)) pe_int (fun _ _ => rfl)) (k_pgT (K := K) rfl rfl (pgs_cons (pg_name (i := 1) sc_lent.nd rfl (Or.inl rfl)) (pgs_cons (pg_name (i := 2) sc_lent.nd rfl (Or.inl rfl)) (pgs_cons (pg_name (i := 3) sc_lent.nd rfl (Or.inl rfl)) pgs_nil)))))
    (pss_one (ps_ret (pe_callB (k_len (K := K) rfl) (by rfl) T.b_len (by decide +kernel) (pa_cons (pe_lc (own := [("one", 4)]) rfl sc_lent.nd (k_piT (K := K) rfl (pe_op (k_add (K := K) rfl) (pe_op (k_add (K := K) rfl) (pv 1) (pe_tup (pa_cons (pv 2) pa_nil))) (pv 3))) (blkOk_by (own := [("one", 4)]) (N := N_lent) (sc := defScope s_lent) (by decide +kernel)) (fun _ _ _ _ _ => (pg_name (i := 4) sc_lent.nd rfl (Or.inl rfl))) (fun _ _ _ _ _ => (pts_one (pt_cmpR (k_ne (K := K) rfl hr.units) (pv 4) pe_int (nomark _)))) (fun _ _ _ _ _ => (pv 4))) pa_nil))))), ?_⟩
    refine spR_run h (fun as r hR => ?_)
    obtain ⟨c, rfl, h1, h2, rfl⟩ := hR
    refine xs_giveG (ev_op (ev_op (ev_var rfl) ev_int (rd_ixT rfl)) ev_int (rd_ixT rfl)) (eg_tup rfl (egs_cons eg_name (egs_cons eg_name (egs_cons eg_name egs_nil)))) ?_
    have e : (((c.t1.l ++ [c.t1.m] ++ c.t1.r).map PyData.int).filter neD).map (fun d => d) = ((c.t1.l ++ [c.t1.m] ++ c.t1.r).filter fun a => decide (a ≠ 0)).map PyData.int := by
      rw [List.map_id', List.filter_map]
      rfl
    refine xs_ret (ev_cb (ed_cons (ev_ofL (el_to (el_lc neD (fun d => d) (ei_tup ?_) ?_ ?_) e)) ed_nil) rc_lenL) ?_
    · exact ev_op (ev_op (ev_var rfl) (ev_tup (ed_cons (ev_var rfl) ed_nil) (Nat.le_of_ble_eq_true rfl)) (rd_snocI (by omega))) (ev_var rfl) (rd_catI (by simp; omega))
    · simp
      omega
    · intro d hd
      obtain ⟨i, hi', rfl⟩ := List.mem_map.mp hd
      refine ⟨_, _, eg_name, by simp, et_tst (ev_op (ev_var rfl) ev_int rd_neI) ?_, fun _ => ev_var rfl⟩
      simp [neD]
    · show Sl.d _ = Sl.d _
      simp [cnt]
end
end BK
set_option maxRecDepth 100000
set_option maxHeartbeats 4000000
namespace BK
open PySem L2 DL CM
local macro_rules | `(tactic| walk_at "rd") => `(tactic| first
  | with_reducible exact rd_addI
  | with_reducible exact rd_sub
  | with_reducible exact rd_lt
  | with_reducible exact rd_le
  | with_reducible exact rd_gt
  | with_reducible exact rd_ge
  | with_reducible exact rd_eqI
  | with_reducible exact rd_neI
  | with_reducible exact rd_is
  | with_reducible exact rd_isNot
  | exact rd_mul (cmul_s (by omega) (by omega))
  | exact rd_mod (by first | decide | omega)
  | exact rd_fdv (by first | decide | omega)
  | exact rd_consI (by first | omega | (simp; omega) | simp)
  | exact rd_snocI (by first | omega | (simp; omega) | simp)
  | exact rd_catI (by first | omega | (simp; omega) | simp)
  | with_reducible exact rd_head0
  | with_reducible exact rd_ww
  | with_reducible exact rd_mm
  | with_reducible exact rd_wm
  | with_reducible exact rd_mw
  | with_reducible exact rd_nww
  | exact rd_ixT rfl
  | exact rd_ixL rfl
  | exact rd_addT (by first | decide | simp))
local macro_rules | `(tactic| walk_at "R") => `(tactic| first
  | exact ⟨_, _, _, rfl, rfl⟩
  | exact ⟨_, rfl, (by first | omega | (simp; omega) | simp), rfl⟩)
local macro_rules | `(tactic| walk_at "rc") => `(tactic| first
  | with_reducible exact rc_int
  | with_reducible exact rc_intB
  | with_reducible exact rc_lenT
  | with_reducible exact rc_lenL
  | with_reducible exact rc_abs
  | with_reducible exact rc_tupL
  | with_reducible exact rc_tupT)
local macro_rules | `(tactic| walk_at "ev") => `(tactic| first
  | with_reducible exact ev_int
  | with_reducible exact ev_non
  | with_reducible exact ev_bl
  | with_reducible exact ev_str
  | exact ev_var rfl
  | exact ev_ob rfl
  | ((with_reducible refine' ev_isi ?k1 ?k2); (case k1 => walk_at "ev"); (case k2 => first | exact kit_ii | exact kit_ib | exact kit_tt | exact kit_it))
  | ((with_reducible refine' ev_op ?k1 ?k2 ?k3); (case k1 => walk_at "ev"); (case k2 => walk_at "ev"); (case k3 => walk_at "rd"))
  | ((with_reducible refine' ev_un ?k1 ?k2); (case k1 => walk_at "ev"); (case k2 => exact ru_neg))
  | ((with_reducible refine' ev_cb ?k1 ?k2); (case k1 => walk_at "ed"); (case k2 => walk_at "rc"))
  | ((with_reducible refine' ev_tup ?k1 ?k2); (case k1 => walk_at "ed"); (case k2 => exact Nat.le_of_ble_eq_true rfl))
  | ((with_reducible refine' ev_andV ?k1 ?k2); (case k1 => walk_at "ev"); (case k2 => (intro _; walk_at "ev")))
  | ((with_reducible refine' ev_orV ?k1 ?k2); (case k1 => walk_at "ev"); (case k2 => (intro _; walk_at "ev")))
  | ((with_reducible refine' ev_notV ?k1); (case k1 => walk_at "ev"))
  | ((with_reducible refine' ev_chain ?k1 ?k2 ?k3 ?k4 ?k5); (case k1 => walk_at "ev"); (case k2 => walk_at "ev"); (case k3 => (intro _; walk_at "ev")); (case k4 => walk_at "rd"); (case k5 => walk_at "rd"))
  | ((with_reducible refine' ev_fld ?k1 ?k2); (case k1 => walk_at "ev"); (case k2 => walk_at "F"))
  | ((with_reducible refine' ev_meth ?k1 ?k2 ?k3 ?k4); (case k1 => walk_at "ev"); (case k2 => walk_at "I"); (case k3 => walk_at "ea"); (case k4 => walk_at "R"))
  | ((with_reducible refine' ev_call ?k1 ?k2); (case k1 => walk_at "ea"); (case k2 => walk_at "R"))
  | ((with_reducible refine' ev_sl1 ?k1); (case k1 => walk_at "ev"))
  | ((with_reducible refine' ev_sl ?k1 ?k2 ?k3); (case k1 => walk_at "ev"); (case k2 => walk_at "eo"); (case k3 => walk_at "eo"))
  | ((with_reducible refine' ev_ofL (el_sl ?k1 ?k2 ?k3)); (case k1 => walk_at "ev"); (case k2 => walk_at "eo"); (case k3 => walk_at "eo")))
local macro_rules | `(tactic| walk_at "eo") => `(tactic| first
  | with_reducible exact eo_none
  | ((with_reducible refine' eo_some ?k1); (case k1 => walk_at "ev")))
local macro_rules | `(tactic| walk_at "ed") => `(tactic| first
  | with_reducible exact ed_nil
  | ((with_reducible refine' ed_cons ?k1 ?k2); (case k1 => walk_at "ev"); (case k2 => walk_at "ed")))
local macro_rules | `(tactic| walk_at "ea") => `(tactic| first
  | with_reducible exact ea_nil
  | ((with_reducible refine' ea_cons ?k1 ?k2); (case k1 => walk_at "ev"); (case k2 => walk_at "ea")))
local macro_rules | `(tactic| walk_at "et") => `(tactic| first
  | ((with_reducible refine' et_test ?k1); (case k1 => walk_at "ev"))
  | ((with_reducible refine' et_B ?k1); (case k1 => walk_at "ev"))
  | ((with_reducible refine' et_not ?k1); (case k1 => walk_at "et"))
  | ((with_reducible refine' et_and ?k1 ?k2); (case k1 => walk_at "et"); (case k2 => (intro _; walk_at "et")))
  | ((with_reducible refine' et_or ?k1 ?k2); (case k1 => walk_at "et"); (case k2 => (intro _; walk_at "et"))))
local macro_rules | `(tactic| walk_at "give") => `(tactic| ((with_reducible refine' xs_give ?k1 ?_); (case k1 => walk_at "ev")))
local macro_rules | `(tactic| walk_at "ret") => `(tactic| ((with_reducible refine' xs_ret ?k1 ?_); (case k1 => walk_at "ev")))
local macro_rules | `(tactic| walk_at "tst") => `(tactic| ((with_reducible refine' et_tst ?k1 ?_); (case k1 => walk_at "ev")))
local macro_rules | `(tactic| walk_at "etto") => `(tactic| ((with_reducible refine' et_to ?k1 ?_); (case k1 => walk_at "et")))
local macro_rules | `(tactic| walk_at "evto") => `(tactic| ((with_reducible refine' ev_dto ?k1 ?_); (case k1 => walk_at "ev")))

section
variable {P : Program} {w : World} {K : PySem.W.Frag} {mg : Str → Option Value} {base : Heap}
/-! WC: Tape, Numbers. -/
def R_Tape_is_row (K : PySem.W.Frag) (as : List Sl) (r : Sl) : Prop := ∃ (φ : Hp → V → Prop) (m s : Nat) (b d t : Int), HasF K "marks" φ (.d (.int m)) ∧ HasF K "states" φ (.d (.int s)) ∧
  as = [.ob φ, .d (orD (some (b, d, t)))] ∧ 0 ≤ b ∧ b < m ∧ (d = -1 ∨ d = 1) ∧ 0 ≤ t ∧ t < s ∧ r = .d (.bool true)
theorem R_Tape_is_row_len (K : PySem.W.Frag) (as : List Sl) (r : Sl) (h : R_Tape_is_row K as r) : as.length = 2 := by obtain ⟨_, _, _, _, _, _, _, _, rfl, _⟩ := h; rfl
theorem ok_Tape_is_row (T : Txt K mg) : FnOk P w K mg base CX0 2 T.Tape_is_row.f T.Tape_is_row.fd P_Tape_is_row (spR (R_Tape_is_row K)) := by
  refine T.Tape_is_row.F.ok sc_Tape_is_row (fun vs H Q E h => ?_) (fun cdv A outer s H vs Q E hr h => ?_)
  · exact spR_len (R_Tape_is_row_len K) h
  · refine ⟨_, (pss_cons (ps_if (PW.pt (pw_or (pt_not (pt_val (pe_callB (k_isi (K := K) rfl) (by rfl) T.b_isinstance (by decide +kernel) (pa_cons (pv 1) (pa_cons (pe_bltn (v := .ty "tuple") (by rfl) T.b_tuple (by decide +kernel) rfl) pa_nil))))) (pw_or1 (pt_cmpR (k_ne (K := K) rfl hr.units) (pe_callB (k_len (K := K) rfl) (by rfl) T.b_len (by decide +kernel) (pa_cons (pv 1) pa_nil)) pe_int (nomark _))))) (pss_one (ps_ret pe_bl)) pss_nil)
    (pss_cons (ps_if (PW.pt (pw_or (pt_not (pt_val (pe_call (ok_is_integer T) (hr.mono (by decide)) (by rfl) T.is_integer.g T.is_integer.F.kp T.is_integer.b .nil pass0 (pa_cons (pe_ix (k_ix (K := K) rfl) (pv 1) pe_int (fun _ _ => rfl)) (pa_cons (pe_un un_negG pe_int) (pa_cons pe_int pa_nil)))))) (pw_or1 (pt_cmpR (k_eq (K := K) rfl hr.units) (pe_ix (k_ix (K := K) rfl) (pv 1) pe_int (fun _ _ => rfl)) pe_int (nomark _))))) (pss_one (ps_ret pe_bl)) pss_nil)
    (pss_one (ps_ret (pe_and (pe_call (ok_is_integer T) (hr.mono (by decide)) (by rfl) T.is_integer.g T.is_integer.F.kp T.is_integer.b .nil pass0 (pa_cons (pe_ix (k_ix (K := K) rfl) (pv 1) pe_int (fun _ _ => rfl)) (pa_cons pe_int (pa_cons (pe_op (op_subG) (k_fld (K := K) rfl (pv 0) rfl) pe_int) pa_nil)))) (pe_one (pe_call (ok_is_integer T) (hr.mono (by decide)) (by rfl) T.is_integer.g T.is_integer.F.kp T.is_integer.b .nil pass0 (pa_cons (pe_ix (k_ix (K := K) rfl) (pv 1) pe_int (fun _ _ => rfl)) (pa_cons pe_int (pa_cons (pe_op (op_subG) (k_fld (K := K) rfl (pv 0) rfl) pe_int) pa_nil)))))))))), ?_⟩
    refine spR_run h (fun as r hR => ?_)
    obtain ⟨φ, m, z, b, d, t, hm, hz, rfl, b0, bm, hd, t0, ts, rfl⟩ := hR
    have ed : (decide (-1 ≤ d) && decide (d ≤ 1)) = true := by
      rcases hd with rfl | rfl <;> rfl
    refine xs_skip (et_or0 (et_not' (et_B (ev_isi (ev_var rfl) kit_tt)) rfl) (et_tst (ev_op (ev_cb (ed_cons (ev_var rfl) ed_nil) rc_lenT) ev_int rd_neI) rfl)) ?_
    refine xs_skip (et_or0 (et_not' (et_tsB (ev_call (ea_cons (ev_op (ev_var rfl) ev_int (rd_ixT rfl)) (ea_cons (ev_un ev_int ru_neg) (ea_cons ev_int ea_nil))) ⟨_, _, _, rfl, rfl⟩) ed) rfl)
      (et_tst (ev_op (ev_op (ev_var rfl) ev_int (rd_ixT rfl)) ev_int rd_eqI) ?_)) ?_
    · rcases hd with rfl | rfl <;> rfl
    refine xs_ret (ev_and1 (ev_bto (ev_call (ea_cons (ev_op (ev_var rfl) ev_int (rd_ixT rfl)) (ea_cons ev_int (ea_cons (ev_op (ev_fld (ev_ob rfl) hm) ev_int rd_sub) ea_nil))) ⟨_, _, _, rfl, rfl⟩) ?_)
      (ev_bto (ev_call (ea_cons (ev_op (ev_var rfl) ev_int (rd_ixT rfl)) (ea_cons ev_int (ea_cons (ev_op (ev_fld (ev_ob rfl) hz) ev_int rd_sub) ea_nil))) ⟨_, _, _, rfl, rfl⟩) ?_)) rfl
    · simp
      omega
    · simp
      omega
section
variable (T : Txt K mg) {M : Mach}
theorem tape_marks : HasF K "marks" (TapeAt T.C_Tape M) (.d (.int M.m)) := InsAt.hasF (.head _) T.cl_Tape T.n_Tape_marks
theorem tape_states : HasF K "states" (TapeAt T.C_Tape M) (.d (.int M.s)) := InsAt.hasF (.tail _ (.head _)) T.cl_Tape T.n_Tape_states
theorem tape_rows : HasF K "_rows" (TapeAt T.C_Tape M) (.d (.list (M.rows.map orD))) := InsAt.hasF (.tail _ (.tail _ (.head _))) T.cl_Tape T.n_Tape_rows
theorem tape_row : IsIns T.C_Tape "row" (TapeAt T.C_Tape M) := InsAt.isIns (.tail _ (.head _))
theorem tape_table : IsIns T.C_Tape "table" (TapeAt T.C_Tape M) := InsAt.isIns (.head _)
end
def R_Tape_row (T : Txt K mg) (as : List Sl) (r : Sl) : Prop := ∃ (M : Mach) (q a : Nat), M.Ok ∧ q < M.s ∧ a < M.m ∧ as = [.ob (TapeAt T.C_Tape M), .d (.int q), .d (.int a)] ∧ r = .d (orD (M.at_ q a))
theorem R_Tape_row_len (T : Txt K mg) (as : List Sl) (r : Sl) (h : R_Tape_row T as r) : as.length = 3 := by obtain ⟨_, _, _, _, _, _, rfl, _⟩ := h; rfl
theorem ok_Tape_row (T : Txt K mg) : FnOk P w K mg base CX0 2 T.Tape_row.f T.Tape_row.fd P_Tape_row (spR (R_Tape_row T)) := by
  refine T.Tape_row.F.ok sc_Tape_row (fun vs H Q E h => ?_) (fun cdv A outer s H vs Q E hr h => ?_)
  · exact spR_len (R_Tape_row_len T) h
  · refine ⟨_, (pss_cons (ps_if (PW.pt (pw_or (pt_not (pt_val (pe_call (ok_is_integer T) (hr.mono (by decide)) (by rfl) T.is_integer.g T.is_integer.F.kp T.is_integer.b .nil pass0 (pa_cons (pv 1) (pa_cons pe_int (pa_cons (pe_op (op_subG) (k_fld (K := K) rfl (pv 0) rfl) pe_int) pa_nil)))))) (pw_or1 (pt_not (pt_val (pe_call (ok_is_integer T) (hr.mono (by decide)) (by rfl) T.is_integer.g T.is_integer.F.kp T.is_integer.b .nil pass0 (pa_cons (pv 2) (pa_cons pe_int (pa_cons (pe_op (op_subG) (k_fld (K := K) rfl (pv 0) rfl) pe_int) pa_nil))))))))) pss_never pss_nil)
    (pss_one (ps_ret (pe_ix (k_ix (K := K) rfl) (k_fld (K := K) rfl (pv 0) rfl) (pe_op (k_add (K := K) rfl) (pe_op (op_mulG) (pv 1) (k_fld (K := K) rfl (pv 0) rfl)) (pv 2)) (fun _ _ => rfl))))), ?_⟩
    refine spR_run h (fun as r hR => ?_)
    obtain ⟨M, q, a, ok, hq, ha, rfl, rfl⟩ := hR
    have m8 := ok.m8
    have s40 := ok.s40
    refine xs_skip (et_or0 (et_not' (et_tsB (ev_call (ea_cons (ev_var rfl) (ea_cons ev_int (ea_cons (ev_op (ev_fld (ev_ob rfl) (tape_states T)) ev_int rd_sub) ea_nil))) ⟨_, _, _, rfl, rfl⟩) (b := true) ?_) rfl)
      (et_not' (et_tsB (ev_call (ea_cons (ev_var rfl) (ea_cons ev_int (ea_cons (ev_op (ev_fld (ev_ob rfl) (tape_marks T)) ev_int rd_sub) ea_nil))) ⟨_, _, _, rfl, rfl⟩) (b := true) ?_) rfl)) ?_
    · simp
      omega
    · simp
      omega
    refine xs_ret (ev_op (ev_fld (ev_ob rfl) (tape_rows T)) (ev_op (ev_op (ev_var rfl) (ev_fld (ev_ob rfl) (tape_marks T)) (rd_mul (cmul_s (by omega) (by omega)))) (ev_var rfl) rd_addI) (rd_ixL (atI_ofNat (j := q * M.m + a) ?_ ?_))) rfl
    · simp
    · rw [List.getElem?_map, ok.at_mem hq ha]
      rfl
def R_Tape_table (T : Txt K mg) (as : List Sl) (r : Sl) : Prop := ∃ (M : Mach), as = [.ob (TapeAt T.C_Tape M)] ∧ r = .d (.list (M.rows.map orD))
theorem R_Tape_table_len (T : Txt K mg) (as : List Sl) (r : Sl) (h : R_Tape_table T as r) : as.length = 1 := by obtain ⟨_, rfl, _⟩ := h; rfl
theorem ok_Tape_table (T : Txt K mg) : FnOk P w K mg base CX0 1 T.Tape_table.f T.Tape_table.fd P_Tape_table (spR (R_Tape_table T)) := by
  refine T.Tape_table.F.ok sc_Tape_table (fun vs H Q E h => ?_) (fun cdv A outer s H vs Q E hr h => ?_)
  · exact spR_len (R_Tape_table_len T) h
  · refine ⟨_, (pss_one (ps_ret (pe_callTy (k_lst (K := K) rfl) (by rfl) T.b_list (by decide +kernel) (pa_cons (k_fld (K := K) rfl (pv 0) rfl) pa_nil)))), ?_⟩
    refine spR_run h (fun as r hR => ?_)
    obtain ⟨M, rfl, rfl⟩ := hR
    exact xs_ret (ev_ofL (el_cb (ed_cons (ev_fld (ev_ob rfl) (tape_rows T)) ed_nil) rcl_lst)) rfl
end
end BK
set_option maxRecDepth 100000
set_option maxHeartbeats 4000000
namespace BK
open PySem L2 DL CM
local macro_rules | `(tactic| walk_at "rd") => `(tactic| first
  | with_reducible exact rd_addI
  | with_reducible exact rd_sub
  | with_reducible exact rd_lt
  | with_reducible exact rd_le
  | with_reducible exact rd_gt
  | with_reducible exact rd_ge
  | with_reducible exact rd_eqI
  | with_reducible exact rd_neI
  | with_reducible exact rd_is
  | with_reducible exact rd_isNot
  | exact rd_mul (cmul_s (by omega) (by omega))
  | exact rd_mod (by first | decide | omega)
  | exact rd_fdv (by first | decide | omega)
  | exact rd_consI (by first | omega | (simp; omega) | simp)
  | exact rd_snocI (by first | omega | (simp; omega) | simp)
  | exact rd_catI (by first | omega | (simp; omega) | simp)
  | with_reducible exact rd_head0
  | with_reducible exact rd_ww
  | with_reducible exact rd_mm
  | with_reducible exact rd_wm
  | with_reducible exact rd_mw
  | with_reducible exact rd_nww
  | exact rd_ixT rfl
  | exact rd_ixL rfl
  | exact rd_addT (by first | decide | simp))
local macro_rules | `(tactic| walk_at "R") => `(tactic| first
  | exact ⟨_, _, _, rfl, rfl⟩
  | exact ⟨_, rfl, (by first | omega | (simp; omega) | simp), rfl⟩)
local macro_rules | `(tactic| walk_at "rc") => `(tactic| first
  | with_reducible exact rc_int
  | with_reducible exact rc_intB
  | with_reducible exact rc_lenT
  | with_reducible exact rc_lenL
  | with_reducible exact rc_abs
  | with_reducible exact rc_tupL
  | with_reducible exact rc_tupT)
local macro_rules | `(tactic| walk_at "ev") => `(tactic| first
  | with_reducible exact ev_int
  | with_reducible exact ev_non
  | with_reducible exact ev_bl
  | with_reducible exact ev_str
  | exact ev_var rfl
  | exact ev_ob rfl
  | ((with_reducible refine' ev_isi ?k1 ?k2); (case k1 => walk_at "ev"); (case k2 => first | exact kit_ii | exact kit_ib | exact kit_tt | exact kit_it))
  | ((with_reducible refine' ev_op ?k1 ?k2 ?k3); (case k1 => walk_at "ev"); (case k2 => walk_at "ev"); (case k3 => walk_at "rd"))
  | ((with_reducible refine' ev_un ?k1 ?k2); (case k1 => walk_at "ev"); (case k2 => exact ru_neg))
  | ((with_reducible refine' ev_cb ?k1 ?k2); (case k1 => walk_at "ed"); (case k2 => walk_at "rc"))
  | ((with_reducible refine' ev_tup ?k1 ?k2); (case k1 => walk_at "ed"); (case k2 => exact Nat.le_of_ble_eq_true rfl))
  | ((with_reducible refine' ev_andV ?k1 ?k2); (case k1 => walk_at "ev"); (case k2 => (intro _; walk_at "ev")))
  | ((with_reducible refine' ev_orV ?k1 ?k2); (case k1 => walk_at "ev"); (case k2 => (intro _; walk_at "ev")))
  | ((with_reducible refine' ev_notV ?k1); (case k1 => walk_at "ev"))
  | ((with_reducible refine' ev_chain ?k1 ?k2 ?k3 ?k4 ?k5); (case k1 => walk_at "ev"); (case k2 => walk_at "ev"); (case k3 => (intro _; walk_at "ev")); (case k4 => walk_at "rd"); (case k5 => walk_at "rd"))
  | ((with_reducible refine' ev_fld ?k1 ?k2); (case k1 => walk_at "ev"); (case k2 => walk_at "F"))
  | ((with_reducible refine' ev_meth ?k1 ?k2 ?k3 ?k4); (case k1 => walk_at "ev"); (case k2 => walk_at "I"); (case k3 => walk_at "ea"); (case k4 => walk_at "R"))
  | ((with_reducible refine' ev_call ?k1 ?k2); (case k1 => walk_at "ea"); (case k2 => walk_at "R"))
  | ((with_reducible refine' ev_sl1 ?k1); (case k1 => walk_at "ev"))
  | ((with_reducible refine' ev_sl ?k1 ?k2 ?k3); (case k1 => walk_at "ev"); (case k2 => walk_at "eo"); (case k3 => walk_at "eo"))
  | ((with_reducible refine' ev_ofL (el_sl ?k1 ?k2 ?k3)); (case k1 => walk_at "ev"); (case k2 => walk_at "eo"); (case k3 => walk_at "eo")))
local macro_rules | `(tactic| walk_at "eo") => `(tactic| first
  | with_reducible exact eo_none
  | ((with_reducible refine' eo_some ?k1); (case k1 => walk_at "ev")))
local macro_rules | `(tactic| walk_at "ed") => `(tactic| first
  | with_reducible exact ed_nil
  | ((with_reducible refine' ed_cons ?k1 ?k2); (case k1 => walk_at "ev"); (case k2 => walk_at "ed")))
local macro_rules | `(tactic| walk_at "ea") => `(tactic| first
  | with_reducible exact ea_nil
  | ((with_reducible refine' ea_cons ?k1 ?k2); (case k1 => walk_at "ev"); (case k2 => walk_at "ea")))
local macro_rules | `(tactic| walk_at "et") => `(tactic| first
  | ((with_reducible refine' et_test ?k1); (case k1 => walk_at "ev"))
  | ((with_reducible refine' et_B ?k1); (case k1 => walk_at "ev"))
  | ((with_reducible refine' et_not ?k1); (case k1 => walk_at "et"))
  | ((with_reducible refine' et_and ?k1 ?k2); (case k1 => walk_at "et"); (case k2 => (intro _; walk_at "et")))
  | ((with_reducible refine' et_or ?k1 ?k2); (case k1 => walk_at "et"); (case k2 => (intro _; walk_at "et"))))
local macro_rules | `(tactic| walk_at "give") => `(tactic| ((with_reducible refine' xs_give ?k1 ?_); (case k1 => walk_at "ev")))
local macro_rules | `(tactic| walk_at "ret") => `(tactic| ((with_reducible refine' xs_ret ?k1 ?_); (case k1 => walk_at "ev")))
local macro_rules | `(tactic| walk_at "tst") => `(tactic| ((with_reducible refine' et_tst ?k1 ?_); (case k1 => walk_at "ev")))
local macro_rules | `(tactic| walk_at "etto") => `(tactic| ((with_reducible refine' et_to ?k1 ?_); (case k1 => walk_at "et")))
local macro_rules | `(tactic| walk_at "evto") => `(tactic| ((with_reducible refine' ev_dto ?k1 ?_); (case k1 => walk_at "ev")))

section
variable {P : Program} {w : World} {K : PySem.W.Frag} {mg : Str → Option Value} {base : Heap}
/-! WD: Numbers; shown. -/
section
variable (T : Txt K mg) {M : Mach}
theorem num_machine : HasF K "machine" (NumAt T.C_Numbers T.C_Tape M) (.ob (TapeAt T.C_Tape M)) := InsAt.hasF (.head _) T.cl_Numbers T.n_Numbers_machine
theorem num_states : HasF K "states" (NumAt T.C_Numbers T.C_Tape M) (.d (.int M.s)) := InsAt.hasF (.tail _ (.head _)) T.cl_Numbers T.n_Numbers_states
theorem num_pairs : HasF K "pairs" (NumAt T.C_Numbers T.C_Tape M) (.d (.int M.pairs)) := InsAt.hasF (.tail _ (.tail _ (.head _))) T.cl_Numbers T.n_Numbers_pairs
theorem num_halt : HasF K "halt" (NumAt T.C_Numbers T.C_Tape M) (.d (.int M.halt)) := InsAt.hasF (.tail _ (.tail _ (.tail _ (.head _)))) T.cl_Numbers T.n_Numbers_halt
theorem num_undo : HasF K "undo" (NumAt T.C_Numbers T.C_Tape M) (.d (.int M.undo)) := InsAt.hasF (.tail _ (.tail _ (.tail _ (.tail _ (.head _))))) T.cl_Numbers T.n_Numbers_undo
theorem num_end : HasF K "end" (NumAt T.C_Numbers T.C_Tape M) (.d (.int M.end_)) := InsAt.hasF (.tail _ (.tail _ (.tail _ (.tail _ (.tail _ (.head _)))))) T.cl_Numbers T.n_Numbers_end
theorem num_is_enter : IsIns T.C_Numbers "enter" (NumAt T.C_Numbers T.C_Tape M) := InsAt.isIns (.head _)
theorem num_is_at : IsIns T.C_Numbers "at" (NumAt T.C_Numbers T.C_Tape M) := InsAt.isIns (.tail _ (.head _))
theorem num_is_go : IsIns T.C_Numbers "go" (NumAt T.C_Numbers T.C_Tape M) := InsAt.isIns (.tail _ (.tail _ (.head _)))
theorem num_is_note : IsIns T.C_Numbers "note" (NumAt T.C_Numbers T.C_Tape M) := InsAt.isIns (.tail _ (.tail _ (.tail _ (.head _))))
theorem num_is_copying : IsIns T.C_Numbers "copying" (NumAt T.C_Numbers T.C_Tape M) := InsAt.isIns (.tail _ (.tail _ (.tail _ (.tail _ (.head _)))))
theorem num_is_back_at : IsIns T.C_Numbers "back_at" (NumAt T.C_Numbers T.C_Tape M) := InsAt.isIns (.tail _ (.tail _ (.tail _ (.tail _ (.tail _ (.head _))))))
theorem num_is_back_enter : IsIns T.C_Numbers "back_enter" (NumAt T.C_Numbers T.C_Tape M) := InsAt.isIns (.tail _ (.tail _ (.tail _ (.tail _ (.tail _ (.tail _ (.head _)))))))
theorem num_is_back_note : IsIns T.C_Numbers "back_note" (NumAt T.C_Numbers T.C_Tape M) := InsAt.isIns (.tail _ (.tail _ (.tail _ (.tail _ (.tail _ (.tail _ (.tail _ (.head _))))))))
theorem num_is_back_go : IsIns T.C_Numbers "back_go" (NumAt T.C_Numbers T.C_Tape M) := InsAt.isIns (.tail _ (.tail _ (.tail _ (.tail _ (.tail _ (.tail _ (.tail _ (.tail _ (.head _)))))))))
end
local macro_rules | `(tactic| walk_at "F") => `(tactic| first
  | exact tape_marks ‹Txt _ _›
  | exact tape_states ‹Txt _ _›
  | exact tape_rows ‹Txt _ _›
  | exact num_machine ‹Txt _ _›
  | exact num_states ‹Txt _ _›
  | exact num_pairs ‹Txt _ _›
  | exact num_halt ‹Txt _ _›
  | exact num_undo ‹Txt _ _›
  | exact num_end ‹Txt _ _›)
local macro_rules | `(tactic| walk_at "I") => `(tactic| first
  | exact tape_row ‹Txt _ _›
  | exact tape_table ‹Txt _ _›
  | exact num_is_enter ‹Txt _ _›
  | exact num_is_at ‹Txt _ _›
  | exact num_is_go ‹Txt _ _›
  | exact num_is_note ‹Txt _ _›
  | exact num_is_copying ‹Txt _ _›
  | exact num_is_back_at ‹Txt _ _›
  | exact num_is_back_enter ‹Txt _ _›
  | exact num_is_back_note ‹Txt _ _›
  | exact num_is_back_go ‹Txt _ _›)
def R_Numbers_enter (T : Txt K mg) (as : List Sl) (r : Sl) : Prop := ∃ (M : Mach) (x : Int), M.Ok ∧ as = [.ob (NumAt T.C_Numbers T.C_Tape M), .d (.int x)] ∧ r = .d (.int (M.enter x))
theorem R_Numbers_enter_len (T : Txt K mg) (as : List Sl) (r : Sl) (h : R_Numbers_enter T as r) : as.length = 2 := by obtain ⟨_, _, _, rfl, _⟩ := h; rfl
theorem ok_Numbers_enter (T : Txt K mg) : FnOk P w K mg base CX0 1 T.Numbers_enter.f T.Numbers_enter.fd P_Numbers_enter (spR (R_Numbers_enter T)) := by
  refine T.Numbers_enter.F.ok sc_Numbers_enter (fun vs H Q E h => ?_) (fun cdv A outer s H vs Q E hr h => ?_)
  · exact spR_len (R_Numbers_enter_len T) h
  · refine ⟨_, (pss_one (ps_ret (pe_op (k_add (K := K) rfl) pe_int (pv 1)))), ?_⟩
    refine spR_run h (fun as r hR => ?_)
    obtain ⟨M, x, ok, rfl, rfl⟩ := hR
    have m8 := ok.m8
    have s40 := ok.s40
    walk_at "ret"
    rfl
def R_Numbers_at (T : Txt K mg) (as : List Sl) (r : Sl) : Prop := ∃ (M : Mach) (x : Int), M.Ok ∧ as = [.ob (NumAt T.C_Numbers T.C_Tape M), .d (.int x)] ∧ r = .d (.int (M.at' x))
theorem R_Numbers_at_len (T : Txt K mg) (as : List Sl) (r : Sl) (h : R_Numbers_at T as r) : as.length = 2 := by obtain ⟨_, _, _, rfl, _⟩ := h; rfl
theorem ok_Numbers_at (T : Txt K mg) : FnOk P w K mg base CX0 1 T.Numbers_at.f T.Numbers_at.fd P_Numbers_at (spR (R_Numbers_at T)) := by
  refine T.Numbers_at.F.ok sc_Numbers_at (fun vs H Q E h => ?_) (fun cdv A outer s H vs Q E hr h => ?_)
  · exact spR_len (R_Numbers_at_len T) h
  · refine ⟨_, (pss_one (ps_ret (pe_op (k_add (K := K) rfl) (pe_op (k_add (K := K) rfl) pe_int (k_fld (K := K) rfl (pv 0) rfl)) (pv 1)))), ?_⟩
    refine spR_run h (fun as r hR => ?_)
    obtain ⟨M, x, ok, rfl, rfl⟩ := hR
    have m8 := ok.m8
    have s40 := ok.s40
    walk_at "ret"
    rfl
def R_Numbers_go (T : Txt K mg) (as : List Sl) (r : Sl) : Prop := ∃ (M : Mach) (x : Int), M.Ok ∧ as = [.ob (NumAt T.C_Numbers T.C_Tape M), .d (.int x)] ∧ r = .d (.int (M.go x))
theorem R_Numbers_go_len (T : Txt K mg) (as : List Sl) (r : Sl) (h : R_Numbers_go T as r) : as.length = 2 := by obtain ⟨_, _, _, rfl, _⟩ := h; rfl
theorem ok_Numbers_go (T : Txt K mg) : FnOk P w K mg base CX0 1 T.Numbers_go.f T.Numbers_go.fd P_Numbers_go (spR (R_Numbers_go T)) := by
  refine T.Numbers_go.F.ok sc_Numbers_go (fun vs H Q E h => ?_) (fun cdv A outer s H vs Q E hr h => ?_)
  · exact spR_len (R_Numbers_go_len T) h
  · refine ⟨_, (pss_one (ps_ret (pe_op (k_add (K := K) rfl) (pe_op (k_add (K := K) rfl) pe_int (pe_op (op_mulG) pe_int (k_fld (K := K) rfl (pv 0) rfl))) (pv 1)))), ?_⟩
    refine spR_run h (fun as r hR => ?_)
    obtain ⟨M, x, ok, rfl, rfl⟩ := hR
    have m8 := ok.m8
    have s40 := ok.s40
    walk_at "ret"
    rfl
def R_Numbers_note (T : Txt K mg) (as : List Sl) (r : Sl) : Prop := ∃ (M : Mach) (x : Int), M.Ok ∧ as = [.ob (NumAt T.C_Numbers T.C_Tape M), .d (.int x)] ∧ r = .d (.int (M.note x))
theorem R_Numbers_note_len (T : Txt K mg) (as : List Sl) (r : Sl) (h : R_Numbers_note T as r) : as.length = 2 := by obtain ⟨_, _, _, rfl, _⟩ := h; rfl
theorem ok_Numbers_note (T : Txt K mg) : FnOk P w K mg base CX0 1 T.Numbers_note.f T.Numbers_note.fd P_Numbers_note (spR (R_Numbers_note T)) := by
  refine T.Numbers_note.F.ok sc_Numbers_note (fun vs H Q E h => ?_) (fun cdv A outer s H vs Q E hr h => ?_)
  · exact spR_len (R_Numbers_note_len T) h
  · refine ⟨_, (pss_one (ps_ret (pe_op (k_add (K := K) rfl) (pe_op (k_add (K := K) rfl) (pe_op (k_add (K := K) rfl) pe_int (pe_op (op_mulG) pe_int (k_fld (K := K) rfl (pv 0) rfl))) (k_fld (K := K) rfl (pv 0) rfl)) (pv 1)))), ?_⟩
    refine spR_run h (fun as r hR => ?_)
    obtain ⟨M, x, ok, rfl, rfl⟩ := hR
    have m8 := ok.m8
    have s40 := ok.s40
    walk_at "ret"
    rfl
def R_Numbers_copying (T : Txt K mg) (as : List Sl) (r : Sl) : Prop := ∃ (M : Mach) (x : Int), M.Ok ∧ as = [.ob (NumAt T.C_Numbers T.C_Tape M), .d (.int x)] ∧ r = .d (.int (M.halt + x))
theorem R_Numbers_copying_len (T : Txt K mg) (as : List Sl) (r : Sl) (h : R_Numbers_copying T as r) : as.length = 2 := by obtain ⟨_, _, _, rfl, _⟩ := h; rfl
theorem ok_Numbers_copying (T : Txt K mg) : FnOk P w K mg base CX0 1 T.Numbers_copying.f T.Numbers_copying.fd P_Numbers_copying (spR (R_Numbers_copying T)) := by
  refine T.Numbers_copying.F.ok sc_Numbers_copying (fun vs H Q E h => ?_) (fun cdv A outer s H vs Q E hr h => ?_)
  · exact spR_len (R_Numbers_copying_len T) h
  · refine ⟨_, (pss_one (ps_ret (pe_op (k_add (K := K) rfl) (k_fld (K := K) rfl (pv 0) rfl) (pv 1)))), ?_⟩
    refine spR_run h (fun as r hR => ?_)
    obtain ⟨M, x, ok, rfl, rfl⟩ := hR
    have m8 := ok.m8
    have s40 := ok.s40
    walk_at "ret"
    rfl
def R_Numbers_back_at (T : Txt K mg) (as : List Sl) (r : Sl) : Prop := ∃ (M : Mach) (x : Int), M.Ok ∧ as = [.ob (NumAt T.C_Numbers T.C_Tape M), .d (.int x)] ∧ r = .d (.int (M.bat x))
theorem R_Numbers_back_at_len (T : Txt K mg) (as : List Sl) (r : Sl) (h : R_Numbers_back_at T as r) : as.length = 2 := by obtain ⟨_, _, _, rfl, _⟩ := h; rfl
theorem ok_Numbers_back_at (T : Txt K mg) : FnOk P w K mg base CX0 1 T.Numbers_back_at.f T.Numbers_back_at.fd P_Numbers_back_at (spR (R_Numbers_back_at T)) := by
  refine T.Numbers_back_at.F.ok sc_Numbers_back_at (fun vs H Q E h => ?_) (fun cdv A outer s H vs Q E hr h => ?_)
  · exact spR_len (R_Numbers_back_at_len T) h
  · refine ⟨_, (pss_one (ps_ret (pe_op (k_add (K := K) rfl) (pe_op (k_add (K := K) rfl) (k_fld (K := K) rfl (pv 0) rfl) pe_int) (pv 1)))), ?_⟩
    refine spR_run h (fun as r hR => ?_)
    obtain ⟨M, x, ok, rfl, rfl⟩ := hR
    have m8 := ok.m8
    have s40 := ok.s40
    walk_at "ret"
    rfl
def R_Numbers_back_enter (T : Txt K mg) (as : List Sl) (r : Sl) : Prop := ∃ (M : Mach) (x : Int), M.Ok ∧ as = [.ob (NumAt T.C_Numbers T.C_Tape M), .d (.int x)] ∧ r = .d (.int (M.benter x))
theorem R_Numbers_back_enter_len (T : Txt K mg) (as : List Sl) (r : Sl) (h : R_Numbers_back_enter T as r) : as.length = 2 := by obtain ⟨_, _, _, rfl, _⟩ := h; rfl
theorem ok_Numbers_back_enter (T : Txt K mg) : FnOk P w K mg base CX0 1 T.Numbers_back_enter.f T.Numbers_back_enter.fd P_Numbers_back_enter (spR (R_Numbers_back_enter T)) := by
  refine T.Numbers_back_enter.F.ok sc_Numbers_back_enter (fun vs H Q E h => ?_) (fun cdv A outer s H vs Q E hr h => ?_)
  · exact spR_len (R_Numbers_back_enter_len T) h
  · refine ⟨_, (pss_one (ps_ret (pe_op (k_add (K := K) rfl) (pe_op (k_add (K := K) rfl) (pe_op (k_add (K := K) rfl) (k_fld (K := K) rfl (pv 0) rfl) pe_int) (k_fld (K := K) rfl (pv 0) rfl)) (pv 1)))), ?_⟩
    refine spR_run h (fun as r hR => ?_)
    obtain ⟨M, x, ok, rfl, rfl⟩ := hR
    have m8 := ok.m8
    have s40 := ok.s40
    walk_at "ret"
    rfl
def R_Numbers_back_note (T : Txt K mg) (as : List Sl) (r : Sl) : Prop := ∃ (M : Mach) (x : Int), M.Ok ∧ as = [.ob (NumAt T.C_Numbers T.C_Tape M), .d (.int x)] ∧ r = .d (.int (M.bnote x))
theorem R_Numbers_back_note_len (T : Txt K mg) (as : List Sl) (r : Sl) (h : R_Numbers_back_note T as r) : as.length = 2 := by obtain ⟨_, _, _, rfl, _⟩ := h; rfl
theorem ok_Numbers_back_note (T : Txt K mg) : FnOk P w K mg base CX0 1 T.Numbers_back_note.f T.Numbers_back_note.fd P_Numbers_back_note (spR (R_Numbers_back_note T)) := by
  refine T.Numbers_back_note.F.ok sc_Numbers_back_note (fun vs H Q E h => ?_) (fun cdv A outer s H vs Q E hr h => ?_)
  · exact spR_len (R_Numbers_back_note_len T) h
  · refine ⟨_, (pss_one (ps_ret (pe_op (k_add (K := K) rfl) (pe_op (k_add (K := K) rfl) (pe_op (k_add (K := K) rfl) (k_fld (K := K) rfl (pv 0) rfl) pe_int) (pe_op (op_mulG) pe_int (k_fld (K := K) rfl (pv 0) rfl))) (pv 1)))), ?_⟩
    refine spR_run h (fun as r hR => ?_)
    obtain ⟨M, x, ok, rfl, rfl⟩ := hR
    have m8 := ok.m8
    have s40 := ok.s40
    walk_at "ret"
    rfl
def R_Numbers_back_go (T : Txt K mg) (as : List Sl) (r : Sl) : Prop := ∃ (M : Mach) (x : Int), M.Ok ∧ as = [.ob (NumAt T.C_Numbers T.C_Tape M), .d (.int x)] ∧ r = .d (.int (M.bgo x))
theorem R_Numbers_back_go_len (T : Txt K mg) (as : List Sl) (r : Sl) (h : R_Numbers_back_go T as r) : as.length = 2 := by obtain ⟨_, _, _, rfl, _⟩ := h; rfl
theorem ok_Numbers_back_go (T : Txt K mg) : FnOk P w K mg base CX0 1 T.Numbers_back_go.f T.Numbers_back_go.fd P_Numbers_back_go (spR (R_Numbers_back_go T)) := by
  refine T.Numbers_back_go.F.ok sc_Numbers_back_go (fun vs H Q E h => ?_) (fun cdv A outer s H vs Q E hr h => ?_)
  · exact spR_len (R_Numbers_back_go_len T) h
  · refine ⟨_, (pss_one (ps_ret (pe_op (k_add (K := K) rfl) (pe_op (k_add (K := K) rfl) (pe_op (k_add (K := K) rfl) (pe_op (k_add (K := K) rfl) (k_fld (K := K) rfl (pv 0) rfl) pe_int) (pe_op (op_mulG) pe_int (k_fld (K := K) rfl (pv 0) rfl))) (k_fld (K := K) rfl (pv 0) rfl)) (pv 1)))), ?_⟩
    refine spR_run h (fun as r hR => ?_)
    obtain ⟨M, x, ok, rfl, rfl⟩ := hR
    have m8 := ok.m8
    have s40 := ok.s40
    walk_at "ret"
    rfl
def R_Numbers_init (T : Txt K mg) (as : List Sl) (φ : Hp → V → Prop) : Prop := ∃ (M : Mach), M.Ok ∧ as = [.ob (TapeAt T.C_Tape M)] ∧ φ = NumAt T.C_Numbers T.C_Tape M
theorem R_Numbers_init_len (T : Txt K mg) (as : List Sl) (φ : Hp → V → Prop) (h : R_Numbers_init T as φ) : as.length = 1 := by obtain ⟨_, _, rfl, _⟩ := h; rfl
theorem ok_Numbers_init (T : Txt K mg) : FnOk P w K mg base CX0 1 T.Numbers_init.f T.Numbers_init.fd P_Numbers_init (spI T.C_Numbers (R_Numbers_init T)) := by
  refine T.Numbers_init.F.ok sc_Numbers_init (fun vs H Q E h => ?_) (fun cdv A outer s H vs Q E hr h => ?_)
  · exact spI_len (R_Numbers_init_len T) h
  · refine ⟨_, (pss_cons (k_sfld (K := K) rfl (pv 0) (pv 1) rfl)
    (pss_cons (k_sfld (K := K) rfl (pv 0) (k_fld (K := K) rfl (pv 1) rfl) rfl)
    (pss_cons (k_sfld (K := K) rfl (pv 0) (pe_op (op_mulG) (k_fld (K := K) rfl (pv 1) rfl) (k_fld (K := K) rfl (pv 1) rfl)) rfl)
    (pss_cons (k_sfld (K := K) rfl (pv 0) (pe_op (k_add (K := K) rfl) (pe_op (k_add (K := K) rfl) pe_int (pe_op (op_mulG) pe_int (k_fld (K := K) rfl (pv 0) rfl))) (pe_op (op_mulG) pe_int (k_fld (K := K) rfl (pv 0) rfl))) rfl)
    (pss_cons (k_sfld (K := K) rfl (pv 0) (pe_op (k_add (K := K) rfl) (k_fld (K := K) rfl (pv 0) rfl) (pe_glob (v := .int 11) (by rfl) T.c_COPYING ⟨_, rfl⟩)) rfl)
    (pss_one (k_sfld (K := K) rfl (pv 0) (pe_op (k_add (K := K) rfl) (pe_op (k_add (K := K) rfl) (pe_op (k_add (K := K) rfl) (k_fld (K := K) rfl (pv 0) rfl) pe_int) (pe_op (op_mulG) pe_int (k_fld (K := K) rfl (pv 0) rfl))) (pe_op (op_mulG) pe_int (k_fld (K := K) rfl (pv 0) rfl))) rfl))))))), ?_⟩
    refine spI_run (no := NumN) h (Nat.le_of_ble_eq_true rfl) (fun as φ hR => ?_)
    obtain ⟨M, ok, rfl, rfl⟩ := hR
    have m8 := ok.m8
    have s40 := ok.s40
    have hs : ∀ s : Sl, (Sl.no :: ([Sl.ob (TapeAt T.C_Tape M)] ++ List.replicate (N_Numbers_init.length - ([Sl.ob (TapeAt T.C_Tape M)].length + 1)) Sl.no))[0]? = some s → s = Sl.no := fun s h => (Option.some.inj h).symm
    refine xi_seq (xi_newV [] rfl rfl T.cl_Numbers T.n_Numbers_machine rfl (by decide +kernel) (by decide) ?_)
    refine xi_seq (xi_new ["machine"] rfl (by decide +kernel) T.cl_Numbers T.n_Numbers_states (r := .d (.int M.s)) (ev_fld (ev_ob rfl) (tape_states T)) trivial (by decide +kernel) (by decide) hs ?_)
    refine xi_seq (xi_new ["states", "machine"] rfl (by decide +kernel) T.cl_Numbers T.n_Numbers_pairs (r := .d (.int M.pairs)) (ev_op (ev_fld (ev_ob rfl) (tape_marks T)) (ev_fld (ev_ob rfl) (tape_states T)) (rd_mul (cmul_s (by omega) (by omega)))) trivial (by decide +kernel) (by decide) hs ?_)
    have bp : 0 ≤ M.pairs ∧ M.pairs ≤ 320 := by
      unfold Mach.pairs
      constructor
      · exact Int.mul_nonneg (by omega) (by omega)
      · have h1 : (M.m : Int) * M.s ≤ 8 * M.s := Int.mul_le_mul_of_nonneg_right (by omega) (by omega)
        omega
    have hS : ∀ {fs : List (Str × Sl)}, (("states" : Str), Sl.d (.int M.s)) ∈ fs → HasF K "states" (InsAt T.C_Numbers fs NumN) (.d (.int M.s)) := fun h => InsAt.hasF h T.cl_Numbers T.n_Numbers_states
    have hP : ∀ {fs : List (Str × Sl)}, (("pairs" : Str), Sl.d (.int M.pairs)) ∈ fs → HasF K "pairs" (InsAt T.C_Numbers fs NumN) (.d (.int M.pairs)) := fun h => InsAt.hasF h T.cl_Numbers T.n_Numbers_pairs
    refine xi_seq (xi_new ["pairs", "states", "machine"] rfl (by decide +kernel) T.cl_Numbers T.n_Numbers_halt (r := .d (.int M.halt)) (ev_op (ev_op ev_int (ev_op ev_int (ev_fld (ev_ob rfl) (hS (.tail _ (.head _)))) (rd_mul (cmul_s (by omega) (by omega)))) rd_addI) (ev_op ev_int (ev_fld (ev_ob rfl) (hP (.head _))) (rd_mul (cmul_s (by omega) (by omega)))) rd_addI) trivial (by decide +kernel) (by decide) hs ?_)
    refine xi_seq (xi_new ["halt", "pairs", "states", "machine"] rfl (by decide +kernel) T.cl_Numbers T.n_Numbers_undo (r := .d (.int M.undo)) (ev_op (ev_fld (ev_ob rfl) (InsAt.hasF (.head _) T.cl_Numbers T.n_Numbers_halt)) (ev_int) rd_addI) trivial (by decide +kernel) (by decide) hs ?_)
    refine xi_new ["undo", "halt", "pairs", "states", "machine"] rfl (by decide +kernel) T.cl_Numbers T.n_Numbers_end (r := .d (.int M.end_)) (ev_op (ev_op (ev_op (ev_fld (ev_ob rfl) (InsAt.hasF (.head _) T.cl_Numbers T.n_Numbers_undo)) ev_int rd_addI) (ev_op ev_int (ev_fld (ev_ob rfl) (hS (.tail _ (.tail _ (.tail _ (.head _)))))) (rd_mul (cmul_s (by omega) (by omega)))) rd_addI) (ev_op ev_int (ev_fld (ev_ob rfl) (hP (.tail _ (.tail _ (.head _))))) (rd_mul (cmul_s (by omega) (by omega)))) rd_addI) trivial (by decide +kernel) (by decide) hs ?_
    intro B v hI
    refine hI.weak (fun p hp => ?_) (fun m hm => hm)
    simp only [NumF, List.mem_cons, List.not_mem_nil, or_false] at hp
    rcases hp with rfl | rfl | rfl | rfl | rfl | rfl
    · exact .tail _ (.tail _ (.tail _ (.tail _ (.tail _ (.head _)))))
    · exact .tail _ (.tail _ (.tail _ (.tail _ (.head _))))
    · exact .tail _ (.tail _ (.tail _ (.head _)))
    · exact .tail _ (.tail _ (.head _))
    · exact .tail _ (.head _)
    · exact .head _
end
end BK
set_option maxRecDepth 100000
set_option maxHeartbeats 4000000
namespace BK
open PySem L2 DL CM
local macro_rules | `(tactic| walk_at "rd") => `(tactic| first
  | with_reducible exact rd_addI
  | with_reducible exact rd_sub
  | with_reducible exact rd_lt
  | with_reducible exact rd_le
  | with_reducible exact rd_gt
  | with_reducible exact rd_ge
  | with_reducible exact rd_eqI
  | with_reducible exact rd_neI
  | with_reducible exact rd_is
  | with_reducible exact rd_isNot
  | exact rd_mul (cmul_s (by omega) (by omega))
  | exact rd_mod (by first | decide | omega)
  | exact rd_fdv (by first | decide | omega)
  | exact rd_consI (by first | omega | (simp; omega) | simp)
  | exact rd_snocI (by first | omega | (simp; omega) | simp)
  | exact rd_catI (by first | omega | (simp; omega) | simp)
  | with_reducible exact rd_head0
  | with_reducible exact rd_ww
  | with_reducible exact rd_mm
  | with_reducible exact rd_wm
  | with_reducible exact rd_mw
  | with_reducible exact rd_nww
  | exact rd_ixT rfl
  | exact rd_ixL rfl
  | exact rd_addT (by first | decide | simp))
local macro_rules | `(tactic| walk_at "R") => `(tactic| first
  | exact ⟨_, _, _, rfl, rfl⟩
  | exact ⟨_, rfl, (by first | omega | (simp; omega) | simp), rfl⟩)
local macro_rules | `(tactic| walk_at "rc") => `(tactic| first
  | with_reducible exact rc_int
  | with_reducible exact rc_intB
  | with_reducible exact rc_lenT
  | with_reducible exact rc_lenL
  | with_reducible exact rc_abs
  | with_reducible exact rc_tupL
  | with_reducible exact rc_tupT)
local macro_rules | `(tactic| walk_at "ev") => `(tactic| first
  | with_reducible exact ev_int
  | with_reducible exact ev_non
  | with_reducible exact ev_bl
  | with_reducible exact ev_str
  | exact ev_var rfl
  | exact ev_ob rfl
  | ((with_reducible refine' ev_isi ?k1 ?k2); (case k1 => walk_at "ev"); (case k2 => first | exact kit_ii | exact kit_ib | exact kit_tt | exact kit_it))
  | ((with_reducible refine' ev_op ?k1 ?k2 ?k3); (case k1 => walk_at "ev"); (case k2 => walk_at "ev"); (case k3 => walk_at "rd"))
  | ((with_reducible refine' ev_un ?k1 ?k2); (case k1 => walk_at "ev"); (case k2 => exact ru_neg))
  | ((with_reducible refine' ev_cb ?k1 ?k2); (case k1 => walk_at "ed"); (case k2 => walk_at "rc"))
  | ((with_reducible refine' ev_tup ?k1 ?k2); (case k1 => walk_at "ed"); (case k2 => exact Nat.le_of_ble_eq_true rfl))
  | ((with_reducible refine' ev_andV ?k1 ?k2); (case k1 => walk_at "ev"); (case k2 => (intro _; walk_at "ev")))
  | ((with_reducible refine' ev_orV ?k1 ?k2); (case k1 => walk_at "ev"); (case k2 => (intro _; walk_at "ev")))
  | ((with_reducible refine' ev_notV ?k1); (case k1 => walk_at "ev"))
  | ((with_reducible refine' ev_chain ?k1 ?k2 ?k3 ?k4 ?k5); (case k1 => walk_at "ev"); (case k2 => walk_at "ev"); (case k3 => (intro _; walk_at "ev")); (case k4 => walk_at "rd"); (case k5 => walk_at "rd"))
  | ((with_reducible refine' ev_fld ?k1 ?k2); (case k1 => walk_at "ev"); (case k2 => walk_at "F"))
  | ((with_reducible refine' ev_meth ?k1 ?k2 ?k3 ?k4); (case k1 => walk_at "ev"); (case k2 => walk_at "I"); (case k3 => walk_at "ea"); (case k4 => walk_at "R"))
  | ((with_reducible refine' ev_call ?k1 ?k2); (case k1 => walk_at "ea"); (case k2 => walk_at "R"))
  | ((with_reducible refine' ev_sl1 ?k1); (case k1 => walk_at "ev"))
  | ((with_reducible refine' ev_sl ?k1 ?k2 ?k3); (case k1 => walk_at "ev"); (case k2 => walk_at "eo"); (case k3 => walk_at "eo"))
  | ((with_reducible refine' ev_ofL (el_sl ?k1 ?k2 ?k3)); (case k1 => walk_at "ev"); (case k2 => walk_at "eo"); (case k3 => walk_at "eo")))
local macro_rules | `(tactic| walk_at "eo") => `(tactic| first
  | with_reducible exact eo_none
  | ((with_reducible refine' eo_some ?k1); (case k1 => walk_at "ev")))
local macro_rules | `(tactic| walk_at "ed") => `(tactic| first
  | with_reducible exact ed_nil
  | ((with_reducible refine' ed_cons ?k1 ?k2); (case k1 => walk_at "ev"); (case k2 => walk_at "ed")))
local macro_rules | `(tactic| walk_at "ea") => `(tactic| first
  | with_reducible exact ea_nil
  | ((with_reducible refine' ea_cons ?k1 ?k2); (case k1 => walk_at "ev"); (case k2 => walk_at "ea")))
local macro_rules | `(tactic| walk_at "et") => `(tactic| first
  | ((with_reducible refine' et_test ?k1); (case k1 => walk_at "ev"))
  | ((with_reducible refine' et_B ?k1); (case k1 => walk_at "ev"))
  | ((with_reducible refine' et_not ?k1); (case k1 => walk_at "et"))
  | ((with_reducible refine' et_and ?k1 ?k2); (case k1 => walk_at "et"); (case k2 => (intro _; walk_at "et")))
  | ((with_reducible refine' et_or ?k1 ?k2); (case k1 => walk_at "et"); (case k2 => (intro _; walk_at "et"))))
local macro_rules | `(tactic| walk_at "give") => `(tactic| ((with_reducible refine' xs_give ?k1 ?_); (case k1 => walk_at "ev")))
local macro_rules | `(tactic| walk_at "ret") => `(tactic| ((with_reducible refine' xs_ret ?k1 ?_); (case k1 => walk_at "ev")))
local macro_rules | `(tactic| walk_at "tst") => `(tactic| ((with_reducible refine' et_tst ?k1 ?_); (case k1 => walk_at "ev")))
local macro_rules | `(tactic| walk_at "etto") => `(tactic| ((with_reducible refine' et_to ?k1 ?_); (case k1 => walk_at "et")))
local macro_rules | `(tactic| walk_at "evto") => `(tactic| ((with_reducible refine' ev_dto ?k1 ?_); (case k1 => walk_at "ev")))

section
variable {P : Program} {w : World} {K : PySem.W.Frag} {mg : Str → Option Value} {base : Heap}
local macro_rules | `(tactic| walk_at "F") => `(tactic| first
  | exact tape_marks ‹Txt _ _›
  | exact tape_states ‹Txt _ _›
  | exact tape_rows ‹Txt _ _›
  | exact num_machine ‹Txt _ _›
  | exact num_states ‹Txt _ _›
  | exact num_pairs ‹Txt _ _›
  | exact num_halt ‹Txt _ _›
  | exact num_undo ‹Txt _ _›
  | exact num_end ‹Txt _ _›)
local macro_rules | `(tactic| walk_at "I") => `(tactic| first
  | exact tape_row ‹Txt _ _›
  | exact tape_table ‹Txt _ _›
  | exact num_is_enter ‹Txt _ _›
  | exact num_is_at ‹Txt _ _›
  | exact num_is_go ‹Txt _ _›
  | exact num_is_note ‹Txt _ _›
  | exact num_is_copying ‹Txt _ _›
  | exact num_is_back_at ‹Txt _ _›
  | exact num_is_back_enter ‹Txt _ _›
  | exact num_is_back_note ‹Txt _ _›
  | exact num_is_back_go ‹Txt _ _›)

local macro_rules | `(tactic| walk_at "R") => `(tactic| first
  | exact ⟨_, _, ‹Mach.Ok _›, rfl, rfl⟩
  | exact ⟨_, _, _, ‹Mach.Ok _›, ‹_›, ‹_›, rfl, rfl⟩
  | exact ⟨_, _, _, _, _, rfl, rfl⟩
  | exact ⟨_, ‹Mach.Ok _›, rfl, rfl⟩)
local macro_rules | `(tactic| walk_at "row") => `(tactic| ((with_reducible refine' ev_dto ?k1 ?k2); (case k1 => walk_at "ev"); (case k2 => rfl)))

/-! WE: shown, clean_end, pairs_of. -/
def R_clean_end (T : Txt K mg) (as : List Sl) (r : Sl) : Prop := ∃ (M : Mach) (q : Int) (t : Tp) (l : List Int), M.Ok ∧ as = [.ob (TapeAt T.C_Tape M), .d (upD q t), .d (ti l)] ∧ r = .d (cfD ⟨M.end_, t, bl, ⟨[], 0, l⟩⟩)
theorem R_clean_end_len (T : Txt K mg) (as : List Sl) (r : Sl) (h : R_clean_end T as r) : as.length = 3 := by obtain ⟨_, _, _, _, _, rfl, _⟩ := h; rfl
theorem ok_clean_end (T : Txt K mg) : FnOk P w K mg base CX0 3 T.clean_end.f T.clean_end.fd P_clean_end (spR (R_clean_end T)) := by
  refine T.clean_end.F.ok sc_clean_end (fun vs H Q E h => ?_) (fun cdv A outer s H vs Q E hr h => ?_)
  · exact spR_len (R_clean_end_len T) h
  · refine ⟨_, (pss_cons (ps_asg (pv 1) (k_pgT (K := K) rfl rfl (pgs_cons (pg_name (i := 3) sc_clean_end.nd rfl (Or.inl rfl)) (pgs_cons (pg_name (i := 4) sc_clean_end.nd rfl (Or.inl rfl)) (pgs_cons (pg_name (i := 5) sc_clean_end.nd rfl (Or.inl rfl)) (pgs_cons (pg_name (i := 6) sc_clean_end.nd rfl (Or.inl rfl)) pgs_nil))))))
    (pss_one (ps_ret (pe_tup (pa_cons (k_fld (K := K) rfl (pe_make T.Numbers_init.m (ok_Numbers_init T) (hr.mono (by decide)) (by rfl) T.g_Numbers T.Numbers_init.b .nil pass0 (pa_cons (pv 0) pa_nil)) rfl) (pa_cons (pe_tup (pa_cons (pe_tup (pa_cons (pv 4) (pa_cons (pv 5) (pa_cons (pv 6) pa_nil)))) (pa_cons (pe_tup (pa_cons (pe_tup pa_nil) (pa_cons pe_int (pa_cons (pe_tup pa_nil) pa_nil)))) (pa_cons (pe_tup (pa_cons (pe_tup pa_nil) (pa_cons pe_int (pa_cons (pv 2) pa_nil)))) pa_nil)))) pa_nil)))))), ?_⟩
    refine spR_run h (fun as r hR => ?_)
    obtain ⟨M, q, t, l, ok, rfl, rfl⟩ := hR
    refine xs_giveG (ev_var rfl) (eg_tup rfl (egs_cons eg_name (egs_cons eg_name (egs_cons eg_name (egs_cons eg_name egs_nil))))) ?_
    refine xs_ret (ev_tup (ed_cons (ev_fld (ev_make (ea_cons (ev_ob rfl) ea_nil) ⟨M, ok, rfl, rfl⟩ InsAt.mono) (num_end T)) (ed_cons ?_ ed_nil)) (Nat.le_of_ble_eq_true rfl)) rfl
    walk_at "row"
/-- what the clean machine shows -/
def shownD (M : Mach) (c : Cf) : PyData :=
  if M.at' 0 ≤ c.st ∧ c.st < M.at' M.s then .tuple [.str "forth", upD (c.st - M.at' 0) c.t0]
  else if M.bat 0 ≤ c.st ∧ c.st < M.bat M.s then .tuple [.str "back", upD (c.st - M.bat 0) c.t0] else .none
def R_shown (T : Txt K mg) (as : List Sl) (r : Sl) : Prop := ∃ (M : Mach) (c : Cf), M.Ok ∧ as = [.ob (TapeAt T.C_Tape M), .d (cfD c)] ∧ r = .d (shownD M c)
theorem R_shown_len (T : Txt K mg) (as : List Sl) (r : Sl) (h : R_shown T as r) : as.length = 2 := by obtain ⟨_, _, _, rfl, _⟩ := h; rfl
theorem shown_forth {M : Mach} {c : Cf} {q : Nat} (hq : q < M.s) (h : c.st = M.at' q) : shownD M c = .tuple [.str "forth", upD q c.t0] := by
  unfold shownD
  have e : c.st - M.at' 0 = q := by rw [h]; unfold Mach.at'; omega
  rw [if_pos ⟨by rw [h]; unfold Mach.at'; omega, by rw [h]; unfold Mach.at'; omega⟩, e]
theorem shown_back {M : Mach} {c : Cf} {q : Nat} (ok : M.Ok) (hq : q < M.s) (h : c.st = M.bat q) : shownD M c = .tuple [.str "back", upD q c.t0] := by
  have hp : 0 ≤ M.pairs := Int.mul_nonneg (by omega) (by omega)
  unfold shownD
  have e : c.st - M.bat 0 = q := by rw [h]; unfold Mach.bat; omega
  rw [if_neg (by rw [h]; unfold Mach.at' Mach.bat Mach.undo Mach.halt; omega), if_pos ⟨by rw [h]; unfold Mach.bat; omega, by rw [h]; unfold Mach.bat; omega⟩, e]
theorem shown_none {M : Mach} {c : Cf} (h : ∀ q : Nat, q < M.s → c.st ≠ M.at' q ∧ c.st ≠ M.bat q) : shownD M c = .none := by
  unfold shownD
  rw [if_neg, if_neg]
  · rintro ⟨h1, h2⟩
    refine (h (c.st - M.bat 0).toNat ?_).2 ?_
    · unfold Mach.bat at *; omega
    · unfold Mach.bat at *; omega
  · rintro ⟨h1, h2⟩
    refine (h (c.st - M.at' 0).toNat ?_).1 ?_
    · unfold Mach.at' at *; omega
    · unfold Mach.at' at *; omega
theorem ok_shown (T : Txt K mg) : FnOk P w K mg base CX0 3 T.shown.f T.shown.fd P_shown (spR (R_shown T)) := by
  refine T.shown.F.ok sc_shown (fun vs H Q E h => ?_) (fun cdv A outer s H vs Q E hr h => ?_)
  · exact spR_len (R_shown_len T) h
  · refine ⟨_, (pss_cons (ps_set (i := 2) sc_shown.nd rfl (Or.inl rfl) (pe_make T.Numbers_init.m (ok_Numbers_init T) (hr.mono (by decide)) (by rfl) T.g_Numbers T.Numbers_init.b .nil pass0 (pa_cons (pv 0) pa_nil)))
    (pss_cons (ps_asg (pv 1) (k_pgT (K := K) rfl rfl (pgs_cons (pg_name (i := 4) sc_shown.nd rfl (Or.inl rfl)) (pgs_cons (pg_name (i := 5) sc_shown.nd rfl (Or.inl rfl)) pgs_nil))))
    (pss_cons (ps_for PassesOwn.never rfl (pi_range1 rfl T.b_range (pa_cons (k_fld (K := K) rfl (pv 0) rfl) pa_nil)) (pg_name (i := 3) sc_shown.nd rfl (Or.inl rfl)) (pss_cons (ps_if (pt_cmpR (k_eq (K := K) rfl hr.units) (pv 4) (pe_meth (pv 2) T.cl_Numbers T.Numbers_at.m (ok_Numbers_at T) (hr.mono (by decide)) T.Numbers_at.b .nil pass0 (pa_cons (pv 3) pa_nil)) (nomark _)) (pss_one (ps_ret (pe_tup (pa_cons pe_str (pa_cons (pe_op (k_add (K := K) rfl) (pe_tup (pa_cons (pv 3) pa_nil)) (pe_ix (k_ix (K := K) rfl) (pv 5) pe_int (fun _ _ => rfl))) pa_nil))))) pss_nil)
      (pss_one (ps_if (pt_cmpR (k_eq (K := K) rfl hr.units) (pv 4) (pe_meth (pv 2) T.cl_Numbers T.Numbers_back_at.m (ok_Numbers_back_at T) (hr.mono (by decide)) T.Numbers_back_at.b .nil pass0 (pa_cons (pv 3) pa_nil)) (nomark _)) (pss_one (ps_ret (pe_tup (pa_cons pe_str (pa_cons (pe_op (k_add (K := K) rfl) (pe_tup (pa_cons (pv 3) pa_nil)) (pe_ix (k_ix (K := K) rfl) (pv 5) pe_int (fun _ _ => rfl))) pa_nil))))) pss_nil))))
    (pss_one (ps_ret pe_non))))), ?_⟩
    refine spR_run h (fun as r hR => ?_)
    obtain ⟨M, c, ok, rfl, rfl⟩ := hR
    have s40 := ok.s40
    refine xs_give (ev_make (ea_cons (ev_ob rfl) ea_nil) ⟨M, ok, rfl, rfl⟩ InsAt.mono) ?_
    refine xs_giveG (ev_var rfl) (eg_tup rfl (egs_cons eg_name (egs_cons eg_name egs_nil))) ?_
    refine xs_seq (xs_for (ei_rngN (ed_cons (ev_fld (ev_ob rfl) (tape_states T)) ed_nil) (by omega)) (fun i δ => (∀ j : Nat, j < i → c.st ≠ M.at' j ∧ c.st ≠ M.bat j) ∧ ∃ x, δ = [.ob (TapeAt T.C_Tape M), .d (cfD c), .ob (NumAt T.C_Numbers T.C_Tape M), x, .d (.int c.st), .d (.tuple [tpD c.t0, tpD c.t1, tpD c.t2])]) ⟨fun j hj => absurd hj (Nat.not_lt_zero j), _, rfl⟩ ?_ ?_)
    · rintro i d δ1 hd ⟨hI, x, rfl⟩
      obtain ⟨hi, rfl⟩ := rgN_get hd
      refine ⟨_, _, eg_name, ?_⟩
      by_cases h1 : c.st = M.at' i
      · refine xs_seq (xs_if1 (et_tst (ev_op (ev_var rfl) (ev_meth (ev_ob rfl) (num_is_at T) (ea_cons (ev_var rfl) ea_nil) ⟨M, _, ok, rfl, rfl⟩) rd_eqI) (decide_eq_true h1)) ?_)
        refine xs_ret (ev_tup (ed_cons ev_str (ed_cons (ev_op (ev_tup (ed_cons (ev_var rfl) ed_nil) (Nat.le_of_ble_eq_true rfl)) (ev_op (ev_var rfl) ev_int (rd_ixT rfl)) (rd_addT (Nat.le_of_ble_eq_true rfl))) ed_nil)) (Nat.le_of_ble_eq_true rfl)) ?_
        rw [shown_forth hi h1]
        rfl
      · refine xs_skip (et_tst (ev_op (ev_var rfl) (ev_meth (ev_ob rfl) (num_is_at T) (ea_cons (ev_var rfl) ea_nil) ⟨M, _, ok, rfl, rfl⟩) rd_eqI) (decide_eq_false h1)) ?_
        by_cases h2 : c.st = M.bat i
        · refine xs_if1 (et_tst (ev_op (ev_var rfl) (ev_meth (ev_ob rfl) (num_is_back_at T) (ea_cons (ev_var rfl) ea_nil) ⟨M, _, ok, rfl, rfl⟩) rd_eqI) (decide_eq_true h2)) ?_
          refine xs_ret (ev_tup (ed_cons ev_str (ed_cons (ev_op (ev_tup (ed_cons (ev_var rfl) ed_nil) (Nat.le_of_ble_eq_true rfl)) (ev_op (ev_var rfl) ev_int (rd_ixT rfl)) (rd_addT (Nat.le_of_ble_eq_true rfl))) ed_nil)) (Nat.le_of_ble_eq_true rfl)) ?_
          rw [shown_back ok hi h2]
          rfl
        · refine xs_if0 (et_tst (ev_op (ev_var rfl) (ev_meth (ev_ob rfl) (num_is_back_at T) (ea_cons (ev_var rfl) ea_nil) ⟨M, _, ok, rfl, rfl⟩) rd_eqI) (decide_eq_false h2)) (xs_next ⟨fun j hj => ?_, _, rfl⟩)
          by_cases q : j = i
          · rw [q]; exact ⟨h1, h2⟩
          · exact hI j (by omega)
    · rintro δ1 ⟨hI, x, rfl⟩
      rw [rgN_length] at hI
      refine xs_ret ev_non ?_
      rw [shown_none hI]
/-- f 0 ++ f 1 ++ .. below n -/
def fl {α : Type} (f : Nat → List α) (n : Nat) : List α := (List.range n).flatMap f
theorem fl_zero {α : Type} (f : Nat → List α) : fl f 0 = [] := rfl
theorem fl_succ {α : Type} (f : Nat → List α) (n : Nat) : fl f (n + 1) = fl f n ++ f n := by
  unfold fl
  rw [List.range_succ, List.flatMap_append, List.flatMap_cons, List.flatMap_nil, List.append_nil]
theorem fl_len {α : Type} {f : Nat → List α} {k : Nat} (h : ∀ i, (f i).length ≤ k) : ∀ n, (fl f n).length ≤ n * k
  | 0 => by simp [fl_zero]
  | n + 1 => by
    rw [fl_succ, List.length_append, Nat.succ_mul]
    have := fl_len h n
    have := h n
    omega
theorem fl_map {α β : Type} (g : α → β) (f : Nat → List α) (n : Nat) : (fl f n).map g = fl (fun i => (f i).map g) n := by
  unfold fl
  rw [List.map_flatMap]
def pairsD (M : Mach) (q a : Nat) : List PyData :=
  match M.at_ q a with
  | none => []
  | some x => [.tuple [.int (M.p q a), .int q, .int a, orD (some x)]]
def R_pairs_of (T : Txt K mg) (as : List Sl) (r : Sl) : Prop := ∃ (M : Mach), M.Ok ∧ as = [.ob (TapeAt T.C_Tape M)] ∧ r = .d (.list (fl (fun q => fl (pairsD M q) M.m) M.s))
theorem R_pairs_of_len (T : Txt K mg) (as : List Sl) (r : Sl) (h : R_pairs_of T as r) : as.length = 1 := by obtain ⟨_, _, rfl, _⟩ := h; rfl
theorem pairsD_len (M : Mach) (q a : Nat) : (pairsD M q a).length ≤ 1 := by
  unfold pairsD
  split <;> simp
/-- so many rows at most -/
theorem two_len {α : Type} {M : Mach} (ok : M.Ok) {f : Nat → Nat → List α} {k i a : Nat} (h : ∀ q a, (f q a).length ≤ k) (hi : i ≤ M.s) (ha : a ≤ M.m) : (fl (fun q => fl (f q) M.m) i).length + (fl (f i) a).length ≤ 320 * k + 8 * k := by
  have h1 := fl_len (f := fun q => fl (f q) M.m) (k := M.m * k) (fun q => fl_len (h q) M.m) i
  have h2 := fl_len (h i) a
  have m8 := ok.m8
  have s40 := ok.s40
  have h3 : i * (M.m * k) ≤ 40 * (8 * k) := Nat.mul_le_mul (by omega) (Nat.mul_le_mul_right k m8)
  have h4 : a * k ≤ 8 * k := Nat.mul_le_mul_right k (by omega)
  omega
theorem ok_pairs_of (T : Txt K mg) : FnOk P w K mg base CX0 3 T.pairs_of.f T.pairs_of.fd P_pairs_of (spR (R_pairs_of T)) := by
  refine T.pairs_of.F.ok sc_pairs_of (fun vs H Q E h => ?_) (fun cdv A outer s H vs Q E hr h => ?_)
  · exact spR_len (R_pairs_of_len T) h
  · refine ⟨_, (pss_cons (ps_set (i := 1) sc_pairs_of.nd rfl (Or.inl rfl) (pe_lst pa_nil))
    (pss_cons (ps_for PassesOwn.never rfl (pi_range1 rfl T.b_range (pa_cons (k_fld (K := K) rfl (pv 0) rfl) pa_nil)) (pg_name (i := 2) sc_pairs_of.nd rfl (Or.inl rfl)) (pss_one (ps_for PassesOwn.never rfl (pi_range1 rfl T.b_range (pa_cons (k_fld (K := K) rfl (pv 0) rfl) pa_nil)) (pg_name (i := 3) sc_pairs_of.nd rfl (Or.inl rfl)) (pss_cons (ps_set (i := 4) sc_pairs_of.nd rfl (Or.inl rfl) (pe_meth (pv 0) T.cl_Tape T.Tape_row.m (ok_Tape_row T) (hr.mono (by decide)) T.Tape_row.b .nil pass0 (pa_cons (pv 2) (pa_cons (pv 3) pa_nil))))
        (pss_one (ps_if (pt_cmpR (op_isNotG) (pv 4) pe_non (nomark _)) (pss_one (ps_expr (k_app (K := K) rfl (pv 1) (pa_cons (pe_tup (pa_cons (pe_op (k_add (K := K) rfl) (pe_op (op_mulG) (k_fld (K := K) rfl (pv 0) rfl) (pv 2)) (pv 3)) (pa_cons (pv 2) (pa_cons (pv 3) (pa_cons (pv 4) pa_nil))))) pa_nil)))) pss_nil))))))
    (pss_one (ps_ret (pv 1))))), ?_⟩
    refine spR_run h (fun as r hR => ?_)
    obtain ⟨M, ok, rfl, rfl⟩ := hR
    have s40 := ok.s40
    have m8 := ok.m8
    refine xs_giveL (el_lst ed_nil (Nat.zero_le _)) ?_
    refine xs_seq (xs_for (ei_rngN (ed_cons (ev_fld (ev_ob rfl) (tape_states T)) ed_nil) (by omega)) (fun i δ => i ≤ M.s ∧ ∃ x y z, δ = [.ob (TapeAt T.C_Tape M), .own (fl (fun q => fl (pairsD M q) M.m) i), x, y, z]) ⟨Nat.zero_le _, _, _, _, rfl⟩ ?_ ?_)
    · rintro i d δ1 hd ⟨_, x, y, z, rfl⟩
      obtain ⟨hi, rfl⟩ := rgN_get hd
      refine ⟨_, _, eg_name, ?_⟩
      refine xs_for (ei_rngN (ed_cons (ev_fld (ev_ob rfl) (tape_marks T)) ed_nil) (by omega)) (fun a δ => a ≤ M.m ∧ ∃ y z, δ = [.ob (TapeAt T.C_Tape M), .own (fl (fun q => fl (pairsD M q) M.m) i ++ fl (pairsD M i) a), .d (.int i), y, z]) ⟨Nat.zero_le _, y, z, by rw [fl_zero, List.append_nil]; rfl⟩ ?_ ?_
      · rintro a d δ1 hd ⟨ha', y, z, rfl⟩
        obtain ⟨ha, rfl⟩ := rgN_get hd
        refine ⟨_, _, eg_name, ?_⟩
        refine xs_give (ev_meth (ev_ob rfl) (tape_row T) (ea_cons (ev_var rfl) (ea_cons (ev_var rfl) ea_nil)) ⟨M, i, a, ok, hi, ha, rfl, rfl⟩) ?_
        have hl := two_len ok (pairsD_len M) (Nat.le_of_lt hi) ha'
        cases e : M.at_ i a with
        | none =>
          refine xs_if0 (et_tst (ev_op (ev_var rfl) ev_non rd_isNot) rfl) (xs_next ⟨ha, .d (.int a), .d (orD none), ?_⟩)
          have z1 : fl (pairsD M i) (a + 1) = fl (pairsD M i) a := by rw [fl_succ, pairsD, e]; simp
          rw [z1]
          rfl
        | some x =>
          refine xs_if1 (et_tst (ev_op (ev_var rfl) ev_non rd_isNot) rfl) ?_
          refine xs_app rfl (ev_tup (ed_cons (ev_op (ev_op (ev_fld (ev_ob rfl) (tape_marks T)) (ev_var rfl) (rd_mul (cmul_s (by omega) (by omega)))) (ev_var rfl) rd_addI) (ed_cons (ev_var rfl) (ed_cons (ev_var rfl) (ed_cons (ev_var rfl) ed_nil)))) (Nat.le_of_ble_eq_true rfl)) (by rw [List.length_append]; omega) ⟨ha, .d (.int a), .d (orD (some x)), ?_⟩
          have z1 : fl (pairsD M i) (a + 1) = fl (pairsD M i) a ++ [.tuple [.int (M.p i a), .int i, .int a, orD (some x)]] := by rw [fl_succ]; conv => lhs; arg 2; rw [pairsD, e]
          rw [z1, ← List.append_assoc]
          rfl
      · rintro δ1 ⟨_, y, z, rfl⟩
        refine ⟨hi, .d (.int i), y, z, ?_⟩
        rw [fl_succ, rgN_length]
    · rintro δ1 ⟨_, x, y, z, rfl⟩
      rw [rgN_length]
      exact xs_frz (i := 1) rfl (xs_ret (ev_var rfl) rfl)
end
end BK
set_option maxRecDepth 100000
set_option maxHeartbeats 4000000
namespace BK
open PySem L2 DL CM
local macro_rules | `(tactic| walk_at "rd") => `(tactic| first
  | with_reducible exact rd_addI
  | with_reducible exact rd_sub
  | with_reducible exact rd_lt
  | with_reducible exact rd_le
  | with_reducible exact rd_gt
  | with_reducible exact rd_ge
  | with_reducible exact rd_eqI
  | with_reducible exact rd_neI
  | with_reducible exact rd_is
  | with_reducible exact rd_isNot
  | exact rd_mul (cmul_s (by omega) (by omega))
  | exact rd_mod (by first | decide | omega)
  | exact rd_fdv (by first | decide | omega)
  | exact rd_consI (by first | omega | (simp; omega) | simp)
  | exact rd_snocI (by first | omega | (simp; omega) | simp)
  | exact rd_catI (by first | omega | (simp; omega) | simp)
  | with_reducible exact rd_head0
  | with_reducible exact rd_ww
  | with_reducible exact rd_mm
  | with_reducible exact rd_wm
  | with_reducible exact rd_mw
  | with_reducible exact rd_nww
  | exact rd_ixT rfl
  | exact rd_ixL rfl
  | exact rd_addT (by first | decide | simp))
local macro_rules | `(tactic| walk_at "R") => `(tactic| first
  | exact ⟨_, _, _, rfl, rfl⟩
  | exact ⟨_, rfl, (by first | omega | (simp; omega) | simp), rfl⟩)
local macro_rules | `(tactic| walk_at "rc") => `(tactic| first
  | with_reducible exact rc_int
  | with_reducible exact rc_intB
  | with_reducible exact rc_lenT
  | with_reducible exact rc_lenL
  | with_reducible exact rc_abs
  | with_reducible exact rc_tupL
  | with_reducible exact rc_tupT)
local macro_rules | `(tactic| walk_at "ev") => `(tactic| first
  | with_reducible exact ev_int
  | with_reducible exact ev_non
  | with_reducible exact ev_bl
  | with_reducible exact ev_str
  | exact ev_var rfl
  | exact ev_ob rfl
  | ((with_reducible refine' ev_isi ?k1 ?k2); (case k1 => walk_at "ev"); (case k2 => first | exact kit_ii | exact kit_ib | exact kit_tt | exact kit_it))
  | ((with_reducible refine' ev_op ?k1 ?k2 ?k3); (case k1 => walk_at "ev"); (case k2 => walk_at "ev"); (case k3 => walk_at "rd"))
  | ((with_reducible refine' ev_un ?k1 ?k2); (case k1 => walk_at "ev"); (case k2 => exact ru_neg))
  | ((with_reducible refine' ev_cb ?k1 ?k2); (case k1 => walk_at "ed"); (case k2 => walk_at "rc"))
  | ((with_reducible refine' ev_tup ?k1 ?k2); (case k1 => walk_at "ed"); (case k2 => exact Nat.le_of_ble_eq_true rfl))
  | ((with_reducible refine' ev_andV ?k1 ?k2); (case k1 => walk_at "ev"); (case k2 => (intro _; walk_at "ev")))
  | ((with_reducible refine' ev_orV ?k1 ?k2); (case k1 => walk_at "ev"); (case k2 => (intro _; walk_at "ev")))
  | ((with_reducible refine' ev_notV ?k1); (case k1 => walk_at "ev"))
  | ((with_reducible refine' ev_chain ?k1 ?k2 ?k3 ?k4 ?k5); (case k1 => walk_at "ev"); (case k2 => walk_at "ev"); (case k3 => (intro _; walk_at "ev")); (case k4 => walk_at "rd"); (case k5 => walk_at "rd"))
  | ((with_reducible refine' ev_fld ?k1 ?k2); (case k1 => walk_at "ev"); (case k2 => walk_at "F"))
  | ((with_reducible refine' ev_meth ?k1 ?k2 ?k3 ?k4); (case k1 => walk_at "ev"); (case k2 => walk_at "I"); (case k3 => walk_at "ea"); (case k4 => walk_at "R"))
  | ((with_reducible refine' ev_call ?k1 ?k2); (case k1 => walk_at "ea"); (case k2 => walk_at "R"))
  | ((with_reducible refine' ev_sl1 ?k1); (case k1 => walk_at "ev"))
  | ((with_reducible refine' ev_sl ?k1 ?k2 ?k3); (case k1 => walk_at "ev"); (case k2 => walk_at "eo"); (case k3 => walk_at "eo"))
  | ((with_reducible refine' ev_ofL (el_sl ?k1 ?k2 ?k3)); (case k1 => walk_at "ev"); (case k2 => walk_at "eo"); (case k3 => walk_at "eo")))
local macro_rules | `(tactic| walk_at "eo") => `(tactic| first
  | with_reducible exact eo_none
  | ((with_reducible refine' eo_some ?k1); (case k1 => walk_at "ev")))
local macro_rules | `(tactic| walk_at "ed") => `(tactic| first
  | with_reducible exact ed_nil
  | ((with_reducible refine' ed_cons ?k1 ?k2); (case k1 => walk_at "ev"); (case k2 => walk_at "ed")))
local macro_rules | `(tactic| walk_at "ea") => `(tactic| first
  | with_reducible exact ea_nil
  | ((with_reducible refine' ea_cons ?k1 ?k2); (case k1 => walk_at "ev"); (case k2 => walk_at "ea")))
local macro_rules | `(tactic| walk_at "et") => `(tactic| first
  | ((with_reducible refine' et_test ?k1); (case k1 => walk_at "ev"))
  | ((with_reducible refine' et_B ?k1); (case k1 => walk_at "ev"))
  | ((with_reducible refine' et_not ?k1); (case k1 => walk_at "et"))
  | ((with_reducible refine' et_and ?k1 ?k2); (case k1 => walk_at "et"); (case k2 => (intro _; walk_at "et")))
  | ((with_reducible refine' et_or ?k1 ?k2); (case k1 => walk_at "et"); (case k2 => (intro _; walk_at "et"))))
local macro_rules | `(tactic| walk_at "give") => `(tactic| ((with_reducible refine' xs_give ?k1 ?_); (case k1 => walk_at "ev")))
local macro_rules | `(tactic| walk_at "ret") => `(tactic| ((with_reducible refine' xs_ret ?k1 ?_); (case k1 => walk_at "ev")))
local macro_rules | `(tactic| walk_at "tst") => `(tactic| ((with_reducible refine' et_tst ?k1 ?_); (case k1 => walk_at "ev")))
local macro_rules | `(tactic| walk_at "etto") => `(tactic| ((with_reducible refine' et_to ?k1 ?_); (case k1 => walk_at "et")))
local macro_rules | `(tactic| walk_at "evto") => `(tactic| ((with_reducible refine' ev_dto ?k1 ?_); (case k1 => walk_at "ev")))

section
variable {P : Program} {w : World} {K : PySem.W.Frag} {mg : Str → Option Value} {base : Heap}
local macro_rules | `(tactic| walk_at "F") => `(tactic| first
  | exact tape_marks ‹Txt _ _›
  | exact tape_states ‹Txt _ _›
  | exact tape_rows ‹Txt _ _›
  | exact num_machine ‹Txt _ _›
  | exact num_states ‹Txt _ _›
  | exact num_pairs ‹Txt _ _›
  | exact num_halt ‹Txt _ _›
  | exact num_undo ‹Txt _ _›
  | exact num_end ‹Txt _ _›)
local macro_rules | `(tactic| walk_at "I") => `(tactic| first
  | exact tape_row ‹Txt _ _›
  | exact tape_table ‹Txt _ _›
  | exact num_is_enter ‹Txt _ _›
  | exact num_is_at ‹Txt _ _›
  | exact num_is_go ‹Txt _ _›
  | exact num_is_note ‹Txt _ _›
  | exact num_is_copying ‹Txt _ _›
  | exact num_is_back_at ‹Txt _ _›
  | exact num_is_back_enter ‹Txt _ _›
  | exact num_is_back_note ‹Txt _ _›
  | exact num_is_back_go ‹Txt _ _›)

local macro_rules | `(tactic| walk_at "R") => `(tactic| first
  | exact ⟨_, _, ‹Mach.Ok _›, rfl, rfl⟩
  | exact ⟨_, _, _, ‹Mach.Ok _›, ‹_›, ‹_›, rfl, rfl⟩
  | exact ⟨_, _, _, _, _, rfl, rfl⟩
  | exact ⟨_, ‹Mach.Ok _›, rfl, rfl⟩)
local macro_rules | `(tactic| walk_at "row") => `(tactic| ((with_reducible refine' ev_dto ?k1 ?k2); (case k1 => walk_at "ev"); (case k2 => rfl)))

/-! WF: the rows of the run with notes. -/
def onI (g : Int → PyData) : PyData → PyData
  | .int i => g i
  | _ => .none
theorem map_onI (g : Int → PyData) (l : List Int) : (l.map PyData.int).map (onI g) = l.map g := by
  rw [List.map_map]; rfl
theorem rgN_onI (g : Int → PyData) (n : Nat) : (rgN n).map (onI g) = (ns n).map g := by rw [rgN_ints, map_onI]
def PRd (M : Mach) (q a : Nat) : List PyData := (M.pairRows q a).map rwD
theorem ns_length (n : Nat) : (ns n).length = n := by simp [ns]
theorem PRd_len {M : Mach} (ok : M.Ok) (q a : Nat) : (PRd M q a).length ≤ 10 := by
  have m8 := ok.m8
  unfold PRd Mach.pairRows
  split
  · simp
  · simp [Mach.mks, ns_length]
    omega
def S0 (M : Mach) : List PyData := (ns M.m).map fun a => rwD (.w 0 a 0 0 a 0 0 (M.enter 0))
def R_forth (T : Txt K mg) (as : List Sl) (r : Sl) : Prop := ∃ (M : Mach), M.Ok ∧ as = [.ob (NumAt T.C_Numbers T.C_Tape M)] ∧ r = .d (.list (M.forth.map rwD))
theorem R_forth_len (T : Txt K mg) (as : List Sl) (r : Sl) (h : R_forth T as r) : as.length = 1 := by obtain ⟨_, _, rfl, _⟩ := h; rfl
theorem forth_eq (M : Mach) : M.forth.map rwD = S0 M ++ fl (fun q => fl (PRd M q) M.m) M.s ++ (ns M.s).map fun q => rwD (.m (M.enter q) 0 1 0 (M.at' q)) := by
  unfold Mach.forth S0 PRd
  rw [List.map_append, List.map_append, List.map_map]
  congr 1
  · congr 1
    show (fl (fun q => fl (M.pairRows q) M.m) M.s).map rwD = _
    rw [fl_map]
    congr 1
    funext q
    rw [fl_map]
  · simp [ns]
theorem take_map_succ {l : List Int} {i : Nat} {a : Int} {g : Int → PyData} (h : l[i]? = some a) : (l.take (i + 1)).map g = (l.take i).map g ++ [g a] := by
  rw [take_succ_of h, List.map_append]
  rfl
theorem ok_forth (T : Txt K mg) : FnOk P w K mg base CX0 3 T.forth.f T.forth.fd P_forth (spR (R_forth T)) := by
  refine T.forth.F.ok sc_forth (fun vs H Q E h => ?_) (fun cdv A outer s H vs Q E hr h => ?_)
  · exact spR_len (R_forth_len T) h
  · refine ⟨_, (pss_cons (ps_set (i := 1) sc_forth.nd rfl (Or.inl rfl) (k_fld (K := K) rfl (pv 0) rfl))
    (pss_cons (ps_set (i := 2) sc_forth.nd rfl (Or.inl rfl) (pe_listRg rfl (by rfl) T.b_list (prg_1 (by rfl) T.b_range (k_fld (K := K) rfl (pv 1) rfl))))
    (pss_cons (ps_setLc (i := 3) (own := [("a", 5)]) rfl sc_forth.nd rfl rfl (sw_true rfl rfl rfl (by decide +kernel)) (k_piL (K := K) rfl (pv 2)) (blkOk_by (own := [("a", 5)]) (N := N_forth) (sc := defScope s_forth) (by decide +kernel)) (fun _ _ _ _ _ => (pg_name (i := 5) sc_forth.nd rfl (Or.inl rfl))) (fun _ _ _ _ _ => pts_nil) (fun _ _ _ _ _ => (pe_call (ok_same T) (hr.mono (by decide)) (by rfl) T.same.g T.same.F.kp T.same.b .nil pass0 (pa_cons pe_int (pa_cons (pe_tup (pa_cons (pv 5) (pa_cons pe_int (pa_cons pe_int pa_nil)))) (pa_cons (pe_meth (pv 0) T.cl_Numbers T.Numbers_enter.m (ok_Numbers_enter T) (hr.mono (by decide)) T.Numbers_enter.b .nil pass0 (pa_cons pe_int pa_nil)) pa_nil))))))
    (pss_cons (ps_for PassesOwn.never rfl (pi_range1 rfl T.b_range (pa_cons (k_fld (K := K) rfl (pv 1) rfl) pa_nil)) (pg_name (i := 4) sc_forth.nd rfl (Or.inl rfl)) (pss_one (ps_for PassesOwn.never rfl (k_piL (K := K) rfl (pv 2)) (pg_name (i := 5) sc_forth.nd rfl (Or.inl rfl)) (pss_cons (ps_set (i := 6) sc_forth.nd rfl (Or.inl rfl) (pe_meth (pv 1) T.cl_Tape T.Tape_row.m (ok_Tape_row T) (hr.mono (by decide)) T.Tape_row.b .nil pass0 (pa_cons (pv 4) (pa_cons (pv 5) pa_nil))))
        (pss_cons (ps_set (i := 7) sc_forth.nd rfl (Or.inl rfl) (pe_op (k_add (K := K) rfl) (pe_op (op_mulG) (k_fld (K := K) rfl (pv 1) rfl) (pv 4)) (pv 5)))
        (pss_cons (ps_if (pt_cmpR (op_isG) (pv 6) pe_non (nomark _)) (pss_cons (ps_expr (k_app (K := K) rfl (pv 3) (pa_cons (pe_tup (pa_cons pe_str (pa_cons (pe_meth (pv 0) T.cl_Numbers T.Numbers_at.m (ok_Numbers_at T) (hr.mono (by decide)) T.Numbers_at.b .nil pass0 (pa_cons (pv 4) pa_nil)) (pa_cons (pe_tup (pa_cons (pv 5) (pa_cons pe_int (pa_cons pe_int pa_nil)))) (pa_cons (pe_tup (pa_cons (pv 5) (pa_cons (pe_op (k_add (K := K) rfl) (pv 7) pe_int) (pa_cons pe_int pa_nil)))) (pa_cons (k_fld (K := K) rfl (pv 0) rfl) pa_nil)))))) pa_nil)))
          (pss_one ps_continue)) pss_nil)
        (pss_cons (ps_expr (k_app (K := K) rfl (pv 3) (pa_cons (pe_tup (pa_cons pe_str (pa_cons (pe_meth (pv 0) T.cl_Numbers T.Numbers_at.m (ok_Numbers_at T) (hr.mono (by decide)) T.Numbers_at.b .nil pass0 (pa_cons (pv 4) pa_nil)) (pa_cons (pe_tup (pa_cons (pv 5) (pa_cons pe_int (pa_cons pe_int pa_nil)))) (pa_cons (pe_tup (pa_cons (pe_ix (k_ix (K := K) rfl) (pv 6) pe_int (fun _ _ => rfl)) (pa_cons pe_int (pa_cons pe_int pa_nil)))) (pa_cons (pe_meth (pv 0) T.cl_Numbers T.Numbers_go.m (ok_Numbers_go T) (hr.mono (by decide)) T.Numbers_go.b .nil pass0 (pa_cons (pv 7) pa_nil)) pa_nil)))))) pa_nil)))
        (pss_cons (ps_expr (k_app (K := K) rfl (pv 3) (pa_cons (pe_tup (pa_cons pe_str (pa_cons (pe_meth (pv 0) T.cl_Numbers T.Numbers_go.m (ok_Numbers_go T) (hr.mono (by decide)) T.Numbers_go.b .nil pass0 (pa_cons (pv 7) pa_nil)) (pa_cons (pe_tup (pa_cons (pe_ix (k_ix (K := K) rfl) (pv 6) pe_int (fun _ _ => rfl)) (pa_cons pe_int (pa_cons pe_int pa_nil)))) (pa_cons (pe_meth (pv 0) T.cl_Numbers T.Numbers_note.m (ok_Numbers_note T) (hr.mono (by decide)) T.Numbers_note.b .nil pass0 (pa_cons (pv 7) pa_nil)) pa_nil))))) pa_nil)))
        (pss_one (ps_for PassesOwn.never rfl (k_piL (K := K) rfl (pv 2)) (pg_name (i := 8) sc_forth.nd rfl (Or.inl rfl)) (pss_one (ps_expr (k_app (K := K) rfl (pv 3) (pa_cons (pe_tup (pa_cons pe_str (pa_cons (pe_meth (pv 0) T.cl_Numbers T.Numbers_note.m (ok_Numbers_note T) (hr.mono (by decide)) T.Numbers_note.b .nil pass0 (pa_cons (pv 7) pa_nil)) (pa_cons (pe_tup (pa_cons (pv 8) (pa_cons pe_int (pa_cons pe_int pa_nil)))) (pa_cons (pe_tup (pa_cons (pv 8) (pa_cons (pe_op (k_add (K := K) rfl) (pv 7) pe_int) (pa_cons pe_int pa_nil)))) (pa_cons (pe_meth (pv 0) T.cl_Numbers T.Numbers_enter.m (ok_Numbers_enter T) (hr.mono (by decide)) T.Numbers_enter.b .nil pass0 (pa_cons (pe_ix (k_ix (K := K) rfl) (pv 6) pe_int (fun _ _ => rfl)) pa_nil)) pa_nil)))))) pa_nil))))))))))))))
    (pss_cons (ps_expr (k_ext (K := K) rfl (pv 3) (pa_cons (pe_lc (own := [("q", 9)]) rfl sc_forth.nd (pi_range1 rfl T.b_range (pa_cons (k_fld (K := K) rfl (pv 1) rfl) pa_nil)) (blkOk_by (own := [("q", 9)]) (N := N_forth) (sc := defScope s_forth) (by decide +kernel)) (fun _ _ _ _ _ => (pg_name (i := 9) sc_forth.nd rfl (Or.inl rfl))) (fun _ _ _ _ _ => pts_nil) (fun _ _ _ _ _ => (pe_tup (pa_cons pe_str (pa_cons (pe_meth (pv 0) T.cl_Numbers T.Numbers_enter.m (ok_Numbers_enter T) (hr.mono (by decide)) T.Numbers_enter.b .nil pass0 (pa_cons (pv 9) pa_nil)) (pa_cons (pe_tup (pa_cons pe_int (pa_cons pe_int (pa_cons pe_int pa_nil)))) (pa_cons (pe_meth (pv 0) T.cl_Numbers T.Numbers_at.m (ok_Numbers_at T) (hr.mono (by decide)) T.Numbers_at.b .nil pass0 (pa_cons (pv 9) pa_nil)) pa_nil))))))) pa_nil)))
    (pss_one (ps_ret (pv 3)))))))), ?_⟩
    refine spR_run h (fun as r hR => ?_)
    obtain ⟨M, ok, rfl, rfl⟩ := hR
    have s40 := ok.s40
    have m8 := ok.m8
    refine xs_give (ev_fld (ev_ob rfl) (num_machine T)) ?_
    refine xs_give (ev_ofL (el_listRg (ev_fld (ev_ob rfl) (tape_marks T)) (by omega))) ?_
    refine xs_giveL (el_to (el_lc1 (onI fun a => rwD (.w 0 a 0 0 a 0 0 (M.enter 0))) (ei_list (ev_var rfl)) (by rw [rgN_length]; omega) ?_) (rgN_onI _ _)) ?_
    · intro d hd
      obtain ⟨i, hi, rfl⟩ := rgN_mem hd
      refine ⟨_, _, eg_name, by simp, ?_⟩
      walk_at "row"
    refine xs_seq (xs_for (ei_rngN (ed_cons (ev_fld (ev_ob rfl) (tape_states T)) ed_nil) (by omega)) (fun i δ => i ≤ M.s ∧ ∃ x4 x5 x6 x7 x8, δ = [.ob (NumAt T.C_Numbers T.C_Tape M), .ob (TapeAt T.C_Tape M), .d (.list (rgN M.m)), .own (S0 M ++ fl (fun q => fl (PRd M q) M.m) i), x4, x5, x6, x7, x8, .no]) ⟨Nat.zero_le _, .no, .no, .no, .no, .no, by rw [fl_zero, List.append_nil]; rfl⟩ ?_ ?_)
    · rintro i d δ1 hd ⟨_, x4, x5, x6, x7, x8, rfl⟩
      obtain ⟨hi, rfl⟩ := rgN_get hd
      refine ⟨_, _, eg_name, ?_⟩
      refine xs_for (ei_list (ev_var rfl)) (fun a δ => a ≤ M.m ∧ ∃ x5 x6 x7 x8, δ = [.ob (NumAt T.C_Numbers T.C_Tape M), .ob (TapeAt T.C_Tape M), .d (.list (rgN M.m)), .own (S0 M ++ (fl (fun q => fl (PRd M q) M.m) i ++ fl (PRd M i) a)), .d (.int i), x5, x6, x7, x8, .no]) ⟨Nat.zero_le _, x5, x6, x7, x8, by rw [fl_zero, List.append_nil]; rfl⟩ ?_ ?_
      · rintro a d δ1 hd ⟨ha', x5, x6, x7, x8, rfl⟩
        obtain ⟨ha, rfl⟩ := rgN_get hd
        refine ⟨_, _, eg_name, ?_⟩
        refine xs_give (ev_meth (ev_ob rfl) (tape_row T) (ea_cons (ev_var rfl) (ea_cons (ev_var rfl) ea_nil)) ⟨M, i, a, ok, hi, ha, rfl, rfl⟩) ?_
        refine xs_give (ev_op (ev_op (ev_fld (ev_ob rfl) (tape_marks T)) (ev_var rfl) (rd_mul (cmul_s (by omega) (by omega)))) (ev_var rfl) rd_addI) ?_
        have hl := two_len ok (PRd_len ok) (Nat.le_of_lt hi) ha'
        have hS : (S0 M).length ≤ 8 := by unfold S0; rw [List.length_map, ns_length]; exact m8
        have hX : (S0 M ++ (fl (fun q => fl (PRd M q) M.m) i ++ fl (PRd M i) a)).length ≤ 5000 := by rw [List.length_append, List.length_append]; omega
        have e1 : fl (PRd M i) (a + 1) = fl (PRd M i) a ++ PRd M i a := fl_succ _ _
        generalize hXe : S0 M ++ (fl (fun q => fl (PRd M q) M.m) i ++ fl (PRd M i) a) = X at hX
        have e2 : S0 M ++ (fl (fun q => fl (PRd M q) M.m) i ++ fl (PRd M i) (a + 1)) = X ++ PRd M i a := by rw [e1, ← hXe]; simp
        cases e : M.at_ i a with
        | none =>
          refine xs_seq (xs_if1 (et_tst (ev_op (ev_var rfl) ev_non rd_is) rfl) ?_)
          refine xs_seq (xs_app rfl (d := rwD (.w (M.at' i) a 0 0 a (M.p i a + 1) 0 M.halt)) ?_ (by omega) ?_)
          · walk_at "row"
          · refine xs_cont ⟨ha, .d (.int a), .d (orD none), .d (.int (M.p i a)), x8, ?_⟩
            rw [e2]
            unfold PRd Mach.pairRows
            rw [e]
            rfl
        | some row =>
          obtain ⟨b, dd, t⟩ := row
          refine xs_skip (et_tst (ev_op (ev_var rfl) ev_non rd_is) rfl) ?_
          refine xs_seq (xs_app rfl (d := rwD (.w (M.at' i) a 0 0 b 0 0 (M.go (M.p i a)))) ?_ (by omega) ?_)
          · walk_at "row"
          refine xs_seq (xs_app rfl (d := rwD (.m (M.go (M.p i a)) dd 0 0 (M.note (M.p i a)))) ?_ (by rw [List.length_append]; simp; omega) ?_)
          · walk_at "row"
          refine xs_for (ei_list (ev_var rfl)) (fun c δ => c ≤ M.m ∧ ∃ x8, δ = [.ob (NumAt T.C_Numbers T.C_Tape M), .ob (TapeAt T.C_Tape M), .d (.list (rgN M.m)), .own (X ++ [rwD (.w (M.at' i) a 0 0 b 0 0 (M.go (M.p i a)))] ++ [rwD (.m (M.go (M.p i a)) dd 0 0 (M.note (M.p i a)))] ++ ((ns M.m).take c).map fun c => rwD (.w (M.note (M.p i a)) c 0 0 c (M.p i a + 1) 0 (M.enter t))), .d (.int i), .d (.int a), .d (orD (some (b, dd, t))), .d (.int (M.p i a)), x8, .no]) ⟨Nat.zero_le _, x8, by rw [List.take_zero, List.map_nil, List.append_nil]; rfl⟩ ?_ ?_
          · rintro c d δ1 hd ⟨hc', x8, rfl⟩
            obtain ⟨hc, rfl⟩ := rgN_get hd
            have hcg : (ns M.m)[c]? = some (c : Int) := by simp [ns, hc]
            refine ⟨_, _, eg_name, ?_⟩
            refine xs_app rfl (d := rwD (.w (M.note (M.p i a)) c 0 0 c (M.p i a + 1) 0 (M.enter t))) ?_ ?_ ⟨hc, .d (.int c), ?_⟩
            · walk_at "row"
            · simp
              omega
            · rw [take_map_succ hcg, ← List.append_assoc]
              rfl
          · rintro δ1 ⟨_, x8, rfl⟩
            refine ⟨ha, .d (.int a), .d (orD (some (b, dd, t))), .d (.int (M.p i a)), x8, ?_⟩
            rw [e2, rgN_length, List.take_of_length_le (by rw [ns_length]; exact Nat.le_refl _)]
            unfold PRd Mach.pairRows
            rw [e]
            simp [Mach.mks]
      · rintro δ1 ⟨_, x5, x6, x7, x8, rfl⟩
        refine ⟨hi, .d (.int i), x5, x6, x7, x8, ?_⟩
        rw [fl_succ, rgN_length]
    · rintro δ1 ⟨_, x4, x5, x6, x7, x8, rfl⟩
      rw [rgN_length]
      have hl := two_len ok (PRd_len ok) (Nat.le_refl _) (Nat.zero_le _)
      have hS : (S0 M).length ≤ 8 := by unfold S0; rw [List.length_map, ns_length]; exact m8
      refine xs_seq (xs_ext rfl (el_to (el_lc1 (onI fun q => rwD (.m (M.enter q) 0 1 0 (M.at' q))) (ei_rngN (ed_cons (ev_fld (ev_ob rfl) (tape_states T)) ed_nil) (by omega)) (by rw [rgN_length]; omega) ?_) (rgN_onI _ _)) ?_ ?_)
      · intro d hd
        obtain ⟨i, hi, rfl⟩ := rgN_mem hd
        refine ⟨_, _, eg_name, by simp, ?_⟩
        walk_at "row"
      · rw [List.length_append, List.length_map, ns_length]
        rw [fl_zero] at hl
        simp at hl
        omega
      · refine xs_frz (i := 3) rfl (xs_ret (ev_var rfl) ?_)
        rw [forth_eq]
end
end BK
set_option maxRecDepth 100000
set_option maxHeartbeats 4000000
namespace BK
open PySem L2 DL CM
local macro_rules | `(tactic| walk_at "rd") => `(tactic| first
  | with_reducible exact rd_addI
  | with_reducible exact rd_sub
  | with_reducible exact rd_lt
  | with_reducible exact rd_le
  | with_reducible exact rd_gt
  | with_reducible exact rd_ge
  | with_reducible exact rd_eqI
  | with_reducible exact rd_neI
  | with_reducible exact rd_is
  | with_reducible exact rd_isNot
  | exact rd_mul (cmul_s (by omega) (by omega))
  | exact rd_mod (by first | decide | omega)
  | exact rd_fdv (by first | decide | omega)
  | exact rd_consI (by first | omega | (simp; omega) | simp)
  | exact rd_snocI (by first | omega | (simp; omega) | simp)
  | exact rd_catI (by first | omega | (simp; omega) | simp)
  | with_reducible exact rd_head0
  | with_reducible exact rd_ww
  | with_reducible exact rd_mm
  | with_reducible exact rd_wm
  | with_reducible exact rd_mw
  | with_reducible exact rd_nww
  | exact rd_ixT rfl
  | exact rd_ixL rfl
  | exact rd_addT (by first | decide | simp))
local macro_rules | `(tactic| walk_at "R") => `(tactic| first
  | exact ⟨_, _, _, rfl, rfl⟩
  | exact ⟨_, rfl, (by first | omega | (simp; omega) | simp), rfl⟩)
local macro_rules | `(tactic| walk_at "rc") => `(tactic| first
  | with_reducible exact rc_int
  | with_reducible exact rc_intB
  | with_reducible exact rc_lenT
  | with_reducible exact rc_lenL
  | with_reducible exact rc_abs
  | with_reducible exact rc_tupL
  | with_reducible exact rc_tupT)
local macro_rules | `(tactic| walk_at "ev") => `(tactic| first
  | with_reducible exact ev_int
  | with_reducible exact ev_non
  | with_reducible exact ev_bl
  | with_reducible exact ev_str
  | exact ev_var rfl
  | exact ev_ob rfl
  | ((with_reducible refine' ev_isi ?k1 ?k2); (case k1 => walk_at "ev"); (case k2 => first | exact kit_ii | exact kit_ib | exact kit_tt | exact kit_it))
  | ((with_reducible refine' ev_op ?k1 ?k2 ?k3); (case k1 => walk_at "ev"); (case k2 => walk_at "ev"); (case k3 => walk_at "rd"))
  | ((with_reducible refine' ev_un ?k1 ?k2); (case k1 => walk_at "ev"); (case k2 => exact ru_neg))
  | ((with_reducible refine' ev_cb ?k1 ?k2); (case k1 => walk_at "ed"); (case k2 => walk_at "rc"))
  | ((with_reducible refine' ev_tup ?k1 ?k2); (case k1 => walk_at "ed"); (case k2 => exact Nat.le_of_ble_eq_true rfl))
  | ((with_reducible refine' ev_andV ?k1 ?k2); (case k1 => walk_at "ev"); (case k2 => (intro _; walk_at "ev")))
  | ((with_reducible refine' ev_orV ?k1 ?k2); (case k1 => walk_at "ev"); (case k2 => (intro _; walk_at "ev")))
  | ((with_reducible refine' ev_notV ?k1); (case k1 => walk_at "ev"))
  | ((with_reducible refine' ev_chain ?k1 ?k2 ?k3 ?k4 ?k5); (case k1 => walk_at "ev"); (case k2 => walk_at "ev"); (case k3 => (intro _; walk_at "ev")); (case k4 => walk_at "rd"); (case k5 => walk_at "rd"))
  | ((with_reducible refine' ev_fld ?k1 ?k2); (case k1 => walk_at "ev"); (case k2 => walk_at "F"))
  | ((with_reducible refine' ev_meth ?k1 ?k2 ?k3 ?k4); (case k1 => walk_at "ev"); (case k2 => walk_at "I"); (case k3 => walk_at "ea"); (case k4 => walk_at "R"))
  | ((with_reducible refine' ev_call ?k1 ?k2); (case k1 => walk_at "ea"); (case k2 => walk_at "R"))
  | ((with_reducible refine' ev_sl1 ?k1); (case k1 => walk_at "ev"))
  | ((with_reducible refine' ev_sl ?k1 ?k2 ?k3); (case k1 => walk_at "ev"); (case k2 => walk_at "eo"); (case k3 => walk_at "eo"))
  | ((with_reducible refine' ev_ofL (el_sl ?k1 ?k2 ?k3)); (case k1 => walk_at "ev"); (case k2 => walk_at "eo"); (case k3 => walk_at "eo")))
local macro_rules | `(tactic| walk_at "eo") => `(tactic| first
  | with_reducible exact eo_none
  | ((with_reducible refine' eo_some ?k1); (case k1 => walk_at "ev")))
local macro_rules | `(tactic| walk_at "ed") => `(tactic| first
  | with_reducible exact ed_nil
  | ((with_reducible refine' ed_cons ?k1 ?k2); (case k1 => walk_at "ev"); (case k2 => walk_at "ed")))
local macro_rules | `(tactic| walk_at "ea") => `(tactic| first
  | with_reducible exact ea_nil
  | ((with_reducible refine' ea_cons ?k1 ?k2); (case k1 => walk_at "ev"); (case k2 => walk_at "ea")))
local macro_rules | `(tactic| walk_at "et") => `(tactic| first
  | ((with_reducible refine' et_test ?k1); (case k1 => walk_at "ev"))
  | ((with_reducible refine' et_B ?k1); (case k1 => walk_at "ev"))
  | ((with_reducible refine' et_not ?k1); (case k1 => walk_at "et"))
  | ((with_reducible refine' et_and ?k1 ?k2); (case k1 => walk_at "et"); (case k2 => (intro _; walk_at "et")))
  | ((with_reducible refine' et_or ?k1 ?k2); (case k1 => walk_at "et"); (case k2 => (intro _; walk_at "et"))))
local macro_rules | `(tactic| walk_at "give") => `(tactic| ((with_reducible refine' xs_give ?k1 ?_); (case k1 => walk_at "ev")))
local macro_rules | `(tactic| walk_at "ret") => `(tactic| ((with_reducible refine' xs_ret ?k1 ?_); (case k1 => walk_at "ev")))
local macro_rules | `(tactic| walk_at "tst") => `(tactic| ((with_reducible refine' et_tst ?k1 ?_); (case k1 => walk_at "ev")))
local macro_rules | `(tactic| walk_at "etto") => `(tactic| ((with_reducible refine' et_to ?k1 ?_); (case k1 => walk_at "et")))
local macro_rules | `(tactic| walk_at "evto") => `(tactic| ((with_reducible refine' ev_dto ?k1 ?_); (case k1 => walk_at "ev")))

section
variable {P : Program} {w : World} {K : PySem.W.Frag} {mg : Str → Option Value} {base : Heap}
local macro_rules | `(tactic| walk_at "F") => `(tactic| first
  | exact tape_marks ‹Txt _ _›
  | exact tape_states ‹Txt _ _›
  | exact tape_rows ‹Txt _ _›
  | exact num_machine ‹Txt _ _›
  | exact num_states ‹Txt _ _›
  | exact num_pairs ‹Txt _ _›
  | exact num_halt ‹Txt _ _›
  | exact num_undo ‹Txt _ _›
  | exact num_end ‹Txt _ _›)
local macro_rules | `(tactic| walk_at "I") => `(tactic| first
  | exact tape_row ‹Txt _ _›
  | exact tape_table ‹Txt _ _›
  | exact num_is_enter ‹Txt _ _›
  | exact num_is_at ‹Txt _ _›
  | exact num_is_go ‹Txt _ _›
  | exact num_is_note ‹Txt _ _›
  | exact num_is_copying ‹Txt _ _›
  | exact num_is_back_at ‹Txt _ _›
  | exact num_is_back_enter ‹Txt _ _›
  | exact num_is_back_note ‹Txt _ _›
  | exact num_is_back_go ‹Txt _ _›)

local macro_rules | `(tactic| walk_at "R") => `(tactic| first
  | exact ⟨_, _, ‹Mach.Ok _›, rfl, rfl⟩
  | exact ⟨_, _, _, ‹Mach.Ok _›, ‹_›, ‹_›, rfl, rfl⟩
  | exact ⟨_, _, _, _, _, rfl, rfl⟩
  | exact ⟨_, ‹Mach.Ok _›, rfl, rfl⟩)
local macro_rules | `(tactic| walk_at "row") => `(tactic| ((with_reducible refine' ev_dto ?k1 ?k2); (case k1 => walk_at "ev"); (case k2 => rfl)))

/-! WG: the rows that copy the answer. -/
def R_copying (T : Txt K mg) (as : List Sl) (r : Sl) : Prop := ∃ (M : Mach), M.Ok ∧ as = [.ob (NumAt T.C_Numbers T.C_Tape M)] ∧ r = .d (.list (M.copying.map rwD))
theorem R_copying_len (T : Txt K mg) (as : List Sl) (r : Sl) (h : R_copying T as r) : as.length = 1 := by obtain ⟨_, _, rfl, _⟩ := h; rfl
theorem flatMap_onI (g : Int → Int → PyData) (l m : List Int) : ((l.map PyData.int).flatMap fun d => (m.map PyData.int).map fun c => onI (fun a => onI (fun b => g a b) c) d) = l.flatMap fun a => m.map fun b => g a b := by
  rw [List.flatMap_map]
  congr 1
  funext a
  show (m.map PyData.int).map (onI fun b => g a b) = _
  rw [map_onI]
theorem some_eq (M : Mach) : (rgN M.m).tail = M.some_.map PyData.int := by rw [rgN_ints, ← List.map_tail]; rfl
theorem mks_eq (M : Mach) : rgN M.m = M.mks.map PyData.int := rgN_ints _
theorem some_len {M : Mach} (ok : M.Ok) : M.some_.length ≤ 8 := by
  have m8 := ok.m8
  unfold Mach.some_
  rw [List.length_tail, ns_length]
  omega
theorem mks_len {M : Mach} (ok : M.Ok) : M.mks.length ≤ 8 := by
  have m8 := ok.m8
  unfold Mach.mks
  rw [ns_length]
  exact m8
theorem flat2_len {l m : List Int} {α : Type} {g : Int → Int → α} (h1 : l.length ≤ 8) (h2 : m.length ≤ 8) : (l.flatMap fun a => m.map fun b => g a b).length ≤ 64 := by
  have : ∀ l : List Int, (l.flatMap fun a => m.map fun b => g a b).length = l.length * m.length := fun l => by
    induction l with
    | nil => simp
    | cons a l ih => rw [List.flatMap_cons, List.length_append, ih, List.length_map, List.length_cons, Nat.succ_mul]; omega
  rw [this]
  have := Nat.mul_le_mul h1 h2
  omega
def c0 (M : Mach) : List PyData := [rwD (.m M.halt 0 1 0 (M.halt + 1))]
def c1 (M : Mach) : List PyData := M.mks.map fun a => rwD (.w (M.halt + 1) a 0 0 a 0 0 (M.halt + 2))
def c2 (M : Mach) : List PyData := M.some_.flatMap fun b => M.mks.map fun x => rwD (.w (M.halt + 2) b 0 x b 0 x (M.halt + 3))
def c3 (M : Mach) : List PyData := M.mks.map fun x => rwD (.w (M.halt + 2) 0 0 x 0 0 x (M.halt + 7))
def c4 (M : Mach) : List PyData := [rwD (.m (M.halt + 3) 0 0 1 (M.halt + 4))]
def c5 (M : Mach) : List PyData := M.some_.map fun b => rwD (.w (M.halt + 4) b 0 0 b 0 b (M.halt + 5))
def c6 (M : Mach) : List PyData := [rwD (.m (M.halt + 5) 1 0 0 (M.halt + 6))]
def c7 (M : Mach) : List PyData := M.mks.flatMap fun a => M.some_.map fun b => rwD (.w (M.halt + 6) a 0 b a 0 b (M.halt + 2))
def c8 (M : Mach) : List PyData := M.mks.flatMap fun a => M.some_.map fun b => rwD (.w (M.halt + 7) a 0 b a 0 b (M.halt + 8))
def c9 (M : Mach) : List PyData := M.mks.map fun a => rwD (.w (M.halt + 7) a 0 0 a 0 0 (M.halt + 10))
def c10 (M : Mach) : List PyData := [rwD (.m (M.halt + 8) (-1) 0 (-1) (M.halt + 9))]
def c11 (M : Mach) : List PyData := M.some_.flatMap fun b => M.mks.map fun x => rwD (.w (M.halt + 9) b 0 x b 0 x (M.halt + 7))
def c12 (M : Mach) : List PyData := [rwD (.m (M.halt + 10) 0 (-1) 0 M.undo)]
theorem c0_len {M : Mach} (ok : M.Ok) : (c0 M).length ≤ 64 := Nat.le_of_ble_eq_true rfl
theorem c1_len {M : Mach} (ok : M.Ok) : (c1 M).length ≤ 64 := by have := mks_len ok; unfold c1; rw [List.length_map]; omega
theorem c2_len {M : Mach} (ok : M.Ok) : (c2 M).length ≤ 64 := flat2_len (some_len ok) (mks_len ok)
theorem c3_len {M : Mach} (ok : M.Ok) : (c3 M).length ≤ 64 := by have := mks_len ok; unfold c3; rw [List.length_map]; omega
theorem c4_len {M : Mach} (ok : M.Ok) : (c4 M).length ≤ 64 := Nat.le_of_ble_eq_true rfl
theorem c5_len {M : Mach} (ok : M.Ok) : (c5 M).length ≤ 64 := by have := some_len ok; unfold c5; rw [List.length_map]; omega
theorem c6_len {M : Mach} (ok : M.Ok) : (c6 M).length ≤ 64 := Nat.le_of_ble_eq_true rfl
theorem c7_len {M : Mach} (ok : M.Ok) : (c7 M).length ≤ 64 := flat2_len (mks_len ok) (some_len ok)
theorem c8_len {M : Mach} (ok : M.Ok) : (c8 M).length ≤ 64 := flat2_len (mks_len ok) (some_len ok)
theorem c9_len {M : Mach} (ok : M.Ok) : (c9 M).length ≤ 64 := by have := mks_len ok; unfold c9; rw [List.length_map]; omega
theorem c10_len {M : Mach} (ok : M.Ok) : (c10 M).length ≤ 64 := Nat.le_of_ble_eq_true rfl
theorem c11_len {M : Mach} (ok : M.Ok) : (c11 M).length ≤ 64 := flat2_len (some_len ok) (mks_len ok)
theorem c12_len {M : Mach} (ok : M.Ok) : (c12 M).length ≤ 64 := Nat.le_of_ble_eq_true rfl
theorem copying_eq (M : Mach) : M.copying.map rwD = c0 M ++ c1 M ++ c2 M ++ c3 M ++ c4 M ++ c5 M ++ c6 M ++ c7 M ++ c8 M ++ c9 M ++ c10 M ++ c11 M ++ c12 M := by
  simp [Mach.copying, List.map_flatMap, Function.comp_def, c0, c1, c2, c3, c4, c5, c6, c7, c8, c9, c10, c11, c12]
theorem ok_copying (T : Txt K mg) : FnOk P w K mg base CX0 2 T.copying.f T.copying.fd P_copying (spR (R_copying T)) := by
  refine T.copying.F.ok sc_copying (fun vs H Q E h => ?_) (fun cdv A outer s H vs Q E hr h => ?_)
  · exact spR_len (R_copying_len T) h
  · refine ⟨_, (pss_cons (ps_set (i := 1) sc_copying.nd rfl (Or.inr rfl) (pe_listRg rfl (by rfl) T.b_list (prg_1 (by rfl) T.b_range (k_fld (K := K) rfl (k_fld (K := K) rfl (pv 0) rfl) rfl))))
    (pss_cons (ps_set (i := 2) sc_copying.nd rfl (Or.inr rfl) (pe_slice (k_sl (K := K) rfl) (pv 1) (po_some pe_int) po_none))
    (pss_cons (ps_asg (pe_lc (own := [("k", 15)]) rfl sc_copying.nd (pi_range1 rfl T.b_range (pa_cons (pe_glob (v := .int 11) (by rfl) T.c_COPYING ⟨_, rfl⟩) pa_nil)) (blkOk_by (own := [("k", 15)]) (N := N_copying) (sc := defScope s_copying) (by decide +kernel)) (fun _ _ _ _ _ => (pg_name (i := 15) sc_copying.nd rfl (Or.inl rfl))) (fun _ _ _ _ _ => pts_nil) (fun _ _ _ _ _ => (pe_meth (pv 0) T.cl_Numbers T.Numbers_copying.m (ok_Numbers_copying T) (hr.mono (by decide)) T.Numbers_copying.b .nil pass0 (pa_cons (pv 15) pa_nil)))) (k_pgU (K := K) rfl rfl (pgs_cons (pg_name (i := 4) sc_copying.nd rfl (Or.inl rfl)) (pgs_cons (pg_name (i := 5) sc_copying.nd rfl (Or.inr rfl)) (pgs_cons (pg_name (i := 6) sc_copying.nd rfl (Or.inr rfl)) (pgs_cons (pg_name (i := 7) sc_copying.nd rfl (Or.inr rfl)) (pgs_cons (pg_name (i := 8) sc_copying.nd rfl (Or.inr rfl)) (pgs_cons (pg_name (i := 9) sc_copying.nd rfl (Or.inr rfl)) (pgs_cons (pg_name (i := 10) sc_copying.nd rfl (Or.inr rfl)) (pgs_cons (pg_name (i := 11) sc_copying.nd rfl (Or.inr rfl)) (pgs_cons (pg_name (i := 12) sc_copying.nd rfl (Or.inr rfl)) (pgs_cons (pg_name (i := 13) sc_copying.nd rfl (Or.inr rfl)) (pgs_cons (pg_name (i := 14) sc_copying.nd rfl (Or.inr rfl)) pgs_nil)))))))))))))
    (pss_cons (ps_set (i := 3) sc_copying.nd rfl (Or.inl rfl) (pe_lst (pa_cons (pe_tup (pa_cons pe_str (pa_cons (pv 4) (pa_cons (pe_tup (pa_cons pe_int (pa_cons pe_int (pa_cons pe_int pa_nil)))) (pa_cons (pv 5) pa_nil))))) pa_nil)))
    (pss_cons (ps_expr (k_ext (K := K) rfl (pv 3) (pa_cons (pe_lc (own := [("a", 16)]) rfl sc_copying.nd (k_piL (K := K) rfl (pv 1)) (blkOk_by (own := [("a", 16)]) (N := N_copying) (sc := defScope s_copying) (by decide +kernel)) (fun _ _ _ _ _ => (pg_name (i := 16) sc_copying.nd rfl (Or.inl rfl))) (fun _ _ _ _ _ => pts_nil) (fun _ _ _ _ _ => (pe_call (ok_same T) (hr.mono (by decide)) (by rfl) T.same.g T.same.F.kp T.same.b .nil pass0 (pa_cons (pv 5) (pa_cons (pe_tup (pa_cons (pv 16) (pa_cons pe_int (pa_cons pe_int pa_nil)))) (pa_cons (pv 6) pa_nil)))))) pa_nil)))
    (pss_cons (ps_expr (k_ext (K := K) rfl (pv 3) (pa_cons (pe_lc2 (own := [("b", 17), ("x", 18)]) (vs1 := [18]) rfl sc_copying.nd (k_piL (K := K) rfl (pv 2)) (blkOk_by (own := [("b", 17), ("x", 18)]) (N := N_copying) (sc := defScope s_copying) (by decide +kernel)) (by decide) (fun _ _ _ _ _ => (pg_name (i := 17) sc_copying.nd rfl (Or.inl rfl))) (fun _ _ _ _ _ => pts_nil) (fun _ _ _ _ _ => (k_piL (K := K) rfl (pv 1))) (fun _ _ _ _ _ => (pg_name (i := 18) sc_copying.nd rfl (Or.inl rfl))) (fun _ _ _ _ _ => pts_nil) (fun _ _ _ _ _ => (pe_call (ok_same T) (hr.mono (by decide)) (by rfl) T.same.g T.same.F.kp T.same.b .nil pass0 (pa_cons (pv 6) (pa_cons (pe_tup (pa_cons (pv 17) (pa_cons pe_int (pa_cons (pv 18) pa_nil)))) (pa_cons (pv 7) pa_nil)))))) pa_nil)))
    (pss_cons (ps_expr (k_ext (K := K) rfl (pv 3) (pa_cons (pe_lc (own := [("x", 18)]) rfl sc_copying.nd (k_piL (K := K) rfl (pv 1)) (blkOk_by (own := [("x", 18)]) (N := N_copying) (sc := defScope s_copying) (by decide +kernel)) (fun _ _ _ _ _ => (pg_name (i := 18) sc_copying.nd rfl (Or.inl rfl))) (fun _ _ _ _ _ => pts_nil) (fun _ _ _ _ _ => (pe_call (ok_same T) (hr.mono (by decide)) (by rfl) T.same.g T.same.F.kp T.same.b .nil pass0 (pa_cons (pv 6) (pa_cons (pe_tup (pa_cons pe_int (pa_cons pe_int (pa_cons (pv 18) pa_nil)))) (pa_cons (pv 11) pa_nil)))))) pa_nil)))
    (pss_cons (ps_expr (k_app (K := K) rfl (pv 3) (pa_cons (pe_tup (pa_cons pe_str (pa_cons (pv 7) (pa_cons (pe_tup (pa_cons pe_int (pa_cons pe_int (pa_cons pe_int pa_nil)))) (pa_cons (pv 8) pa_nil))))) pa_nil)))
    (pss_cons (ps_expr (k_ext (K := K) rfl (pv 3) (pa_cons (pe_lc (own := [("b", 17)]) rfl sc_copying.nd (k_piL (K := K) rfl (pv 2)) (blkOk_by (own := [("b", 17)]) (N := N_copying) (sc := defScope s_copying) (by decide +kernel)) (fun _ _ _ _ _ => (pg_name (i := 17) sc_copying.nd rfl (Or.inl rfl))) (fun _ _ _ _ _ => pts_nil) (fun _ _ _ _ _ => (pe_tup (pa_cons pe_str (pa_cons (pv 8) (pa_cons (pe_tup (pa_cons (pv 17) (pa_cons pe_int (pa_cons pe_int pa_nil)))) (pa_cons (pe_tup (pa_cons (pv 17) (pa_cons pe_int (pa_cons (pv 17) pa_nil)))) (pa_cons (pv 9) pa_nil)))))))) pa_nil)))
    (pss_cons (ps_expr (k_app (K := K) rfl (pv 3) (pa_cons (pe_tup (pa_cons pe_str (pa_cons (pv 9) (pa_cons (pe_tup (pa_cons pe_int (pa_cons pe_int (pa_cons pe_int pa_nil)))) (pa_cons (pv 10) pa_nil))))) pa_nil)))
    (pss_cons (ps_expr (k_ext (K := K) rfl (pv 3) (pa_cons (pe_lc2 (own := [("a", 16), ("b", 17)]) (vs1 := [17]) rfl sc_copying.nd (k_piL (K := K) rfl (pv 1)) (blkOk_by (own := [("a", 16), ("b", 17)]) (N := N_copying) (sc := defScope s_copying) (by decide +kernel)) (by decide) (fun _ _ _ _ _ => (pg_name (i := 16) sc_copying.nd rfl (Or.inl rfl))) (fun _ _ _ _ _ => pts_nil) (fun _ _ _ _ _ => (k_piL (K := K) rfl (pv 2))) (fun _ _ _ _ _ => (pg_name (i := 17) sc_copying.nd rfl (Or.inl rfl))) (fun _ _ _ _ _ => pts_nil) (fun _ _ _ _ _ => (pe_call (ok_same T) (hr.mono (by decide)) (by rfl) T.same.g T.same.F.kp T.same.b .nil pass0 (pa_cons (pv 10) (pa_cons (pe_tup (pa_cons (pv 16) (pa_cons pe_int (pa_cons (pv 17) pa_nil)))) (pa_cons (pv 6) pa_nil)))))) pa_nil)))
    (pss_cons (ps_expr (k_ext (K := K) rfl (pv 3) (pa_cons (pe_lc2 (own := [("a", 16), ("b", 17)]) (vs1 := [17]) rfl sc_copying.nd (k_piL (K := K) rfl (pv 1)) (blkOk_by (own := [("a", 16), ("b", 17)]) (N := N_copying) (sc := defScope s_copying) (by decide +kernel)) (by decide) (fun _ _ _ _ _ => (pg_name (i := 16) sc_copying.nd rfl (Or.inl rfl))) (fun _ _ _ _ _ => pts_nil) (fun _ _ _ _ _ => (k_piL (K := K) rfl (pv 2))) (fun _ _ _ _ _ => (pg_name (i := 17) sc_copying.nd rfl (Or.inl rfl))) (fun _ _ _ _ _ => pts_nil) (fun _ _ _ _ _ => (pe_call (ok_same T) (hr.mono (by decide)) (by rfl) T.same.g T.same.F.kp T.same.b .nil pass0 (pa_cons (pv 11) (pa_cons (pe_tup (pa_cons (pv 16) (pa_cons pe_int (pa_cons (pv 17) pa_nil)))) (pa_cons (pv 12) pa_nil)))))) pa_nil)))
    (pss_cons (ps_expr (k_ext (K := K) rfl (pv 3) (pa_cons (pe_lc (own := [("a", 16)]) rfl sc_copying.nd (k_piL (K := K) rfl (pv 1)) (blkOk_by (own := [("a", 16)]) (N := N_copying) (sc := defScope s_copying) (by decide +kernel)) (fun _ _ _ _ _ => (pg_name (i := 16) sc_copying.nd rfl (Or.inl rfl))) (fun _ _ _ _ _ => pts_nil) (fun _ _ _ _ _ => (pe_call (ok_same T) (hr.mono (by decide)) (by rfl) T.same.g T.same.F.kp T.same.b .nil pass0 (pa_cons (pv 11) (pa_cons (pe_tup (pa_cons (pv 16) (pa_cons pe_int (pa_cons pe_int pa_nil)))) (pa_cons (pv 14) pa_nil)))))) pa_nil)))
    (pss_cons (ps_expr (k_app (K := K) rfl (pv 3) (pa_cons (pe_tup (pa_cons pe_str (pa_cons (pv 12) (pa_cons (pe_tup (pa_cons (pe_un un_negG pe_int) (pa_cons pe_int (pa_cons (pe_un un_negG pe_int) pa_nil)))) (pa_cons (pv 13) pa_nil))))) pa_nil)))
    (pss_cons (ps_expr (k_ext (K := K) rfl (pv 3) (pa_cons (pe_lc2 (own := [("b", 17), ("x", 18)]) (vs1 := [18]) rfl sc_copying.nd (k_piL (K := K) rfl (pv 2)) (blkOk_by (own := [("b", 17), ("x", 18)]) (N := N_copying) (sc := defScope s_copying) (by decide +kernel)) (by decide) (fun _ _ _ _ _ => (pg_name (i := 17) sc_copying.nd rfl (Or.inl rfl))) (fun _ _ _ _ _ => pts_nil) (fun _ _ _ _ _ => (k_piL (K := K) rfl (pv 1))) (fun _ _ _ _ _ => (pg_name (i := 18) sc_copying.nd rfl (Or.inl rfl))) (fun _ _ _ _ _ => pts_nil) (fun _ _ _ _ _ => (pe_call (ok_same T) (hr.mono (by decide)) (by rfl) T.same.g T.same.F.kp T.same.b .nil pass0 (pa_cons (pv 13) (pa_cons (pe_tup (pa_cons (pv 17) (pa_cons pe_int (pa_cons (pv 18) pa_nil)))) (pa_cons (pv 11) pa_nil)))))) pa_nil)))
    (pss_cons (ps_expr (k_app (K := K) rfl (pv 3) (pa_cons (pe_tup (pa_cons pe_str (pa_cons (pv 14) (pa_cons (pe_tup (pa_cons pe_int (pa_cons (pe_un un_negG pe_int) (pa_cons pe_int pa_nil)))) (pa_cons (k_fld (K := K) rfl (pv 0) rfl) pa_nil))))) pa_nil)))
    (pss_one (ps_ret (pv 3))))))))))))))))))), ?_⟩
    refine spR_run h (fun as r hR => ?_)
    obtain ⟨M, ok, rfl, rfl⟩ := hR
    have s40 := ok.s40
    have m8 := ok.m8
    have l1 := some_len ok
    have l2 := mks_len ok
    refine xs_give (ev_ofL (el_to (el_listRg (ev_fld (ev_fld (ev_ob rfl) (num_machine T)) (tape_marks T)) (by omega)) (mks_eq M))) ?_
    refine xs_give (ev_ofL (el_to (el_sl (ev_var rfl) (eo_some ev_int) eo_none) (by rw [cutD_from1, ← mks_eq, some_eq]))) ?_
    refine xs_giveG (ev_ofL (el_to (el_lc1 (onI fun k => .int (M.halt + k)) (ei_rngN (n := 11) (ed_cons ev_int ed_nil) (by decide)) (Nat.le_of_ble_eq_true rfl) ?_) (rgN_onI _ _))) (eg_unl rfl (egs_cons eg_name (egs_cons eg_name (egs_cons eg_name (egs_cons eg_name (egs_cons eg_name (egs_cons eg_name (egs_cons eg_name (egs_cons eg_name (egs_cons eg_name (egs_cons eg_name (egs_cons eg_name egs_nil)))))))))))) ?_
    · intro d hd
      obtain ⟨i, hi, rfl⟩ := rgN_mem hd
      refine ⟨_, _, eg_name, by simp, ?_⟩
      walk_at "row"
    have hh : M.halt + ((0 : Nat) : Int) = M.halt := by simp
    refine xs_eq (δ' := [.ob (NumAt T.C_Numbers T.C_Tape M), .d (.list (M.mks.map PyData.int)), .d (.list (M.some_.map PyData.int)), .no, .d (.int M.halt), .d (.int (M.halt + 1)), .d (.int (M.halt + 2)), .d (.int (M.halt + 3)), .d (.int (M.halt + 4)), .d (.int (M.halt + 5)), .d (.int (M.halt + 6)), .d (.int (M.halt + 7)), .d (.int (M.halt + 8)), .d (.int (M.halt + 9)), .d (.int (M.halt + 10)), .no, .no, .no, .no]) ?_ ?_
    · show [_, _, _, _, Sl.d (.int (M.halt + ((0 : Nat) : Int))), _, _, _, _, _, _, _, _, _, _, _, _, _, _] = _
      rw [hh]
      rfl
    let D : List PyData → List Sl := fun X => [.ob (NumAt T.C_Numbers T.C_Tape M), .d (.list (M.mks.map PyData.int)), .d (.list (M.some_.map PyData.int)), .own X, .d (.int M.halt), .d (.int (M.halt + 1)), .d (.int (M.halt + 2)), .d (.int (M.halt + 3)), .d (.int (M.halt + 4)), .d (.int (M.halt + 5)), .d (.int (M.halt + 6)), .d (.int (M.halt + 7)), .d (.int (M.halt + 8)), .d (.int (M.halt + 9)), .d (.int (M.halt + 10)), .no, .no, .no, .no]
    have b0 := c0_len ok
    have b1 := c1_len ok
    have b2 := c2_len ok
    have b3 := c3_len ok
    have b4 := c4_len ok
    have b5 := c5_len ok
    have b6 := c6_len ok
    have b7 := c7_len ok
    have b8 := c8_len ok
    have b9 := c9_len ok
    have b10 := c10_len ok
    have b11 := c11_len ok
    have b12 := c12_len ok
    refine xs_giveL (i := 3) (ds := c0 M) (el_lst (ed_cons ?_ ed_nil) (Nat.le_of_ble_eq_true rfl)) ?_
    · walk_at "row"
    refine xs_seq (xs_ext rfl (el_to (el_lc1 (onI fun a => rwD (.w (M.halt + 1) a 0 0 a 0 0 (M.halt + 2))) (ei_list (ev_var rfl)) (by rw [List.length_map]; omega) ?_) (show _ = c1 M from map_onI _ _)) (by first | omega | (simp only [List.length_append]; omega)) ?_)
    · intro d hd
      obtain ⟨i, _, rfl⟩ := List.mem_map.mp hd
      refine ⟨_, _, eg_name, by simp, ?_⟩
      walk_at "row"
    refine xs_eq (δ' := D (c0 M ++ c1 M)) rfl ?_
    refine xs_seq (xs_ext rfl (el_to (el_lc2 (fun _ => M.mks.map PyData.int) (fun d c => onI (fun b => onI (fun x => rwD (.w (M.halt + 2) b 0 x b 0 x (M.halt + 3))) c) d) (ei_list (ev_var rfl)) ?_ ?_) (show _ = c2 M from flatMap_onI _ _ _)) (by first | omega | (simp only [List.length_append]; omega)) ?_)
    · have := flat2_len (g := fun (a b : Int) => PyData.int b) (some_len ok) (mks_len ok)
      rw [List.flatMap_map]
      exact Nat.le_trans this (by decide)
    · intro d hd
      obtain ⟨i, _, rfl⟩ := List.mem_map.mp hd
      refine ⟨_, _, eg_name, by simp, rfl, ei_list (ev_var rfl), fun c hc => ?_⟩
      obtain ⟨j, _, rfl⟩ := List.mem_map.mp hc
      refine ⟨_, _, eg_name, by simp, ?_⟩
      walk_at "row"
    refine xs_eq (δ' := D (c0 M ++ c1 M ++ c2 M)) rfl ?_
    refine xs_seq (xs_ext rfl (el_to (el_lc1 (onI fun x => rwD (.w (M.halt + 2) 0 0 x 0 0 x (M.halt + 7))) (ei_list (ev_var rfl)) (by rw [List.length_map]; omega) ?_) (show _ = c3 M from map_onI _ _)) (by first | omega | (simp only [List.length_append]; omega)) ?_)
    · intro d hd
      obtain ⟨i, _, rfl⟩ := List.mem_map.mp hd
      refine ⟨_, _, eg_name, by simp, ?_⟩
      walk_at "row"
    refine xs_eq (δ' := D (c0 M ++ c1 M ++ c2 M ++ c3 M)) rfl ?_
    refine xs_seq (xs_app rfl (d := rwD (.m (M.halt + 3) 0 0 1 (M.halt + 4))) ?_ (by first | omega | (simp only [List.length_append]; omega)) ?_)
    · walk_at "row"
    refine xs_eq (δ' := D (c0 M ++ c1 M ++ c2 M ++ c3 M ++ c4 M)) rfl ?_
    refine xs_seq (xs_ext rfl (el_to (el_lc1 (onI fun b => rwD (.w (M.halt + 4) b 0 0 b 0 b (M.halt + 5))) (ei_list (ev_var rfl)) (by rw [List.length_map]; omega) ?_) (show _ = c5 M from map_onI _ _)) (by first | omega | (simp only [List.length_append]; omega)) ?_)
    · intro d hd
      obtain ⟨i, _, rfl⟩ := List.mem_map.mp hd
      refine ⟨_, _, eg_name, by simp, ?_⟩
      walk_at "row"
    refine xs_eq (δ' := D (c0 M ++ c1 M ++ c2 M ++ c3 M ++ c4 M ++ c5 M)) rfl ?_
    refine xs_seq (xs_app rfl (d := rwD (.m (M.halt + 5) 1 0 0 (M.halt + 6))) ?_ (by first | omega | (simp only [List.length_append]; omega)) ?_)
    · walk_at "row"
    refine xs_eq (δ' := D (c0 M ++ c1 M ++ c2 M ++ c3 M ++ c4 M ++ c5 M ++ c6 M)) rfl ?_
    refine xs_seq (xs_ext rfl (el_to (el_lc2 (fun _ => M.some_.map PyData.int) (fun d c => onI (fun a => onI (fun b => rwD (.w (M.halt + 6) a 0 b a 0 b (M.halt + 2))) c) d) (ei_list (ev_var rfl)) ?_ ?_) (show _ = c7 M from flatMap_onI _ _ _)) (by first | omega | (simp only [List.length_append]; omega)) ?_)
    · have := flat2_len (g := fun (a b : Int) => PyData.int b) (mks_len ok) (some_len ok)
      rw [List.flatMap_map]
      exact Nat.le_trans this (by decide)
    · intro d hd
      obtain ⟨i, _, rfl⟩ := List.mem_map.mp hd
      refine ⟨_, _, eg_name, by simp, rfl, ei_list (ev_var rfl), fun c hc => ?_⟩
      obtain ⟨j, _, rfl⟩ := List.mem_map.mp hc
      refine ⟨_, _, eg_name, by simp, ?_⟩
      walk_at "row"
    refine xs_eq (δ' := D (c0 M ++ c1 M ++ c2 M ++ c3 M ++ c4 M ++ c5 M ++ c6 M ++ c7 M)) rfl ?_
    refine xs_seq (xs_ext rfl (el_to (el_lc2 (fun _ => M.some_.map PyData.int) (fun d c => onI (fun a => onI (fun b => rwD (.w (M.halt + 7) a 0 b a 0 b (M.halt + 8))) c) d) (ei_list (ev_var rfl)) ?_ ?_) (show _ = c8 M from flatMap_onI _ _ _)) (by first | omega | (simp only [List.length_append]; omega)) ?_)
    · have := flat2_len (g := fun (a b : Int) => PyData.int b) (mks_len ok) (some_len ok)
      rw [List.flatMap_map]
      exact Nat.le_trans this (by decide)
    · intro d hd
      obtain ⟨i, _, rfl⟩ := List.mem_map.mp hd
      refine ⟨_, _, eg_name, by simp, rfl, ei_list (ev_var rfl), fun c hc => ?_⟩
      obtain ⟨j, _, rfl⟩ := List.mem_map.mp hc
      refine ⟨_, _, eg_name, by simp, ?_⟩
      walk_at "row"
    refine xs_eq (δ' := D (c0 M ++ c1 M ++ c2 M ++ c3 M ++ c4 M ++ c5 M ++ c6 M ++ c7 M ++ c8 M)) rfl ?_
    refine xs_seq (xs_ext rfl (el_to (el_lc1 (onI fun a => rwD (.w (M.halt + 7) a 0 0 a 0 0 (M.halt + 10))) (ei_list (ev_var rfl)) (by rw [List.length_map]; omega) ?_) (show _ = c9 M from map_onI _ _)) (by first | omega | (simp only [List.length_append]; omega)) ?_)
    · intro d hd
      obtain ⟨i, _, rfl⟩ := List.mem_map.mp hd
      refine ⟨_, _, eg_name, by simp, ?_⟩
      walk_at "row"
    refine xs_eq (δ' := D (c0 M ++ c1 M ++ c2 M ++ c3 M ++ c4 M ++ c5 M ++ c6 M ++ c7 M ++ c8 M ++ c9 M)) rfl ?_
    refine xs_seq (xs_app rfl (d := rwD (.m (M.halt + 8) (-1) 0 (-1) (M.halt + 9))) ?_ (by first | omega | (simp only [List.length_append]; omega)) ?_)
    · walk_at "row"
    refine xs_eq (δ' := D (c0 M ++ c1 M ++ c2 M ++ c3 M ++ c4 M ++ c5 M ++ c6 M ++ c7 M ++ c8 M ++ c9 M ++ c10 M)) rfl ?_
    refine xs_seq (xs_ext rfl (el_to (el_lc2 (fun _ => M.mks.map PyData.int) (fun d c => onI (fun b => onI (fun x => rwD (.w (M.halt + 9) b 0 x b 0 x (M.halt + 7))) c) d) (ei_list (ev_var rfl)) ?_ ?_) (show _ = c11 M from flatMap_onI _ _ _)) (by first | omega | (simp only [List.length_append]; omega)) ?_)
    · have := flat2_len (g := fun (a b : Int) => PyData.int b) (some_len ok) (mks_len ok)
      rw [List.flatMap_map]
      exact Nat.le_trans this (by decide)
    · intro d hd
      obtain ⟨i, _, rfl⟩ := List.mem_map.mp hd
      refine ⟨_, _, eg_name, by simp, rfl, ei_list (ev_var rfl), fun c hc => ?_⟩
      obtain ⟨j, _, rfl⟩ := List.mem_map.mp hc
      refine ⟨_, _, eg_name, by simp, ?_⟩
      walk_at "row"
    refine xs_eq (δ' := D (c0 M ++ c1 M ++ c2 M ++ c3 M ++ c4 M ++ c5 M ++ c6 M ++ c7 M ++ c8 M ++ c9 M ++ c10 M ++ c11 M)) rfl ?_
    refine xs_seq (xs_app rfl (d := rwD (.m (M.halt + 10) 0 (-1) 0 M.undo)) ?_ (by first | omega | (simp only [List.length_append]; omega)) ?_)
    · walk_at "row"
    refine xs_eq (δ' := D (c0 M ++ c1 M ++ c2 M ++ c3 M ++ c4 M ++ c5 M ++ c6 M ++ c7 M ++ c8 M ++ c9 M ++ c10 M ++ c11 M ++ c12 M)) rfl ?_
    refine xs_frz (i := 3) rfl (xs_ret (ev_var rfl) ?_)
    rw [copying_eq]
end
end BK
set_option maxRecDepth 100000
set_option maxHeartbeats 4000000
namespace BK
open PySem L2 DL CM
local macro_rules | `(tactic| walk_at "rd") => `(tactic| first
  | with_reducible exact rd_addI
  | with_reducible exact rd_sub
  | with_reducible exact rd_lt
  | with_reducible exact rd_le
  | with_reducible exact rd_gt
  | with_reducible exact rd_ge
  | with_reducible exact rd_eqI
  | with_reducible exact rd_neI
  | with_reducible exact rd_is
  | with_reducible exact rd_isNot
  | exact rd_mul (cmul_s (by omega) (by omega))
  | exact rd_mod (by first | decide | omega)
  | exact rd_fdv (by first | decide | omega)
  | exact rd_consI (by first | omega | (simp; omega) | simp)
  | exact rd_snocI (by first | omega | (simp; omega) | simp)
  | exact rd_catI (by first | omega | (simp; omega) | simp)
  | with_reducible exact rd_head0
  | with_reducible exact rd_ww
  | with_reducible exact rd_mm
  | with_reducible exact rd_wm
  | with_reducible exact rd_mw
  | with_reducible exact rd_nww
  | exact rd_ixT rfl
  | exact rd_ixL rfl
  | exact rd_addT (by first | decide | simp))
local macro_rules | `(tactic| walk_at "R") => `(tactic| first
  | exact ⟨_, _, _, rfl, rfl⟩
  | exact ⟨_, rfl, (by first | omega | (simp; omega) | simp), rfl⟩)
local macro_rules | `(tactic| walk_at "rc") => `(tactic| first
  | with_reducible exact rc_int
  | with_reducible exact rc_intB
  | with_reducible exact rc_lenT
  | with_reducible exact rc_lenL
  | with_reducible exact rc_abs
  | with_reducible exact rc_tupL
  | with_reducible exact rc_tupT)
local macro_rules | `(tactic| walk_at "ev") => `(tactic| first
  | with_reducible exact ev_int
  | with_reducible exact ev_non
  | with_reducible exact ev_bl
  | with_reducible exact ev_str
  | exact ev_var rfl
  | exact ev_ob rfl
  | ((with_reducible refine' ev_isi ?k1 ?k2); (case k1 => walk_at "ev"); (case k2 => first | exact kit_ii | exact kit_ib | exact kit_tt | exact kit_it))
  | ((with_reducible refine' ev_op ?k1 ?k2 ?k3); (case k1 => walk_at "ev"); (case k2 => walk_at "ev"); (case k3 => walk_at "rd"))
  | ((with_reducible refine' ev_un ?k1 ?k2); (case k1 => walk_at "ev"); (case k2 => exact ru_neg))
  | ((with_reducible refine' ev_cb ?k1 ?k2); (case k1 => walk_at "ed"); (case k2 => walk_at "rc"))
  | ((with_reducible refine' ev_tup ?k1 ?k2); (case k1 => walk_at "ed"); (case k2 => exact Nat.le_of_ble_eq_true rfl))
  | ((with_reducible refine' ev_andV ?k1 ?k2); (case k1 => walk_at "ev"); (case k2 => (intro _; walk_at "ev")))
  | ((with_reducible refine' ev_orV ?k1 ?k2); (case k1 => walk_at "ev"); (case k2 => (intro _; walk_at "ev")))
  | ((with_reducible refine' ev_notV ?k1); (case k1 => walk_at "ev"))
  | ((with_reducible refine' ev_chain ?k1 ?k2 ?k3 ?k4 ?k5); (case k1 => walk_at "ev"); (case k2 => walk_at "ev"); (case k3 => (intro _; walk_at "ev")); (case k4 => walk_at "rd"); (case k5 => walk_at "rd"))
  | ((with_reducible refine' ev_fld ?k1 ?k2); (case k1 => walk_at "ev"); (case k2 => walk_at "F"))
  | ((with_reducible refine' ev_meth ?k1 ?k2 ?k3 ?k4); (case k1 => walk_at "ev"); (case k2 => walk_at "I"); (case k3 => walk_at "ea"); (case k4 => walk_at "R"))
  | ((with_reducible refine' ev_call ?k1 ?k2); (case k1 => walk_at "ea"); (case k2 => walk_at "R"))
  | ((with_reducible refine' ev_sl1 ?k1); (case k1 => walk_at "ev"))
  | ((with_reducible refine' ev_sl ?k1 ?k2 ?k3); (case k1 => walk_at "ev"); (case k2 => walk_at "eo"); (case k3 => walk_at "eo"))
  | ((with_reducible refine' ev_ofL (el_sl ?k1 ?k2 ?k3)); (case k1 => walk_at "ev"); (case k2 => walk_at "eo"); (case k3 => walk_at "eo")))
local macro_rules | `(tactic| walk_at "eo") => `(tactic| first
  | with_reducible exact eo_none
  | ((with_reducible refine' eo_some ?k1); (case k1 => walk_at "ev")))
local macro_rules | `(tactic| walk_at "ed") => `(tactic| first
  | with_reducible exact ed_nil
  | ((with_reducible refine' ed_cons ?k1 ?k2); (case k1 => walk_at "ev"); (case k2 => walk_at "ed")))
local macro_rules | `(tactic| walk_at "ea") => `(tactic| first
  | with_reducible exact ea_nil
  | ((with_reducible refine' ea_cons ?k1 ?k2); (case k1 => walk_at "ev"); (case k2 => walk_at "ea")))
local macro_rules | `(tactic| walk_at "et") => `(tactic| first
  | ((with_reducible refine' et_test ?k1); (case k1 => walk_at "ev"))
  | ((with_reducible refine' et_B ?k1); (case k1 => walk_at "ev"))
  | ((with_reducible refine' et_not ?k1); (case k1 => walk_at "et"))
  | ((with_reducible refine' et_and ?k1 ?k2); (case k1 => walk_at "et"); (case k2 => (intro _; walk_at "et")))
  | ((with_reducible refine' et_or ?k1 ?k2); (case k1 => walk_at "et"); (case k2 => (intro _; walk_at "et"))))
local macro_rules | `(tactic| walk_at "give") => `(tactic| ((with_reducible refine' xs_give ?k1 ?_); (case k1 => walk_at "ev")))
local macro_rules | `(tactic| walk_at "ret") => `(tactic| ((with_reducible refine' xs_ret ?k1 ?_); (case k1 => walk_at "ev")))
local macro_rules | `(tactic| walk_at "tst") => `(tactic| ((with_reducible refine' et_tst ?k1 ?_); (case k1 => walk_at "ev")))
local macro_rules | `(tactic| walk_at "etto") => `(tactic| ((with_reducible refine' et_to ?k1 ?_); (case k1 => walk_at "et")))
local macro_rules | `(tactic| walk_at "evto") => `(tactic| ((with_reducible refine' ev_dto ?k1 ?_); (case k1 => walk_at "ev")))

section
variable {P : Program} {w : World} {K : PySem.W.Frag} {mg : Str → Option Value} {base : Heap}
local macro_rules | `(tactic| walk_at "F") => `(tactic| first
  | exact tape_marks ‹Txt _ _›
  | exact tape_states ‹Txt _ _›
  | exact tape_rows ‹Txt _ _›
  | exact num_machine ‹Txt _ _›
  | exact num_states ‹Txt _ _›
  | exact num_pairs ‹Txt _ _›
  | exact num_halt ‹Txt _ _›
  | exact num_undo ‹Txt _ _›
  | exact num_end ‹Txt _ _›)
local macro_rules | `(tactic| walk_at "I") => `(tactic| first
  | exact tape_row ‹Txt _ _›
  | exact tape_table ‹Txt _ _›
  | exact num_is_enter ‹Txt _ _›
  | exact num_is_at ‹Txt _ _›
  | exact num_is_go ‹Txt _ _›
  | exact num_is_note ‹Txt _ _›
  | exact num_is_copying ‹Txt _ _›
  | exact num_is_back_at ‹Txt _ _›
  | exact num_is_back_enter ‹Txt _ _›
  | exact num_is_back_note ‹Txt _ _›
  | exact num_is_back_go ‹Txt _ _›)

local macro_rules | `(tactic| walk_at "R") => `(tactic| first
  | exact ⟨_, _, ‹Mach.Ok _›, rfl, rfl⟩
  | exact ⟨_, _, _, ‹Mach.Ok _›, ‹_›, ‹_›, rfl, rfl⟩
  | exact ⟨_, _, _, _, _, rfl, rfl⟩
  | exact ⟨_, ‹Mach.Ok _›, rfl, rfl⟩)
local macro_rules | `(tactic| walk_at "row") => `(tactic| ((with_reducible refine' ev_dto ?k1 ?k2); (case k1 => walk_at "ev"); (case k2 => rfl)))

/-! WH: the rows of the run backwards. -/
def URd (M : Mach) (q a : Nat) : List PyData := (M.undoRows q a).map rwD
theorem URd_len (M : Mach) (q a : Nat) : (URd M q a).length ≤ 1 := by
  unfold URd Mach.undoRows
  split <;> simp
/-- the rows that are not None -/
def trs (M : Mach) (q a : Nat) : List (Nat × Nat × Int × Int × Int) :=
  match M.at_ q a with
  | none => []
  | some x => [(q, a, x)]
def trsAll (M : Mach) : List (Nat × Nat × Int × Int × Int) := fl (fun q => fl (trs M q) M.m) M.s
def encT (M : Mach) (x : Nat × Nat × Int × Int × Int) : PyData := .tuple [.int (M.p x.1 x.2.1), .int x.1, .int x.2.1, .tuple [.int x.2.2.1, .int x.2.2.2.1, .int x.2.2.2.2]]
def brR (M : Mach) (x : Nat × Nat × Int × Int × Int) : List Rw :=
  (M.mks.map fun c => .w (M.benter x.2.2.2.2) c (M.p x.1 x.2.1 + 1) 0 c 0 0 (M.bnote (M.p x.1 x.2.1))) ++
      [.m (M.bnote (M.p x.1 x.2.1)) (-x.2.2.2.1) 0 0 (M.bgo (M.p x.1 x.2.1)), .w (M.bgo (M.p x.1 x.2.1)) x.2.2.1 0 0 x.2.1 0 0 (M.bat x.1)]
theorem pairs_enc (M : Mach) : fl (fun q => fl (pairsD M q) M.m) M.s = (trsAll M).map (encT M) := by
  unfold trsAll
  rw [fl_map]
  congr 1
  funext q
  rw [fl_map]
  congr 1
  funext a
  unfold pairsD trs
  cases M.at_ q a <;> rfl
theorem fl_flatMap {α β : Type} (g : α → List β) (f : Nat → List α) (n : Nat) : (fl f n).flatMap g = fl (fun i => (f i).flatMap g) n := by
  unfold fl
  rw [List.flatMap_assoc]
theorem back_br (M : Mach) : fl (fun q => fl (M.backRows q) M.m) M.s = (trsAll M).flatMap (brR M) := by
  unfold trsAll
  rw [fl_flatMap]
  congr 1
  funext q
  rw [fl_flatMap]
  congr 1
  funext a
  unfold Mach.backRows trs brR
  cases M.at_ q a <;> simp
theorem trs_len {M : Mach} (ok : M.Ok) : (trsAll M).length ≤ 320 := by
  have h1 : ∀ q a, (trs M q a).length ≤ 1 := fun q a => by unfold trs; split <;> simp
  have := fl_len (f := fun q => fl (trs M q) M.m) (k := M.m * 1) (fun q => fl_len (h1 q) M.m) M.s
  have m8 := ok.m8
  have s40 := ok.s40
  have h3 : M.s * (M.m * 1) ≤ 40 * 8 := Nat.mul_le_mul (by omega) (by omega)
  unfold trsAll
  omega
theorem brR_len {M : Mach} (ok : M.Ok) (x : Nat × Nat × Int × Int × Int) : (brR M x).length ≤ 10 := by
  have := mks_len ok
  unfold brR
  simp
  omega
theorem br_len {M : Mach} (ok : M.Ok) (l : List (Nat × Nat × Int × Int × Int)) : (l.flatMap (brR M)).length ≤ l.length * 10 := by
  induction l with
  | nil => simp
  | cons x l ih =>
    have := brR_len ok x
    rw [List.flatMap_cons, List.length_append, List.length_cons, Nat.succ_mul]
    omega
def R_back (T : Txt K mg) (as : List Sl) (r : Sl) : Prop := ∃ (M : Mach), M.Ok ∧ as = [.ob (NumAt T.C_Numbers T.C_Tape M)] ∧ r = .d (.list (M.back.map rwD))
theorem R_back_len (T : Txt K mg) (as : List Sl) (r : Sl) (h : R_back T as r) : as.length = 1 := by obtain ⟨_, _, rfl, _⟩ := h; rfl
def d1 (M : Mach) : List PyData := (ns M.s).map fun q => rwD (.m (M.bat q) 0 (-1) 0 (M.benter q))
def d2 (M : Mach) : List PyData := M.mks.map fun a => rwD (.w (M.benter 0) a 0 0 a 0 0 M.end_)
theorem back_eq (M : Mach) : M.back.map rwD = fl (fun q => fl (URd M q) M.m) M.s ++ d1 M ++ d2 M ++ ((trsAll M).flatMap (brR M)).map rwD := by
  have e1 : (fl (fun q => fl (M.undoRows q) M.m) M.s).map rwD = fl (fun q => fl (URd M q) M.m) M.s := by
    rw [fl_map]
    congr 1
    funext q
    rw [fl_map]
    rfl
  rw [← e1, ← back_br]
  unfold Mach.back d1 d2 fl
  simp [Function.comp_def, ns]
theorem take_flat_succ {α β : Type} {l : List α} {i : Nat} {a : α} {g : α → List β} (h : l[i]? = some a) : (l.take (i + 1)).flatMap g = (l.take i).flatMap g ++ g a := by
  rw [take_succ_of h, List.flatMap_append, List.flatMap_cons, List.flatMap_nil, List.append_nil]
theorem ok_back (T : Txt K mg) : FnOk P w K mg base CX0 4 T.back.f T.back.fd P_back (spR (R_back T)) := by
  refine T.back.F.ok sc_back (fun vs H Q E h => ?_) (fun cdv A outer s H vs Q E hr h => ?_)
  · exact spR_len (R_back_len T) h
  · refine ⟨_, (pss_cons (ps_set (i := 1) sc_back.nd rfl (Or.inl rfl) (k_fld (K := K) rfl (pv 0) rfl))
    (pss_cons (ps_set (i := 2) sc_back.nd rfl (Or.inl rfl) (pe_listRg rfl (by rfl) T.b_list (prg_1 (by rfl) T.b_range (k_fld (K := K) rfl (pv 1) rfl))))
    (pss_cons (ps_set (i := 3) sc_back.nd rfl (Or.inl rfl) (pe_lst pa_nil))
    (pss_cons (ps_for PassesOwn.never rfl (pi_range1 rfl T.b_range (pa_cons (k_fld (K := K) rfl (pv 1) rfl) pa_nil)) (pg_name (i := 4) sc_back.nd rfl (Or.inl rfl)) (pss_one (ps_for PassesOwn.never rfl (k_piL (K := K) rfl (pv 2)) (pg_name (i := 5) sc_back.nd rfl (Or.inl rfl)) (pss_one (ps_if (pt_cmpR (op_isG) (pe_meth (pv 1) T.cl_Tape T.Tape_row.m (ok_Tape_row T) (hr.mono (by decide)) T.Tape_row.b .nil pass0 (pa_cons (pv 4) (pa_cons (pv 5) pa_nil))) pe_non (nomark _)) (pss_cons (ps_set (i := 6) sc_back.nd rfl (Or.inl rfl) (pe_op (k_add (K := K) rfl) (pe_op (op_mulG) (k_fld (K := K) rfl (pv 1) rfl) (pv 4)) (pv 5)))
          (pss_one (ps_expr (k_app (K := K) rfl (pv 3) (pa_cons (pe_tup (pa_cons pe_str (pa_cons (k_fld (K := K) rfl (pv 0) rfl) (pa_cons (pe_tup (pa_cons (pv 5) (pa_cons (pe_op (k_add (K := K) rfl) (pv 6) pe_int) (pa_cons pe_int pa_nil)))) (pa_cons (pe_tup (pa_cons (pv 5) (pa_cons pe_int (pa_cons pe_int pa_nil)))) (pa_cons (pe_meth (pv 0) T.cl_Numbers T.Numbers_back_at.m (ok_Numbers_back_at T) (hr.mono (by decide)) T.Numbers_back_at.b .nil pass0 (pa_cons (pv 4) pa_nil)) pa_nil)))))) pa_nil))))) pss_nil)))))
    (pss_cons (ps_expr (k_ext (K := K) rfl (pv 3) (pa_cons (pe_lc (own := [("q", 12)]) rfl sc_back.nd (pi_range1 rfl T.b_range (pa_cons (k_fld (K := K) rfl (pv 1) rfl) pa_nil)) (blkOk_by (own := [("q", 12)]) (N := N_back) (sc := defScope s_back) (by decide +kernel)) (fun _ _ _ _ _ => (pg_name (i := 12) sc_back.nd rfl (Or.inl rfl))) (fun _ _ _ _ _ => pts_nil) (fun _ _ _ _ _ => (pe_tup (pa_cons pe_str (pa_cons (pe_meth (pv 0) T.cl_Numbers T.Numbers_back_at.m (ok_Numbers_back_at T) (hr.mono (by decide)) T.Numbers_back_at.b .nil pass0 (pa_cons (pv 12) pa_nil)) (pa_cons (pe_tup (pa_cons pe_int (pa_cons (pe_un un_negG pe_int) (pa_cons pe_int pa_nil)))) (pa_cons (pe_meth (pv 0) T.cl_Numbers T.Numbers_back_enter.m (ok_Numbers_back_enter T) (hr.mono (by decide)) T.Numbers_back_enter.b .nil pass0 (pa_cons (pv 12) pa_nil)) pa_nil))))))) pa_nil)))
    (pss_cons (ps_expr (k_ext (K := K) rfl (pv 3) (pa_cons (pe_lc (own := [("a", 5)]) rfl sc_back.nd (k_piL (K := K) rfl (pv 2)) (blkOk_by (own := [("a", 5)]) (N := N_back) (sc := defScope s_back) (by decide +kernel)) (fun _ _ _ _ _ => (pg_name (i := 5) sc_back.nd rfl (Or.inl rfl))) (fun _ _ _ _ _ => pts_nil) (fun _ _ _ _ _ => (pe_call (ok_same T) (hr.mono (by decide)) (by rfl) T.same.g T.same.F.kp T.same.b .nil pass0 (pa_cons (pe_meth (pv 0) T.cl_Numbers T.Numbers_back_enter.m (ok_Numbers_back_enter T) (hr.mono (by decide)) T.Numbers_back_enter.b .nil pass0 (pa_cons pe_int pa_nil)) (pa_cons (pe_tup (pa_cons (pv 5) (pa_cons pe_int (pa_cons pe_int pa_nil)))) (pa_cons (k_fld (K := K) rfl (pv 0) rfl) pa_nil)))))) pa_nil)))
    (pss_cons (ps_for PassesOwn.never rfl (k_piL (K := K) rfl (pe_call (ok_pairs_of T) (hr.mono (by decide)) (by rfl) T.pairs_of.g T.pairs_of.F.kp T.pairs_of.b .nil pass0 (pa_cons (pv 1) pa_nil))) (k_pgT (K := K) rfl rfl (pgs_cons (pg_name (i := 6) sc_back.nd rfl (Or.inl rfl)) (pgs_cons (pg_name (i := 4) sc_back.nd rfl (Or.inl rfl)) (pgs_cons (pg_name (i := 7) sc_back.nd rfl (Or.inl rfl)) (pgs_cons (k_pgT (K := K) rfl rfl (pgs_cons (pg_name (i := 9) sc_back.nd rfl (Or.inl rfl)) (pgs_cons (pg_name (i := 10) sc_back.nd rfl (Or.inl rfl)) (pgs_cons (pg_name (i := 11) sc_back.nd rfl (Or.inl rfl)) pgs_nil)))) pgs_nil))))) (pss_cons (ps_for PassesOwn.never rfl (k_piL (K := K) rfl (pv 2)) (pg_name (i := 8) sc_back.nd rfl (Or.inl rfl)) (pss_one (ps_expr (k_app (K := K) rfl (pv 3) (pa_cons (pe_tup (pa_cons pe_str (pa_cons (pe_meth (pv 0) T.cl_Numbers T.Numbers_back_enter.m (ok_Numbers_back_enter T) (hr.mono (by decide)) T.Numbers_back_enter.b .nil pass0 (pa_cons (pv 11) pa_nil)) (pa_cons (pe_tup (pa_cons (pv 8) (pa_cons (pe_op (k_add (K := K) rfl) (pv 6) pe_int) (pa_cons pe_int pa_nil)))) (pa_cons (pe_tup (pa_cons (pv 8) (pa_cons pe_int (pa_cons pe_int pa_nil)))) (pa_cons (pe_meth (pv 0) T.cl_Numbers T.Numbers_back_note.m (ok_Numbers_back_note T) (hr.mono (by decide)) T.Numbers_back_note.b .nil pass0 (pa_cons (pv 6) pa_nil)) pa_nil)))))) pa_nil)))))
      (pss_cons (ps_expr (k_app (K := K) rfl (pv 3) (pa_cons (pe_tup (pa_cons pe_str (pa_cons (pe_meth (pv 0) T.cl_Numbers T.Numbers_back_note.m (ok_Numbers_back_note T) (hr.mono (by decide)) T.Numbers_back_note.b .nil pass0 (pa_cons (pv 6) pa_nil)) (pa_cons (pe_tup (pa_cons (pe_un un_negG (pv 10)) (pa_cons pe_int (pa_cons pe_int pa_nil)))) (pa_cons (pe_meth (pv 0) T.cl_Numbers T.Numbers_back_go.m (ok_Numbers_back_go T) (hr.mono (by decide)) T.Numbers_back_go.b .nil pass0 (pa_cons (pv 6) pa_nil)) pa_nil))))) pa_nil)))
      (pss_one (ps_expr (k_app (K := K) rfl (pv 3) (pa_cons (pe_tup (pa_cons pe_str (pa_cons (pe_meth (pv 0) T.cl_Numbers T.Numbers_back_go.m (ok_Numbers_back_go T) (hr.mono (by decide)) T.Numbers_back_go.b .nil pass0 (pa_cons (pv 6) pa_nil)) (pa_cons (pe_tup (pa_cons (pv 9) (pa_cons pe_int (pa_cons pe_int pa_nil)))) (pa_cons (pe_tup (pa_cons (pv 7) (pa_cons pe_int (pa_cons pe_int pa_nil)))) (pa_cons (pe_meth (pv 0) T.cl_Numbers T.Numbers_back_at.m (ok_Numbers_back_at T) (hr.mono (by decide)) T.Numbers_back_at.b .nil pass0 (pa_cons (pv 4) pa_nil)) pa_nil)))))) pa_nil)))))))
    (pss_one (ps_ret (pv 3)))))))))), ?_⟩
    refine spR_run h (fun as r hR => ?_)
    obtain ⟨M, ok, rfl, rfl⟩ := hR
    have s40 := ok.s40
    have m8 := ok.m8
    have l2 := mks_len ok
    refine xs_give (ev_fld (ev_ob rfl) (num_machine T)) ?_
    refine xs_give (ev_ofL (el_to (el_listRg (ev_fld (ev_ob rfl) (tape_marks T)) (by omega)) (mks_eq M))) ?_
    refine xs_giveL (el_lst ed_nil (Nat.zero_le _)) ?_
    let D : List PyData → Sl → Sl → Sl → Sl → Sl → Sl → Sl → Sl → List Sl := fun X x4 x5 x6 x7 x8 x9 x10 x11 => [.ob (NumAt T.C_Numbers T.C_Tape M), .ob (TapeAt T.C_Tape M), .d (.list (M.mks.map PyData.int)), .own X, x4, x5, x6, x7, x8, x9, x10, x11, .no]
    refine xs_seq (xs_for (ei_rngN (ed_cons (ev_fld (ev_ob rfl) (tape_states T)) ed_nil) (by omega)) (fun i δ => i ≤ M.s ∧ ∃ x4 x5 x6, δ = D (fl (fun q => fl (URd M q) M.m) i) x4 x5 x6 .no .no .no .no .no) ⟨Nat.zero_le _, .no, .no, .no, rfl⟩ ?_ ?_)
    · rintro i d δ1 hd ⟨_, x4, x5, x6, rfl⟩
      obtain ⟨hi, rfl⟩ := rgN_get hd
      refine ⟨_, _, eg_name, ?_⟩
      refine xs_for (ds := rgN M.m) (by rw [mks_eq]; exact ei_list (ev_var rfl)) (fun a δ => a ≤ M.m ∧ ∃ x5 x6, δ = D (fl (fun q => fl (URd M q) M.m) i ++ fl (URd M i) a) (.d (.int i)) x5 x6 .no .no .no .no .no) ⟨Nat.zero_le _, x5, x6, by rw [fl_zero, List.append_nil]; rfl⟩ ?_ ?_
      · rintro a d δ1 hd ⟨ha', x5, x6, rfl⟩
        obtain ⟨ha, rfl⟩ := rgN_get hd
        refine ⟨_, _, eg_name, ?_⟩
        have hl := two_len ok (URd_len M) (Nat.le_of_lt hi) ha'
        have hrow : EvX (tMeth T.C_Tape "row" (spR (R_Tape_row T)) [] E0 (tVar 1) (tCons (tVar 4) (tCons (tVar 5) tNil))) ((D (fl (fun q => fl (URd M q) M.m) i ++ fl (URd M i) a) (.d (.int i)) x5 x6 .no .no .no .no .no).set 5 (.d (.int a))) (.d (orD (M.at_ i a))) :=
          ev_meth (ev_ob rfl) (tape_row T) (ea_cons (ev_var rfl) (ea_cons (ev_var rfl) ea_nil)) ⟨M, i, a, ok, hi, ha, rfl, rfl⟩
        have e1 : fl (URd M i) (a + 1) = fl (URd M i) a ++ URd M i a := fl_succ _ _
        cases e : M.at_ i a with
        | none =>
          rw [e] at hrow
          refine xs_if1 (et_tst (ev_op hrow ev_non rd_is) rfl) ?_
          refine xs_give (ev_op (ev_op (ev_fld (ev_ob rfl) (tape_marks T)) (ev_var rfl) (rd_mul (cmul_s (by omega) (by omega)))) (ev_var rfl) rd_addI) ?_
          refine xs_app rfl (d := rwD (.w M.undo a (M.p i a + 1) 0 a 0 0 (M.bat i))) ?_ (by rw [List.length_append]; omega) ⟨ha, .d (.int a), .d (.int (M.p i a)), ?_⟩
          · walk_at "row"
          · have z : URd M i a = [rwD (.w M.undo a (M.p i a + 1) 0 a 0 0 (M.bat i))] := by unfold URd Mach.undoRows; rw [e]; rfl
            rw [e1, z, ← List.append_assoc]
            rfl
        | some x =>
          rw [e] at hrow
          refine xs_if0 (et_tst (ev_op hrow ev_non rd_is) rfl) (xs_next ⟨ha, .d (.int a), x6, ?_⟩)
          have z : URd M i a = [] := by unfold URd Mach.undoRows; rw [e]; rfl
          rw [e1, z, List.append_nil]
          rfl
      · rintro δ1 ⟨_, x5, x6, rfl⟩
        refine ⟨hi, .d (.int i), x5, x6, ?_⟩
        rw [fl_succ, rgN_length]
    rintro δ1 ⟨_, x4, x5, x6, rfl⟩
    rw [rgN_length]
    have hl := two_len ok (URd_len M) (Nat.le_refl _) (Nat.zero_le _)
    have hl1 : (d1 M).length ≤ 40 := by unfold d1; rw [List.length_map, ns_length]; exact s40
    have hl2 : (d2 M).length ≤ 40 := by unfold d2; rw [List.length_map]; omega
    refine xs_seq (xs_ext rfl (el_to (el_lc1 (onI fun q => rwD (.m (M.bat q) 0 (-1) 0 (M.benter q))) (ei_rngN (ed_cons (ev_fld (ev_ob rfl) (tape_states T)) ed_nil) (by omega)) (by rw [rgN_length]; omega) ?_) (show _ = d1 M from rgN_onI _ _)) (by omega) ?_)
    · intro d hd
      obtain ⟨i, hi, rfl⟩ := rgN_mem hd
      refine ⟨_, _, eg_name, by simp, ?_⟩
      walk_at "row"
    refine xs_seq (xs_ext rfl (el_to (el_lc1 (onI fun a => rwD (.w (M.benter 0) a 0 0 a 0 0 M.end_)) (ei_list (ev_var rfl)) (by rw [List.length_map]; omega) ?_) (show _ = d2 M from map_onI _ _)) (by rw [List.length_append]; omega) ?_)
    · intro d hd
      obtain ⟨i, hi, rfl⟩ := List.mem_map.mp hd
      refine ⟨_, _, eg_name, by simp, ?_⟩
      walk_at "row"
    have hX : (fl (fun q => fl (URd M q) M.m) M.s ++ d1 M ++ d2 M).length ≤ 1000 := by rw [List.length_append, List.length_append]; omega
    rw [back_eq]
    generalize fl (fun q => fl (URd M q) M.m) M.s ++ d1 M ++ d2 M = X at hX
    refine xs_eq (δ' := D X x4 x5 x6 .no .no .no .no .no) rfl ?_
    have hT := trs_len ok
    refine xs_seq (xs_for (ds := (trsAll M).map (encT M)) (by rw [← pairs_enc]; exact ei_list (ev_call (ea_cons (ev_ob rfl) ea_nil) ⟨M, ok, rfl, rfl⟩)) (fun i δ => ∃ x4 x5 x6 x7 x8 x9 x10 x11, δ = D (X ++ (((trsAll M).take i).flatMap (brR M)).map rwD) x4 x5 x6 x7 x8 x9 x10 x11) ⟨x4, x5, x6, .no, .no, .no, .no, .no, by simp⟩ ?_ ?_)
    · rintro i d δ1 hd ⟨x4, x5, x6, x7, x8, x9, x10, x11, rfl⟩
      rw [List.getElem?_map] at hd
      cases e : (trsAll M)[i]? with
      | none => rw [e] at hd; cases hd
      | some x =>
        rw [e] at hd
        have hd := Option.some.inj hd
        subst hd
        have hY := br_len ok ((trsAll M).take i)
        have hY2 : ((trsAll M).take i).length ≤ 320 := by rw [List.length_take]; omega
        rw [take_flat_succ e, List.map_append, ← List.append_assoc]
        have hZ : (X ++ (((trsAll M).take i).flatMap (brR M)).map rwD).length ≤ 5000 := by rw [List.length_append, List.length_map]; omega
        generalize X ++ (((trsAll M).take i).flatMap (brR M)).map rwD = Z at hZ
        obtain ⟨q, a, b, dd, t⟩ := x
        refine ⟨_, _, eg_tup rfl (egs_cons eg_name (egs_cons eg_name (egs_cons eg_name (egs_cons (eg_tup rfl (egs_cons eg_name (egs_cons eg_name (egs_cons eg_name egs_nil)))) egs_nil)))), ?_⟩
        refine xs_seq (xs_for (ei_list (ev_var rfl)) (fun c δ => c ≤ M.mks.length ∧ ∃ x8, δ = D (Z ++ (M.mks.take c).map fun c => rwD (.w (M.benter t) c (M.p q a + 1) 0 c 0 0 (M.bnote (M.p q a)))) (.d (.int q)) x5 (.d (.int (M.p q a))) (.d (.int a)) x8 (.d (.int b)) (.d (.int dd)) (.d (.int t))) ⟨Nat.zero_le _, x8, by rw [List.take_zero, List.map_nil, List.append_nil]; rfl⟩ ?_ ?_)
        · rintro c d δ1 hd ⟨hc', x8, rfl⟩
          rw [List.getElem?_map] at hd
          cases ec : M.mks[c]? with
          | none => rw [ec] at hd; cases hd
          | some cc =>
            rw [ec] at hd
            have hd := Option.some.inj hd
            subst hd
            have hcl := (List.getElem?_eq_some_iff.mp ec).1
            refine ⟨_, _, eg_name, ?_⟩
            refine xs_app rfl (d := rwD (.w (M.benter t) cc (M.p q a + 1) 0 cc 0 0 (M.bnote (M.p q a)))) ?_ ?_ ⟨hcl, .d (.int cc), ?_⟩
            · walk_at "row"
            · rw [List.length_append, List.length_map, List.length_take]
              omega
            · rw [take_map_succ ec, ← List.append_assoc]
              rfl
        · rintro δ1 ⟨_, x8, rfl⟩
          rw [List.length_map, List.take_length]
          refine xs_seq (xs_app rfl (d := rwD (.m (M.bnote (M.p q a)) (-dd) 0 0 (M.bgo (M.p q a)))) ?_ (by rw [List.length_append, List.length_map]; omega) ?_)
          · walk_at "row"
          refine xs_app rfl (d := rwD (.w (M.bgo (M.p q a)) b 0 0 a 0 0 (M.bat q))) ?_ (by rw [List.length_append, List.length_append, List.length_map]; simp; omega) ⟨.d (.int q), x5, .d (.int (M.p q a)), .d (.int a), x8, .d (.int b), .d (.int dd), .d (.int t), ?_⟩
          · walk_at "row"
          · simp [brR]
            rfl
    · rintro δ1 ⟨x4, x5, x6, x7, x8, x9, x10, x11, rfl⟩
      rw [List.length_map, List.take_length]
      exact xs_frz (i := 3) rfl (xs_ret (ev_var rfl) rfl)
end
end BK
set_option maxRecDepth 100000
set_option maxHeartbeats 4000000
namespace BK
open PySem L2 DL CM
local macro_rules | `(tactic| walk_at "rd") => `(tactic| first
  | with_reducible exact rd_addI
  | with_reducible exact rd_sub
  | with_reducible exact rd_lt
  | with_reducible exact rd_le
  | with_reducible exact rd_gt
  | with_reducible exact rd_ge
  | with_reducible exact rd_eqI
  | with_reducible exact rd_neI
  | with_reducible exact rd_is
  | with_reducible exact rd_isNot
  | exact rd_mul (cmul_s (by omega) (by omega))
  | exact rd_mod (by first | decide | omega)
  | exact rd_fdv (by first | decide | omega)
  | exact rd_consI (by first | omega | (simp; omega) | simp)
  | exact rd_snocI (by first | omega | (simp; omega) | simp)
  | exact rd_catI (by first | omega | (simp; omega) | simp)
  | with_reducible exact rd_head0
  | with_reducible exact rd_ww
  | with_reducible exact rd_mm
  | with_reducible exact rd_wm
  | with_reducible exact rd_mw
  | with_reducible exact rd_nww
  | exact rd_ixT rfl
  | exact rd_ixL rfl
  | exact rd_addT (by first | decide | simp))
local macro_rules | `(tactic| walk_at "R") => `(tactic| first
  | exact ⟨_, _, _, rfl, rfl⟩
  | exact ⟨_, rfl, (by first | omega | (simp; omega) | simp), rfl⟩)
local macro_rules | `(tactic| walk_at "rc") => `(tactic| first
  | with_reducible exact rc_int
  | with_reducible exact rc_intB
  | with_reducible exact rc_lenT
  | with_reducible exact rc_lenL
  | with_reducible exact rc_abs
  | with_reducible exact rc_tupL
  | with_reducible exact rc_tupT)
local macro_rules | `(tactic| walk_at "ev") => `(tactic| first
  | with_reducible exact ev_int
  | with_reducible exact ev_non
  | with_reducible exact ev_bl
  | with_reducible exact ev_str
  | exact ev_var rfl
  | exact ev_ob rfl
  | ((with_reducible refine' ev_isi ?k1 ?k2); (case k1 => walk_at "ev"); (case k2 => first | exact kit_ii | exact kit_ib | exact kit_tt | exact kit_it))
  | ((with_reducible refine' ev_op ?k1 ?k2 ?k3); (case k1 => walk_at "ev"); (case k2 => walk_at "ev"); (case k3 => walk_at "rd"))
  | ((with_reducible refine' ev_un ?k1 ?k2); (case k1 => walk_at "ev"); (case k2 => exact ru_neg))
  | ((with_reducible refine' ev_cb ?k1 ?k2); (case k1 => walk_at "ed"); (case k2 => walk_at "rc"))
  | ((with_reducible refine' ev_tup ?k1 ?k2); (case k1 => walk_at "ed"); (case k2 => exact Nat.le_of_ble_eq_true rfl))
  | ((with_reducible refine' ev_andV ?k1 ?k2); (case k1 => walk_at "ev"); (case k2 => (intro _; walk_at "ev")))
  | ((with_reducible refine' ev_orV ?k1 ?k2); (case k1 => walk_at "ev"); (case k2 => (intro _; walk_at "ev")))
  | ((with_reducible refine' ev_notV ?k1); (case k1 => walk_at "ev"))
  | ((with_reducible refine' ev_chain ?k1 ?k2 ?k3 ?k4 ?k5); (case k1 => walk_at "ev"); (case k2 => walk_at "ev"); (case k3 => (intro _; walk_at "ev")); (case k4 => walk_at "rd"); (case k5 => walk_at "rd"))
  | ((with_reducible refine' ev_fld ?k1 ?k2); (case k1 => walk_at "ev"); (case k2 => walk_at "F"))
  | ((with_reducible refine' ev_meth ?k1 ?k2 ?k3 ?k4); (case k1 => walk_at "ev"); (case k2 => walk_at "I"); (case k3 => walk_at "ea"); (case k4 => walk_at "R"))
  | ((with_reducible refine' ev_call ?k1 ?k2); (case k1 => walk_at "ea"); (case k2 => walk_at "R"))
  | ((with_reducible refine' ev_sl1 ?k1); (case k1 => walk_at "ev"))
  | ((with_reducible refine' ev_sl ?k1 ?k2 ?k3); (case k1 => walk_at "ev"); (case k2 => walk_at "eo"); (case k3 => walk_at "eo"))
  | ((with_reducible refine' ev_ofL (el_sl ?k1 ?k2 ?k3)); (case k1 => walk_at "ev"); (case k2 => walk_at "eo"); (case k3 => walk_at "eo")))
local macro_rules | `(tactic| walk_at "eo") => `(tactic| first
  | with_reducible exact eo_none
  | ((with_reducible refine' eo_some ?k1); (case k1 => walk_at "ev")))
local macro_rules | `(tactic| walk_at "ed") => `(tactic| first
  | with_reducible exact ed_nil
  | ((with_reducible refine' ed_cons ?k1 ?k2); (case k1 => walk_at "ev"); (case k2 => walk_at "ed")))
local macro_rules | `(tactic| walk_at "ea") => `(tactic| first
  | with_reducible exact ea_nil
  | ((with_reducible refine' ea_cons ?k1 ?k2); (case k1 => walk_at "ev"); (case k2 => walk_at "ea")))
local macro_rules | `(tactic| walk_at "et") => `(tactic| first
  | ((with_reducible refine' et_test ?k1); (case k1 => walk_at "ev"))
  | ((with_reducible refine' et_B ?k1); (case k1 => walk_at "ev"))
  | ((with_reducible refine' et_not ?k1); (case k1 => walk_at "et"))
  | ((with_reducible refine' et_and ?k1 ?k2); (case k1 => walk_at "et"); (case k2 => (intro _; walk_at "et")))
  | ((with_reducible refine' et_or ?k1 ?k2); (case k1 => walk_at "et"); (case k2 => (intro _; walk_at "et"))))
local macro_rules | `(tactic| walk_at "give") => `(tactic| ((with_reducible refine' xs_give ?k1 ?_); (case k1 => walk_at "ev")))
local macro_rules | `(tactic| walk_at "ret") => `(tactic| ((with_reducible refine' xs_ret ?k1 ?_); (case k1 => walk_at "ev")))
local macro_rules | `(tactic| walk_at "tst") => `(tactic| ((with_reducible refine' et_tst ?k1 ?_); (case k1 => walk_at "ev")))
local macro_rules | `(tactic| walk_at "etto") => `(tactic| ((with_reducible refine' et_to ?k1 ?_); (case k1 => walk_at "et")))
local macro_rules | `(tactic| walk_at "evto") => `(tactic| ((with_reducible refine' ev_dto ?k1 ?_); (case k1 => walk_at "ev")))

section
variable {P : Program} {w : World} {K : PySem.W.Frag} {mg : Str → Option Value} {base : Heap}
/-! WI: no two rows clash. -/
def natD (l : List Nat) : List PyData := l.map fun (i : Nat) => PyData.int i
def R_clash_among (as : List Sl) (r : Sl) : Prop := ∃ (rs : List Rw) (l : List Nat), as = [.d (.list (rs.map rwD)), .d (.list (natD l))] ∧ l.length ≤ 30000 ∧
  (l.length < 2 ∨ ((∀ i ∈ l, ∃ r, rs[i]? = some r ∧ r.isW = true) ∧ l.Pairwise fun i j => ∀ r r', rs[i]? = some r → rs[j]? = some r' → r.rd ≠ r'.rd)) ∧ r = .d .none
theorem R_clash_among_len (as : List Sl) (r : Sl) (h : R_clash_among as r) : as.length = 2 := by obtain ⟨_, _, rfl, _⟩ := h; rfl
theorem ok_clash_among (T : Txt K mg) : FnOk P w K mg base CX0 1 T.clash_among.f T.clash_among.fd P_clash_among (spR R_clash_among) := by
  refine T.clash_among.F.ok sc_clash_among (fun vs H Q E h => ?_) (fun cdv A outer s H vs Q E hr h => ?_)
  · exact spR_len (R_clash_among_len) h
  · refine ⟨_, (pss_cons (ps_if (pt_cmpR (op_lt') (pe_callB (k_len (K := K) rfl) (by rfl) T.b_len (by decide +kernel) (pa_cons (pv 1) pa_nil)) pe_int (nomark _)) (pss_one (ps_ret pe_non)) pss_nil)
    (pss_cons (ps_if (pt_val (pe_callB (k_any (K := K) rfl rfl) (by rfl) T.b_any (by decide +kernel) (pa_cons (pe_lc (own := [("at", 4)]) rfl sc_clash_among.nd (k_piL (K := K) rfl (pv 1)) (blkOk_by (own := [("at", 4)]) (N := N_clash_among) (sc := defScope s_clash_among) (by decide +kernel)) (fun _ _ _ _ _ => (pg_name (i := 4) sc_clash_among.nd rfl (Or.inl rfl))) (fun _ _ _ _ _ => pts_nil) (fun _ _ _ _ _ => (pe_cmpR (k_eq (K := K) rfl hr.units) (pe_ix (k_ix (K := K) rfl) (pe_ix (k_ix (K := K) rfl) (pv 0) (pv 4) (fun _ _ => rfl)) pe_int (fun _ _ => rfl)) pe_str (nomark _)))) pa_nil))) (pss_cons (ps_set (i := 5) sc_clash_among.nd rfl (Or.inl rfl) (pe_ix (k_ix (K := K) rfl) (pv 0) (pe_ix (k_ix (K := K) rfl) (pv 1) pe_int (fun _ _ => rfl)) (fun _ _ => rfl)))
      (pss_one (ps_for PassesOwn.never rfl (k_piL (K := K) rfl (pe_slice (k_sl (K := K) rfl) (pv 1) (po_some pe_int) po_none)) (pg_name (i := 6) sc_clash_among.nd rfl (Or.inl rfl)) (pss_one (ps_if (PW.pt (pw_or (pt_cmpR (k_eq (K := K) rfl hr.units) (pe_ix (k_ix (K := K) rfl) (pv 5) pe_int (fun _ _ => rfl)) pe_str (nomark _)) (pw_or (pt_cmpR (k_eq (K := K) rfl hr.units) (pe_ix (k_ix (K := K) rfl) (pe_ix (k_ix (K := K) rfl) (pv 0) (pv 6) (fun _ _ => rfl)) pe_int (fun _ _ => rfl)) pe_str (nomark _)) (pw_or1 (pt_cmpR (k_eq (K := K) rfl hr.units) (pe_ix (k_ix (K := K) rfl) (pe_ix (k_ix (K := K) rfl) (pv 0) (pv 6) (fun _ _ => rfl)) pe_int (fun _ _ => rfl)) (pe_ix (k_ix (K := K) rfl) (pv 5) pe_int (fun _ _ => rfl)) (nomark _)))))) (pss_one (ps_ret (pe_tup (pa_cons (pe_ix (k_ix (K := K) rfl) (pv 1) pe_int (fun _ _ => rfl)) (pa_cons (pv 6) pa_nil))))) pss_nil))))) pss_nil)
    (pss_cons (ps_set (i := 2) sc_clash_among.nd rfl (Or.inl rfl) pe_non)
    (pss_cons (ps_set (i := 3) sc_clash_among.nd rfl (Or.inl rfl) pe_dnewT)
    (pss_cons (ps_for PassesOwn.never rfl (k_piL (K := K) rfl (pv 1)) (pg_name (i := 4) sc_clash_among.nd rfl (Or.inl rfl)) (pss_cons (ps_set (i := 7) sc_clash_among.nd rfl (Or.inl rfl) (pe_ix (k_ix (K := K) rfl) (pe_ix (k_ix (K := K) rfl) (pv 0) (pv 4) (fun _ _ => rfl)) pe_int (fun _ _ => rfl)))
      (pss_one (ps_if (pt_cmp (pc_dnotin (hu_of hr) (pv 7) (pv 3))) (pss_one (ps_dput (hu_of hr) (pv 3) (pv 7) (pv 4) rfl)) (pss_one (ps_if (PW.pt (pw_or (pt_cmpR (op_isG) (pv 2) pe_non (nomark _)) (pw_or1 (pt_cmpR (op_lt') (pe_dget (hu_of hr) (pv 3) (pv 7) (fun _ _ => rfl)) (pe_ix (k_ix (K := K) rfl) (pv 2) pe_int (fun _ _ => rfl)) (nomark _))))) (pss_one (ps_set (i := 2) sc_clash_among.nd rfl (Or.inl rfl) (pe_tup (pa_cons (pe_dget (hu_of hr) (pv 3) (pv 7) (fun _ _ => rfl)) (pa_cons (pv 4) pa_nil))))) pss_nil))))))
    (pss_one (ps_ret (pv 2)))))))), ?_⟩
    refine spR_run h (fun as r hR => ?_)
    obtain ⟨rs, l, rfl, hl, hh, rfl⟩ := hR
    by_cases q : l.length < 2
    · refine xs_seq (xs_if1 (et_tst (ev_op (ev_cb (ed_cons (ev_var rfl) ed_nil) rc_lenL) ev_int rd_lt) ?_) (xs_ret ev_non rfl))
      have q' : (l.length : Int) < 2 := by omega
      simp [natD]
      exact q'
    · obtain ⟨hw, hp⟩ : _ ∧ _ := hh.resolve_left q
      refine xs_skip (et_tst (ev_op (ev_cb (ed_cons (ev_var rfl) ed_nil) rc_lenL) ev_int rd_lt) ?_) ?_
      · simp [natD]
        omega
      have e : (natD l).map (fun _ => PyData.bool false) = (l.map fun _ => false).map PyData.bool := by simp [natD]
      refine xs_skip (et_tsB (ev_cb (ed_cons (ev_ofL (el_to (el_lc1 (fun _ => .bool false) (ei_list (ev_var rfl)) ?_ ?_) e)) ed_nil) rc_any) ?_) ?_
      · simp [natD]
        omega
      · intro d hd
        obtain ⟨i, hi, rfl⟩ := List.mem_map.mp hd
        obtain ⟨r, hr1, hr2⟩ := hw i hi
        cases r with
        | m _ _ _ _ _ => cases hr2
        | w st a0 a1 a2 b0 b1 b2 nx =>
          exact ⟨_, _, eg_name, by simp, ev_op (ev_op (ev_op (ev_var rfl) (ev_var rfl) (rd_ixL (d := rwD (.w st a0 a1 a2 b0 b1 b2 nx)) (atI_ofNat rfl (by rw [List.getElem?_map, hr1]; rfl)))) ev_int (rd_ixT rfl)) ev_str rd_wm⟩
      · simp
      · refine xs_give ev_non ?_
        intro B0 H0 B H σ e D k p hpn
        have e1 := (e.grow (Grow.new0 (o := .dT []) e.gr.sub hpn)).drop 3 (some (.ref p))
        have hσ : σ.length = 8 := e.len
        have p0 : H0 p = none := ex_none e.gr.h hpn
        have pB : B p = none := ex_none e.gr.sub hpn
        let δI : List Sl := [.d (.list (rs.map rwD)), .d (.list (natD l)), .d .none, .no, .no, .no, .no, .no]
        refine for_raw (δ := δI) (ds := natD l) e1 (ei_list (ev_var rfl)) (fun i σ' B' H' => EnvOk B0 H0 B' H' σ' δI ∧ σ'[3]? = some (some (.ref p)) ∧ B' p = none ∧
          ∃ kts, H' p = some (.dT kts) ∧ kts.length ≤ i ∧ ∀ key v, valV kts key = some v → ∃ j r, j ∈ l.take i ∧ rs[j]? = some r ∧ key = keyI r.rd) (fun i σ B H h => h.1.gr.sub) ?_ ?_ ?_
        · intro B1 H1 g
          refine ⟨e1.grow g, List.getElem?_set_self (by omega), g.out p (by rw [upd_same]; intro z; cases z) pB, [], g.h _ _ upd_same, Nat.zero_le _, fun key v h => (nomatch h)⟩
        · intro i d σ1 B1 H1 x B2 H2 hd ⟨e1, s3, pB1, kts, hk, hkl, hkv⟩ g hx
          obtain ⟨at_, hat, rfl⟩ : ∃ a, l[i]? = some a ∧ d = .int a := by
            unfold natD at hd
            rw [List.getElem?_map] at hd
            cases q : l[i]? with
            | none => rw [q] at hd; cases hd
            | some a => rw [q] at hd; exact ⟨a, rfl, (Option.some.inj hd).symm⟩
          have hmem := List.mem_of_getElem? hat
          obtain ⟨r, hr1, hr2⟩ := hw at_ hmem
          have e2 := (e1.grow g).set 4 (v := x) (r := .d (.int at_)) hx
          have hl1 : σ1.length = 8 := e1.len
          have hrd : EvX (tOp (rIx K) (tOp (rIx K) (tVar 0) (tVar 4)) (tC (V.int 2))) (δI.set 4 (.d (.int at_))) (.d (ti r.rd)) := by
            refine ev_op (ev_op (ev_var rfl) (ev_var rfl) (rd_ixL (d := rwD r) (atI_ofNat rfl (by rw [List.getElem?_map, hr1]; rfl)))) ev_int (?_ : RD (rIx K) (rwD r) (.int 2) _)
            cases r with
            | m _ _ _ _ _ => cases hr2
            | w st a0 a1 a2 b0 b1 b2 nx => exact rd_ixT rfl
          refine hrd _ _ _ _ _ e2 _ fun v B3 H3 g3 hv => ?_
          cases hv with
          | tup hb hxs =>
            rename_i b xs
            have hxs' := dds_ints_inv hxs
            subst hxs'
            have hbH : H3 b = some (.tup ((keyI r.rd).map kV)) := by rw [keyI_kV]; exact g3.sub _ _ hb
            have hk3 : H3 p = some (.dT kts) := g3.h _ _ (g.h _ _ hk)
            have hnone : valV kts (keyI r.rd) = none := by
              cases q : valV kts (keyI r.rd) with
              | none => rfl
              | some v =>
                exfalso
                obtain ⟨j, r', hj, hr', he⟩ := hkv _ v q
                obtain ⟨n, hn2⟩ := List.mem_iff_getElem?.mp hj
                have hn : n < i := by
                  have := (List.getElem?_eq_some_iff.mp hn2).1
                  rw [List.length_take] at this
                  omega
                rw [List.getElem?_take_of_lt hn] at hn2
                have hlt := (List.getElem?_eq_some_iff.mp hat).1
                obtain ⟨h1, rfl⟩ := List.getElem?_eq_some_iff.mp hn2
                obtain ⟨h2, rfl⟩ := List.getElem?_eq_some_iff.mp hat
                exact List.pairwise_iff_getElem.mp hp n i h1 h2 hn r' r hr' hr1 (keyI_inj he).symm
            refine ⟨.ref b, List.getElem?_set_self (by rw [List.length_set]; omega), .ref p, by rw [sget (by decide), sget (by decide)]; exact s3, p, valV kts (keyI r.rd), rfl, DGet.t hk3 hbH, _, rfl, ?_⟩
            rw [hnone]
            refine iteT ⟨x, by rw [sget (by decide)]; exact List.getElem?_set_self (by omega), .ref p, by rw [sget (by decide), sget (by decide)]; exact s3, .ref b, List.getElem?_set_self (by rw [List.length_set]; omega), p, _, rfl, DPut.t hk3 hbH (Evl.sz_lt (by have := (List.getElem?_eq_some_iff.mp hat).1; omega)), ?_⟩
            have e3 := ((e2.grow g3).set 7 (v := .ref b) (r := .d (ti r.rd)) (.tup hb hxs)).mut (o' := .dT (putK kts (keyI r.rd) x)) hk3 (fun xs q => nomatch q) p0 (g3.out p (by rw [g.h _ _ hk]; intro z; cases z) (g.out p (by rw [hk]; intro z; cases z) pB1))
            refine ⟨B3, g.b.trans g3.b, e3.weak rfl ?_, by rw [sget (by decide), sget (by decide)]; exact s3, g3.out p (by rw [g.h _ _ hk]; intro z; cases z) (g.out p (by rw [hk]; intro z; cases z) pB1), _, upd_same, by have := length_putK kts (keyI r.rd) x; omega, ?_⟩
            · intro n s hs
              match n, hs with
              | 0, hs => exact .inr hs
              | 1, hs => exact .inr hs
              | 2, hs => exact .inr hs
              | 3, hs => exact .inl (Option.some.inj hs).symm
              | 4, hs => exact .inl (Option.some.inj hs).symm
              | 5, hs => exact .inl (Option.some.inj hs).symm
              | 6, hs => exact .inl (Option.some.inj hs).symm
              | 7, hs => exact .inl (Option.some.inj hs).symm
            · intro key v hv
              rw [valV_put] at hv
              by_cases q : key = keyI r.rd
              · exact ⟨at_, r, by rw [take_succ_of hat]; exact List.mem_append.mpr (.inr (List.mem_singleton.mpr rfl)), hr1, q⟩
              · rw [if_neg q] at hv
                obtain ⟨j, r', h1, h2, h3⟩ := hkv key v hv
                exact ⟨j, r', by rw [take_succ_of hat]; exact List.mem_append.mpr (.inl h1), h2, h3⟩
        · intro σ1 B1 H1 b1 ⟨e1, _⟩
          obtain ⟨v, h1, h2⟩ := e1.at_ 2 _ rfl
          exact ⟨v, h1, k.rt v B1 H1 (.d .none) e1.gr (b1) h2 rfl⟩
end
end BK
set_option maxRecDepth 100000
set_option maxHeartbeats 4000000
namespace BK
open PySem L2 DL CM
local macro_rules | `(tactic| walk_at "rd") => `(tactic| first
  | with_reducible exact rd_addI
  | with_reducible exact rd_sub
  | with_reducible exact rd_lt
  | with_reducible exact rd_le
  | with_reducible exact rd_gt
  | with_reducible exact rd_ge
  | with_reducible exact rd_eqI
  | with_reducible exact rd_neI
  | with_reducible exact rd_is
  | with_reducible exact rd_isNot
  | exact rd_mul (cmul_s (by omega) (by omega))
  | exact rd_mod (by first | decide | omega)
  | exact rd_fdv (by first | decide | omega)
  | exact rd_consI (by first | omega | (simp; omega) | simp)
  | exact rd_snocI (by first | omega | (simp; omega) | simp)
  | exact rd_catI (by first | omega | (simp; omega) | simp)
  | with_reducible exact rd_head0
  | with_reducible exact rd_ww
  | with_reducible exact rd_mm
  | with_reducible exact rd_wm
  | with_reducible exact rd_mw
  | with_reducible exact rd_nww
  | exact rd_ixT rfl
  | exact rd_ixL rfl
  | exact rd_addT (by first | decide | simp))
local macro_rules | `(tactic| walk_at "R") => `(tactic| first
  | exact ⟨_, _, _, rfl, rfl⟩
  | exact ⟨_, rfl, (by first | omega | (simp; omega) | simp), rfl⟩)
local macro_rules | `(tactic| walk_at "rc") => `(tactic| first
  | with_reducible exact rc_int
  | with_reducible exact rc_intB
  | with_reducible exact rc_lenT
  | with_reducible exact rc_lenL
  | with_reducible exact rc_abs
  | with_reducible exact rc_tupL
  | with_reducible exact rc_tupT)
local macro_rules | `(tactic| walk_at "ev") => `(tactic| first
  | with_reducible exact ev_int
  | with_reducible exact ev_non
  | with_reducible exact ev_bl
  | with_reducible exact ev_str
  | exact ev_var rfl
  | exact ev_ob rfl
  | ((with_reducible refine' ev_isi ?k1 ?k2); (case k1 => walk_at "ev"); (case k2 => first | exact kit_ii | exact kit_ib | exact kit_tt | exact kit_it))
  | ((with_reducible refine' ev_op ?k1 ?k2 ?k3); (case k1 => walk_at "ev"); (case k2 => walk_at "ev"); (case k3 => walk_at "rd"))
  | ((with_reducible refine' ev_un ?k1 ?k2); (case k1 => walk_at "ev"); (case k2 => exact ru_neg))
  | ((with_reducible refine' ev_cb ?k1 ?k2); (case k1 => walk_at "ed"); (case k2 => walk_at "rc"))
  | ((with_reducible refine' ev_tup ?k1 ?k2); (case k1 => walk_at "ed"); (case k2 => exact Nat.le_of_ble_eq_true rfl))
  | ((with_reducible refine' ev_andV ?k1 ?k2); (case k1 => walk_at "ev"); (case k2 => (intro _; walk_at "ev")))
  | ((with_reducible refine' ev_orV ?k1 ?k2); (case k1 => walk_at "ev"); (case k2 => (intro _; walk_at "ev")))
  | ((with_reducible refine' ev_notV ?k1); (case k1 => walk_at "ev"))
  | ((with_reducible refine' ev_chain ?k1 ?k2 ?k3 ?k4 ?k5); (case k1 => walk_at "ev"); (case k2 => walk_at "ev"); (case k3 => (intro _; walk_at "ev")); (case k4 => walk_at "rd"); (case k5 => walk_at "rd"))
  | ((with_reducible refine' ev_fld ?k1 ?k2); (case k1 => walk_at "ev"); (case k2 => walk_at "F"))
  | ((with_reducible refine' ev_meth ?k1 ?k2 ?k3 ?k4); (case k1 => walk_at "ev"); (case k2 => walk_at "I"); (case k3 => walk_at "ea"); (case k4 => walk_at "R"))
  | ((with_reducible refine' ev_call ?k1 ?k2); (case k1 => walk_at "ea"); (case k2 => walk_at "R"))
  | ((with_reducible refine' ev_sl1 ?k1); (case k1 => walk_at "ev"))
  | ((with_reducible refine' ev_sl ?k1 ?k2 ?k3); (case k1 => walk_at "ev"); (case k2 => walk_at "eo"); (case k3 => walk_at "eo"))
  | ((with_reducible refine' ev_ofL (el_sl ?k1 ?k2 ?k3)); (case k1 => walk_at "ev"); (case k2 => walk_at "eo"); (case k3 => walk_at "eo")))
local macro_rules | `(tactic| walk_at "eo") => `(tactic| first
  | with_reducible exact eo_none
  | ((with_reducible refine' eo_some ?k1); (case k1 => walk_at "ev")))
local macro_rules | `(tactic| walk_at "ed") => `(tactic| first
  | with_reducible exact ed_nil
  | ((with_reducible refine' ed_cons ?k1 ?k2); (case k1 => walk_at "ev"); (case k2 => walk_at "ed")))
local macro_rules | `(tactic| walk_at "ea") => `(tactic| first
  | with_reducible exact ea_nil
  | ((with_reducible refine' ea_cons ?k1 ?k2); (case k1 => walk_at "ev"); (case k2 => walk_at "ea")))
local macro_rules | `(tactic| walk_at "et") => `(tactic| first
  | ((with_reducible refine' et_test ?k1); (case k1 => walk_at "ev"))
  | ((with_reducible refine' et_B ?k1); (case k1 => walk_at "ev"))
  | ((with_reducible refine' et_not ?k1); (case k1 => walk_at "et"))
  | ((with_reducible refine' et_and ?k1 ?k2); (case k1 => walk_at "et"); (case k2 => (intro _; walk_at "et")))
  | ((with_reducible refine' et_or ?k1 ?k2); (case k1 => walk_at "et"); (case k2 => (intro _; walk_at "et"))))
local macro_rules | `(tactic| walk_at "give") => `(tactic| ((with_reducible refine' xs_give ?k1 ?_); (case k1 => walk_at "ev")))
local macro_rules | `(tactic| walk_at "ret") => `(tactic| ((with_reducible refine' xs_ret ?k1 ?_); (case k1 => walk_at "ev")))
local macro_rules | `(tactic| walk_at "tst") => `(tactic| ((with_reducible refine' et_tst ?k1 ?_); (case k1 => walk_at "ev")))
local macro_rules | `(tactic| walk_at "etto") => `(tactic| ((with_reducible refine' et_to ?k1 ?_); (case k1 => walk_at "et")))
local macro_rules | `(tactic| walk_at "evto") => `(tactic| ((with_reducible refine' ev_dto ?k1 ?_); (case k1 => walk_at "ev")))

section
variable {P : Program} {w : World} {K : PySem.W.Frag} {mg : Str → Option Value} {base : Heap}
/-! WJ: first_clash. -/
def natV (l : List Nat) : List V := l.map fun (i : Nat) => V.int i
theorem dds_nat {H : Hp} (l : List Nat) : DDs H (natV l) (natD l) := by
  have e1 : natV l = (l.map fun (i : Nat) => (i : Int)).map V.int := by simp [natV]
  have e2 : natD l = (l.map fun (i : Nat) => (i : Int)).map PyData.int := by simp [natD]
  rw [e1, e2]
  exact dds_ints _
/-- the dict of the indexes so far -/
structure Lists (H0 : Hp) (rs : List Rw) (i : Nat) (kvs : List (Key × V)) (B H : Hp) : Prop where
  keys : ∀ k v, (k, v) ∈ kvs → ∃ st, k = Sum.inl st
  no : ∀ st, ix rs i st = [] → valV kvs (Sum.inl st) = none
  yes : ∀ st, ix rs i st ≠ [] → ∃ l, valV kvs (Sum.inl st) = some (.ref l) ∧ H0 l = none ∧ B l = none ∧ H l = some (.lst (natV (ix rs i st)))
  inj : ∀ st st' l, st ≠ st' → valV kvs (Sum.inl st) = some (.ref l) → valV kvs (Sum.inl st') ≠ some (.ref l)
theorem Lists.step {H0 : Hp} {rs : List Rw} {i : Nat} {kvs kvs' : List (Key × V)} {B H B' H' : Hp} {r : Rw} {l : Addr} (L : Lists H0 rs i kvs B H) (hr : rs[i]? = some r)
    (hk : ∀ k v, (k, v) ∈ kvs' → k = Sum.inl r.st ∨ ∃ u, (k, u) ∈ kvs) (hv : ∀ st, st ≠ r.st → valV kvs' (Sum.inl st) = valV kvs (Sum.inl st)) (hl : valV kvs' (Sum.inl r.st) = some (.ref l))
    (h0 : H0 l = none) (hB : B' l = none) (hH : H' l = some (.lst (natV (ix rs i r.st ++ [i])))) (hn : ∀ st, st ≠ r.st → valV kvs (Sum.inl st) ≠ some (.ref l))
    (hb : ∀ m xs, H m = some (.lst xs) → B m = none → B' m = none) (hh : ∀ m xs, m ≠ l → H m = some (.lst xs) → H' m = some (.lst xs)) : Lists H0 rs (i + 1) kvs' B' H' := by
  refine ⟨fun k v h => ?_, fun st h => ?_, fun st h => ?_, fun st st' m hne h1 h2 => ?_⟩
  · rcases hk k v h with h | ⟨u, h⟩
    · exact ⟨_, h⟩
    · exact L.keys k u h
  · by_cases q : st = r.st
    · rw [q, ix_yes hr] at h
      simp at h
    · rw [ix_no hr q] at h
      rw [hv st q]
      exact L.no st h
  · by_cases q : st = r.st
    · subst q
      refine ⟨l, hl, h0, hB, ?_⟩
      rw [ix_yes hr]
      exact hH
    · rw [ix_no hr q] at h ⊢
      obtain ⟨m, a1, a2, a3, a4⟩ := L.yes st h
      refine ⟨m, by rw [hv st q]; exact a1, a2, hb m _ a4 a3, hh m _ (fun z => hn st q (by rw [← z]; exact a1)) a4⟩
  · by_cases q : st = r.st
    · subst q
      rw [hl] at h1
      cases h1
      rw [hv st' (fun z => hne z.symm)] at h2
      exact hn st' (fun z => hne z.symm) h2
    · rw [hv st q] at h1
      by_cases q' : st' = r.st
      · subst q'
        rw [hl] at h2
        cases h2
        exact hn st q h1
      · rw [hv st' q'] at h2
        exact L.inj st st' m hne h1 h2
/-- the data with all new lists -/
def addL (H0 B H : Hp) : Hp := fun a => match B a with
  | some o => some o
  | none => match H0 a with
    | some _ => none
    | none => match H a with
      | some (.lst xs) => some (.lst xs)
      | _ => none
theorem addL_ex {H0 B H : Hp} : Ex B (addL H0 B H) := fun a o h => by unfold addL; rw [h]
theorem addL_sub {H0 B H : Hp} (e : Ex B H) : Ex (addL H0 B H) H := fun a o h => by
  unfold addL at h
  cases q : B a with
  | some u => rw [q] at h; simp at h; rw [← h]; exact e a u q
  | none =>
    rw [q] at h
    cases q0 : H0 a with
    | some u => rw [q0] at h; simp at h
    | none =>
      rw [q0] at h
      cases q1 : H a with
      | none => rw [q1] at h; simp at h
      | some u =>
        rw [q1] at h
        cases u <;> simp at h
        rw [← h]
theorem addL_at {H0 B H : Hp} {a : Addr} {xs : List V} (h0 : H0 a = none) (hB : B a = none) (hH : H a = some (.lst xs)) : addL H0 B H a = some (.lst xs) := by
  unfold addL
  rw [hB, h0, hH]
theorem addL_no {H0 B H : Hp} {a : Addr} (hB : B a = none) (h : H0 a ≠ none ∨ ∃ o, H a = some o ∧ ∀ xs, o ≠ .lst xs) : addL H0 B H a = none := by
  unfold addL
  rw [hB]
  cases q0 : H0 a with
  | some u => rfl
  | none =>
    rcases h with h | ⟨o, h1, h2⟩
    · exact absurd q0 h
    · rw [h1]
      cases o with
      | lst xs => exact absurd rfl (h2 xs)
      | _ => rfl
/-- the keys of a locked dict, walked -/
def KeysAt (d : Addr) (od : Obj) (kvs : List (Key × V)) (rs : List Rw) (B : Hp) (v : V) : Prop :=
  v = .ref d ∧ B d = some (.frz od (.dK kvs)) ∧ ∀ st l, valV kvs (Sum.inl st) = some (.ref l) → B l = some (.lst (natV (ix rs rs.length st)))
theorem KeysAt.mono {d : Addr} {od : Obj} {kvs : List (Key × V)} {rs : List Rw} : Mono (KeysAt d od kvs rs) := fun B B' v e h => ⟨h.1, e _ _ h.2.1, fun st l q => e _ _ (h.2.2 st l q)⟩
def keyD : Key → PyData
  | .inl st => .int st
  | .inr x => .str x
theorem ei_keys {δ : List Sl} {i : Nat} {d : Addr} {od : Obj} {kvs : List (Key × V)} {rs : List Rw} (h : δ[i]? = some (.ob (KeysAt d od kvs rs))) : EvI (iKeys (tVar i)) δ (kvs.map fun p => keyD p.1) := fun B0 H0 B H σ e R k => by
  obtain ⟨v, q1, _, q2⟩ := e.at_ i _ h
  refine ⟨v, q1, d, od, q2.1, .inl ⟨kvs, e.gr.sub _ _ q2.2.1, k _ B H (Grow.refl e.gr.sub) fun B' H' e1 e2 => ?_⟩⟩
  have hd : H' d = some (.frz od (.dK kvs)) := e2 _ _ (e1 _ _ q2.2.1)
  refine ⟨fun i hi => ⟨hd, by simpa using hi⟩, ⟨hd, by simp⟩, fun i x v H2 hx hy => ?_⟩
  obtain ⟨rfl, kk, vv, h1, rfl⟩ := hy
  rw [List.getElem?_map, h1] at hx
  have hx := Option.some.inj hx
  subst hx
  refine ⟨B', Grow.refl e2, ?_⟩
  cases kk with
  | inl st => exact .int st
  | inr y => exact .str y
def R_first_clash (as : List Sl) (r : Sl) : Prop := ∃ (rs : List Rw), as = [.d (.list (rs.map rwD))] ∧ rs.length ≤ 20000 ∧ rs.Pairwise Rw.ok ∧ r = .d .none
theorem R_first_clash_len (as : List Sl) (r : Sl) (h : R_first_clash as r) : as.length = 1 := by obtain ⟨_, rfl, _⟩ := h; rfl
theorem row_st (r : Rw) : ∃ ds, rwD r = .tuple ds ∧ atI ds 1 = some (.int r.st) := by
  cases r <;> exact ⟨_, rfl, rfl⟩
theorem ok_first_clash (T : Txt K mg) : FnOk P w K mg base CX0 2 T.first_clash.f T.first_clash.fd P_first_clash (spR R_first_clash) := by
  refine T.first_clash.F.ok sc_first_clash (fun vs H Q E h => ?_) (fun cdv A outer s H vs Q E hr h => ?_)
  · exact spR_len (R_first_clash_len) h
  · refine ⟨_, (pss_cons (ps_set (i := 1) sc_first_clash.nd rfl (Or.inl rfl) pe_dnewK)
    (pss_cons (ps_for PassesOwn.never rfl (k_piE (K := K) rfl rfl T.b_enumerate (pa_cons (pv 0) pa_nil)) (k_pgT (K := K) rfl rfl (pgs_cons (pg_name (i := 4) sc_first_clash.nd rfl (Or.inl rfl)) (pgs_cons (pg_name (i := 5) sc_first_clash.nd rfl (Or.inl rfl)) pgs_nil))) (pss_one (ps_expr (k_app (K := K) rfl (pe_dsetd (pv 1) (pe_ix (k_ix (K := K) rfl) (pv 5) pe_int (fun _ _ => rfl)) (pe_lst pa_nil) ⟨rfl, rfl, rfl, rfl⟩) (pa_cons (pv 4) pa_nil)))))
    (pss_cons (ps_set (i := 2) sc_first_clash.nd rfl (Or.inl rfl) pe_non)
    (pss_cons (ps_lock (ps_for PassesOwn.never rfl (pi_keys (pv 1)) (pg_name (i := 3) sc_first_clash.nd rfl (Or.inl rfl)) (pss_cons (ps_set (i := 6) sc_first_clash.nd rfl (Or.inl rfl) (pe_call (ok_clash_among T) (hr.mono (by decide)) (by rfl) T.clash_among.g T.clash_among.F.kp T.clash_among.b .nil pass0 (pa_cons (pv 0) (pa_cons (pe_dget (hu_of hr) (pv 1) (pv 3) (fun _ _ => rfl)) pa_nil))))
      (pss_one (ps_if (PW.pt (pw_and (pt_cmpR (op_isNotG) (pv 6) pe_non (nomark _)) (pw_and1 (PW.pt (pw_or (pt_cmpR (op_isG) (pv 2) pe_non (nomark _)) (pw_or1 (pt_cmpR (op_lt') (pv 6) (pv 2) (nomark _)))))))) (pss_one (ps_set (i := 2) sc_first_clash.nd rfl (Or.inl rfl) (pv 6))) pss_nil)))))
    (pss_one (ps_ret (pv 2))))))), ?_⟩
    refine spR_run h (fun as r hR => ?_)
    obtain ⟨rs, rfl, hl, hp, rfl⟩ := hR
    intro B0 H0 B H σ e D k d hdn
    have e1 := (e.grow (Grow.new0 (o := .dK []) e.gr.sub hdn)).drop 1 (some (.ref d))
    have hσ : σ.length = 7 := e.len
    have d0 : H0 d = none := ex_none e.gr.h hdn
    have dB : B d = none := ex_none e.gr.sub hdn
    let δI : List Sl := [.d (.list (rs.map rwD)), .no, .no, .no, .no, .no, .no]
    have wk : ∀ {B H : Hp} {σ : Ss} {a4 a5 : Sl}, EnvOk B0 H0 B H σ [.d (.list (rs.map rwD)), .no, .no, .no, a4, a5, .no] → EnvOk B0 H0 B H σ δI := fun {B H σ a4 a5} e => e.weak rfl (fun n s hs => by
      match n, hs with
      | 0, hs => exact .inr hs
      | 1, hs => exact .inr hs
      | 2, hs => exact .inr hs
      | 3, hs => exact .inr hs
      | 4, hs => exact .inl (Option.some.inj hs).symm
      | 5, hs => exact .inl (Option.some.inj hs).symm
      | 6, hs => exact .inr hs)
    refine for_raw (δ := δI) (ds := enD (rs.map rwD)) e1 (ei_enum (ed_cons (ev_var rfl) ed_nil)) (fun i σ' B' H' => EnvOk B0 H0 B' H' σ' δI ∧ σ'[1]? = some (some (.ref d)) ∧ B' d = none ∧
      ∃ kvs, H' d = some (.dK kvs) ∧ kvs.length ≤ i ∧ Lists H0 rs i kvs B' H') (fun i σ B H h => h.1.gr.sub) ?_ ?_ ?_
    · intro B1 H1 g
      refine ⟨e1.grow g, List.getElem?_set_self (by omega), g.out d (by rw [upd_same]; intro z; cases z) dB, [], g.h _ _ upd_same, Nat.zero_le _, ⟨fun k v h => (nomatch h), fun st _ => rfl, fun st h => absurd (ix_zero rs st) h, fun st st' l _ h => (nomatch h)⟩⟩
    · intro i dd σ1 B1 H1 x B2 H2 hd ⟨e1, s1, dB1, kvs, hk, hkl, L⟩ g hx
      obtain ⟨rd, hrd, rfl⟩ := enD_get hd
      obtain ⟨r, hr, rfl⟩ : ∃ r, rs[i]? = some r ∧ rd = rwD r := by
        rw [List.getElem?_map] at hrd
        cases q : rs[i]? with
        | none => rw [q] at hrd; cases hrd
        | some a => rw [q] at hrd; exact ⟨a, rfl, (Option.some.inj hrd).symm⟩
      have hi : i < rs.length := (List.getElem?_eq_some_iff.mp hr).1
      refine eg_tup rfl (egs_cons eg_name (egs_cons eg_name egs_nil)) _ _ _ _ _ _ (e1.grow g) hx _ fun σ3 e3 o3 => ?_
      have s3 : σ3[1]? = some (some (.ref d)) := by rw [o3.2 1 (by decide)]; exact s1
      have hk2 : H2 d = some (.dK kvs) := g.h _ _ hk
      obtain ⟨ds, hds1, hds2⟩ := row_st r
      obtain ⟨v4, a1, a2⟩ := e3.at_ 4 (.d (.int i)) rfl
      cases a2
      refine ⟨.ref d, s3, d, rfl, .inl ⟨kvs, Rd.of hk2⟩, ?_⟩
      refine ev_op (ev_var (x := rwD r) rfl) ev_int (c := .int r.st) (by rw [hds1]; exact rd_ixT hds2) _ _ _ _ _ e3 _ fun y B4 H4 g4 hy => ?_
      cases hy
      refine ⟨Nat.zero_le _, fun l hln => ?_⟩
      have hk4 : H4 d = some (.dK kvs) := g4.h _ _ hk2
      have g14 := g.trans g4
      have ndl : d ≠ l := ne_of_none hk4 hln
      have dB4 : B4 d = none := g14.out d (by rw [hk]; intro z; cases z) dB1
      have l0 : H0 l = none := ex_none ((e3.grow g4).gr.h) hln
      have lB4 : B4 l = none := ex_none g4.sub hln
      have e5 := wk ((e3.grow g4).grow (Grow.new0 (o := .lst []) g4.sub hln))
      refine ⟨kvs, .inl r.st, by rw [upd_ne ndl]; exact hk4, rfl, Evl.sz_lt (by omega), fun v hv => ?_, fun hv => ?_⟩
      · -- there is a list
        have hne : ix rs i r.st ≠ [] := fun q => by rw [L.no _ q] at hv; cases hv
        obtain ⟨m, b1, b2, b3, b4⟩ := L.yes _ hne
        rw [hv] at b1
        cases b1
        have hm4 : H4 m = some (.lst (natV (ix rs i r.st))) := g14.h _ _ b4
        have nml : m ≠ l := ne_of_none hm4 hln
        have hm5 : upd H4 l (.lst []) m = some (.lst (natV (ix rs i r.st))) := by rw [upd_ne nml]; exact hm4
        have mB4 : B4 m = none := g14.out m (by rw [b4]; intro z; cases z) b3
        refine ⟨.inl ⟨rfl, _, SqL.of hm5⟩, _, a1, m, _, _, rfl, rfl, hm5, Evl.sz_lt (by have := ix_len rs i r.st; simp [natV]; omega), B4, g14.b, e5.mutN rfl b2 mB4, s3, dB4, kvs, ?_, by omega, ?_⟩
        · have ndm : d ≠ m := ne_of hk4 hm4 (by intro z; cases z)
          rw [upd_ne ndm, upd_ne ndl]
          exact hk4
        · refine L.step hr (fun k v h => .inr ⟨v, h⟩) (fun st _ => rfl) hv b2 mB4 (by rw [upd_same]; simp [natV]) (fun st hs q => L.inj st r.st m hs q hv) (fun m' xs h1 h2 => g14.out m' (by rw [h1]; intro z; cases z) h2) (fun m' xs hm h1 => ?_)
          rw [upd_ne hm, upd_ne (ne_of_none (g14.h _ _ h1) hln)]
          exact g14.h _ _ h1
      · -- a new one
        have hl6 : upd (upd H4 l (.lst [])) d (.dK (putK kvs (Sum.inl r.st) (.ref l))) l = some (.lst []) := by rw [upd_ne ndl.symm, upd_same]
        have hix : ix rs i r.st = [] := by
          cases q : ix rs i r.st with
          | nil => rfl
          | cons a b =>
            obtain ⟨m, b1, _⟩ := L.yes r.st (by rw [q]; intro z; cases z)
            rw [hv] at b1
            cases b1
        refine ⟨.inl ⟨rfl, _, SqL.of hl6⟩, _, a1, l, _, _, rfl, rfl, hl6, Evl.sz_lt (by simp), B4, g14.b, (e5.mutN rfl d0 dB4).mutN rfl l0 lB4, s3, dB4, putK kvs (Sum.inl r.st) (.ref l), ?_, ?_, ?_⟩
        · rw [upd_ne ndl, upd_same]
        · have := length_putK kvs (Sum.inl r.st) (.ref l)
          omega
        · refine L.step hr (fun k v h => putK_mem h) (fun st hs => ?_) ?_ l0 lB4 (by rw [upd_same, hix]; rfl) (fun st hs q => ?_) (fun m' xs h1 h2 => g14.out m' (by rw [h1]; intro z; cases z) h2) (fun m' xs hm h1 => ?_)
          · rw [valV_put, if_neg (fun z => hs (Sum.inl.inj z))]
          · rw [valV_put, if_pos rfl]
          · have hne : ix rs i st ≠ [] := fun z => by rw [L.no _ z] at q; cases q
            obtain ⟨m, b1, b2, b3, b4⟩ := L.yes _ hne
            rw [q] at b1
            cases b1
            rw [g14.h _ _ b4] at hln
            cases hln
          · have h4 := g14.h _ _ h1
            rw [upd_ne hm, upd_ne (ne_of h4 hk4 (by intro z; cases z)), upd_ne (ne_of_none h4 hln)]
            exact h4
    · intro σ1 B1 H1 b1 ⟨e1, s1, dB1, kvs, hk, hkl, L⟩
      rw [enD_length, List.length_map] at L hkl
      have dA : addL H0 B1 H1 d = none := addL_no dB1 (.inr ⟨_, hk, fun xs q => nomatch q⟩)
      have e2 : EnvOk B0 H0 (addL H0 B1 H1) H1 σ1 δI := e1.reB rfl addL_ex (addL_sub e1.gr.sub) (fun l h1 h2 => addL_no (e1.gr.out l h1 h2) (.inl h1))
      have e3 := e2.set 2 (v := .non) (r := .d .none) DD.non
      have hl1 : σ1.length = 7 := e1.len
      refine ⟨d, .dK kvs, hk, trivial, fun od => ?_⟩
      have e4 := e3.mutN (o' := .frz od (.dK kvs)) rfl d0 dA
      have e5 : EnvOk B0 H0 (upd (addL H0 B1 H1) d (.frz od (.dK kvs))) (upd H1 d (.frz od (.dK kvs))) (σ1.set 2 (some .non)) (δI.set 2 (.d .none)) := e4.reB rfl (Evl.Ex.new dA) (ex_put e4.gr.sub upd_same) (fun l h1 h2 => by
        have : l ≠ d := fun z => h1 (by rw [z]; exact d0)
        rw [upd_ne this]
        exact e4.gr.out l h1 h2)
      have s1' : (σ1.set 2 (some .non))[1]? = some (some (.ref d)) := by rw [sget (by decide)]; exact s1
      have hKA : KeysAt d od kvs rs (upd (addL H0 B1 H1) d (.frz od (.dK kvs))) (.ref d) := ⟨rfl, upd_same, fun st l q => by
        have hne : ix rs rs.length st ≠ [] := fun z => by rw [L.no _ z] at q; cases q
        obtain ⟨m, b1, b2, b3, b4⟩ := L.yes _ hne
        rw [q] at b1
        cases b1
        rw [upd_ne (ne_of b4 hk (by intro z; cases z))]
        exact addL_at b2 b3 b4⟩
      have e6 := e5.know (r := .ob (KeysAt d od kvs rs)) s1' ⟨KeysAt.mono, hKA⟩
      let δJ : Sl → Sl → List Sl := fun x3 x6 => [.d (.list (rs.map rwD)), .ob (KeysAt d od kvs rs), .d .none, x3, .no, .no, x6]
      refine xs_for (O := { nx := fun δ' => δ'[2]? = some (.d .none), rt := fun _ => False }) (δ := δJ .no .no) (ei_keys rfl) (fun i δ => ∃ x3 x6, δ = δJ x3 x6) ⟨_, _, rfl⟩ ?_ (fun δ1 ⟨_, _, q⟩ => by rw [q]; rfl) _ _ _ _ _ e6 _ ⟨fun σ' B' H' δ' e' b q => ?_, fun _ _ _ _ _ _ _ z => z.elim, fun _ _ _ _ _ _ z => z.elim, fun _ _ _ _ _ _ z => z.elim⟩
      · rintro i dd δ1 hd ⟨x3, x6, rfl⟩
        rw [List.getElem?_map] at hd
        cases q : kvs[i]? with
        | none => rw [q] at hd; cases hd
        | some p =>
          obtain ⟨kk, vv⟩ := p
          rw [q] at hd
          have hd := Option.some.inj hd
          subst hd
          have hm := List.mem_of_getElem? q
          obtain ⟨st, rfl⟩ := L.keys _ _ hm
          obtain ⟨u, hu⟩ := valV_mem hm
          have hne : ix rs rs.length st ≠ [] := fun z => by rw [L.no _ z] at hu; cases hu
          obtain ⟨l, b1, _⟩ := L.yes _ hne
          have hget : EvX (tDGet (tVar 1) (tVar 3)) ((δJ x3 x6).set 3 (.d (.int st))) (.d (.list (natD (ix rs rs.length st)))) := fun B0 H0 B H σ e Q k => by
            obtain ⟨v1, c1, _, c2, c3, c4⟩ := e.at_ 1 (.ob (KeysAt d od kvs rs)) rfl
            obtain ⟨v3, c5, c6⟩ := e.at_ 3 (.d (.int st)) rfl
            cases c2
            cases c6
            exact ⟨_, c1, _, c5, d, .ref l, rfl, .inl ⟨kvs, .inl st, .inr ⟨od, e.gr.sub _ _ c3⟩, rfl, b1.symm⟩, k _ B H (Grow.refl e.gr.sub) (DD.lst (c4 st l b1) (dds_nat _))⟩
          refine ⟨_, _, eg_name, ?_⟩
          have hlen := ix_len rs rs.length st
          refine xs_give (ev_call (ea_cons (ev_var rfl) (ea_cons hget ea_nil)) ⟨rs, ix rs rs.length st, rfl, by omega, ix_ok hp _ _, rfl⟩) ?_
          exact xs_if0 (et_and0 (et_tst (ev_op (ev_var rfl) ev_non rd_isNot) rfl)) (xs_next ⟨_, _, rfl⟩)
      · refine ⟨e'.gr.sub _ _ (b _ _ upd_same), ?_⟩
        obtain ⟨v, c1, c2⟩ := e'.at_ 2 _ q
        cases c2
        have exA : Ex (addL H0 B1 H1) H' := (Evl.Ex.new dA).trans (b.trans e'.gr.sub)
        exact ⟨_, c1, k.rt .non (addL H0 B1 H1) (upd H' d (.dK kvs)) (.d .none) ⟨e2.gr.b, fun a o ha => by
          have : a ≠ d := fun z => by rw [z, d0] at ha; cases ha
          rw [upd_ne this]
          exact e'.gr.h a o ha, ex_upd exA dA, e2.gr.out⟩ (b1.trans addL_ex) DD.non rfl⟩
end
end BK
set_option maxRecDepth 100000
set_option maxHeartbeats 4000000
namespace BK
open PySem L2 DL CM
local macro_rules | `(tactic| walk_at "rd") => `(tactic| first
  | with_reducible exact rd_addI
  | with_reducible exact rd_sub
  | with_reducible exact rd_lt
  | with_reducible exact rd_le
  | with_reducible exact rd_gt
  | with_reducible exact rd_ge
  | with_reducible exact rd_eqI
  | with_reducible exact rd_neI
  | with_reducible exact rd_is
  | with_reducible exact rd_isNot
  | exact rd_mul (cmul_s (by omega) (by omega))
  | exact rd_mod (by first | decide | omega)
  | exact rd_fdv (by first | decide | omega)
  | exact rd_consI (by first | omega | (simp; omega) | simp)
  | exact rd_snocI (by first | omega | (simp; omega) | simp)
  | exact rd_catI (by first | omega | (simp; omega) | simp)
  | with_reducible exact rd_head0
  | with_reducible exact rd_ww
  | with_reducible exact rd_mm
  | with_reducible exact rd_wm
  | with_reducible exact rd_mw
  | with_reducible exact rd_nww
  | exact rd_ixT rfl
  | exact rd_ixL rfl
  | exact rd_addT (by first | decide | simp))
local macro_rules | `(tactic| walk_at "R") => `(tactic| first
  | exact ⟨_, _, _, rfl, rfl⟩
  | exact ⟨_, rfl, (by first | omega | (simp; omega) | simp), rfl⟩)
local macro_rules | `(tactic| walk_at "rc") => `(tactic| first
  | with_reducible exact rc_int
  | with_reducible exact rc_intB
  | with_reducible exact rc_lenT
  | with_reducible exact rc_lenL
  | with_reducible exact rc_abs
  | with_reducible exact rc_tupL
  | with_reducible exact rc_tupT)
local macro_rules | `(tactic| walk_at "ev") => `(tactic| first
  | with_reducible exact ev_int
  | with_reducible exact ev_non
  | with_reducible exact ev_bl
  | with_reducible exact ev_str
  | exact ev_var rfl
  | exact ev_ob rfl
  | ((with_reducible refine' ev_isi ?k1 ?k2); (case k1 => walk_at "ev"); (case k2 => first | exact kit_ii | exact kit_ib | exact kit_tt | exact kit_it))
  | ((with_reducible refine' ev_op ?k1 ?k2 ?k3); (case k1 => walk_at "ev"); (case k2 => walk_at "ev"); (case k3 => walk_at "rd"))
  | ((with_reducible refine' ev_un ?k1 ?k2); (case k1 => walk_at "ev"); (case k2 => exact ru_neg))
  | ((with_reducible refine' ev_cb ?k1 ?k2); (case k1 => walk_at "ed"); (case k2 => walk_at "rc"))
  | ((with_reducible refine' ev_tup ?k1 ?k2); (case k1 => walk_at "ed"); (case k2 => exact Nat.le_of_ble_eq_true rfl))
  | ((with_reducible refine' ev_andV ?k1 ?k2); (case k1 => walk_at "ev"); (case k2 => (intro _; walk_at "ev")))
  | ((with_reducible refine' ev_orV ?k1 ?k2); (case k1 => walk_at "ev"); (case k2 => (intro _; walk_at "ev")))
  | ((with_reducible refine' ev_notV ?k1); (case k1 => walk_at "ev"))
  | ((with_reducible refine' ev_chain ?k1 ?k2 ?k3 ?k4 ?k5); (case k1 => walk_at "ev"); (case k2 => walk_at "ev"); (case k3 => (intro _; walk_at "ev")); (case k4 => walk_at "rd"); (case k5 => walk_at "rd"))
  | ((with_reducible refine' ev_fld ?k1 ?k2); (case k1 => walk_at "ev"); (case k2 => walk_at "F"))
  | ((with_reducible refine' ev_meth ?k1 ?k2 ?k3 ?k4); (case k1 => walk_at "ev"); (case k2 => walk_at "I"); (case k3 => walk_at "ea"); (case k4 => walk_at "R"))
  | ((with_reducible refine' ev_call ?k1 ?k2); (case k1 => walk_at "ea"); (case k2 => walk_at "R"))
  | ((with_reducible refine' ev_sl1 ?k1); (case k1 => walk_at "ev"))
  | ((with_reducible refine' ev_sl ?k1 ?k2 ?k3); (case k1 => walk_at "ev"); (case k2 => walk_at "eo"); (case k3 => walk_at "eo"))
  | ((with_reducible refine' ev_ofL (el_sl ?k1 ?k2 ?k3)); (case k1 => walk_at "ev"); (case k2 => walk_at "eo"); (case k3 => walk_at "eo")))
local macro_rules | `(tactic| walk_at "eo") => `(tactic| first
  | with_reducible exact eo_none
  | ((with_reducible refine' eo_some ?k1); (case k1 => walk_at "ev")))
local macro_rules | `(tactic| walk_at "ed") => `(tactic| first
  | with_reducible exact ed_nil
  | ((with_reducible refine' ed_cons ?k1 ?k2); (case k1 => walk_at "ev"); (case k2 => walk_at "ed")))
local macro_rules | `(tactic| walk_at "ea") => `(tactic| first
  | with_reducible exact ea_nil
  | ((with_reducible refine' ea_cons ?k1 ?k2); (case k1 => walk_at "ev"); (case k2 => walk_at "ea")))
local macro_rules | `(tactic| walk_at "et") => `(tactic| first
  | ((with_reducible refine' et_test ?k1); (case k1 => walk_at "ev"))
  | ((with_reducible refine' et_B ?k1); (case k1 => walk_at "ev"))
  | ((with_reducible refine' et_not ?k1); (case k1 => walk_at "et"))
  | ((with_reducible refine' et_and ?k1 ?k2); (case k1 => walk_at "et"); (case k2 => (intro _; walk_at "et")))
  | ((with_reducible refine' et_or ?k1 ?k2); (case k1 => walk_at "et"); (case k2 => (intro _; walk_at "et"))))
local macro_rules | `(tactic| walk_at "give") => `(tactic| ((with_reducible refine' xs_give ?k1 ?_); (case k1 => walk_at "ev")))
local macro_rules | `(tactic| walk_at "ret") => `(tactic| ((with_reducible refine' xs_ret ?k1 ?_); (case k1 => walk_at "ev")))
local macro_rules | `(tactic| walk_at "tst") => `(tactic| ((with_reducible refine' et_tst ?k1 ?_); (case k1 => walk_at "ev")))
local macro_rules | `(tactic| walk_at "etto") => `(tactic| ((with_reducible refine' et_to ?k1 ?_); (case k1 => walk_at "et")))
local macro_rules | `(tactic| walk_at "evto") => `(tactic| ((with_reducible refine' ev_dto ?k1 ?_); (case k1 => walk_at "ev")))

section
variable {P : Program} {w : World} {K : PySem.W.Frag} {mg : Str → Option Value} {base : Heap}
/-! WK: the tables. -/
def EntAt (rs : List Rw) (st : Int) (B : Hp) (mv nx : V) (kts : List (List Key × V)) : Prop :=
  (∀ r ∈ rs, r.st = st → match r with
    | .m _ d0 d1 d2 n => DD B mv (ti [d0, d1, d2]) ∧ nx = .int n
    | .w _ a0 a1 a2 b0 b1 b2 n => mv = .non ∧ ∃ q w, valV kts (keyI [a0, a1, a2]) = some (.ref q) ∧ B q = some (.tup [w, .int n]) ∧ DD B w (ti [b0, b1, b2])) ∧
  ∀ l, (∀ r ∈ rs, ¬ (r.st = st ∧ r.isW = true ∧ r.rd = l)) → valV kts (keyI l) = none
theorem EntAt.mono {rs : List Rw} {st : Int} {B B' : Hp} {mv nx : V} {kts : List (List Key × V)} (h : EntAt rs st B mv nx kts) (e : Ex B B') : EntAt rs st B' mv nx kts := by
  refine ⟨fun r hr hs => ?_, h.2⟩
  have z := h.1 r hr hs
  cases r with
  | m s d0 d1 d2 n => exact ⟨z.1.mono e, z.2⟩
  | w s a0 a1 a2 b0 b1 b2 n =>
    obtain ⟨z1, q, w, z2, z3, z4⟩ := z
    exact ⟨z1, q, w, z2, e _ _ z3, z4.mono e⟩
/-- the table of the rows -/
def TabAt (rs : List Rw) (B : Hp) (v : V) : Prop := ∃ (d : Addr) (kvs : List (Key × V)), v = .ref d ∧ B d = some (.dK kvs) ∧
  (∀ st, (∀ r ∈ rs, r.st ≠ st) → valV kvs (Sum.inl st) = none) ∧
  ∀ r ∈ rs, ∃ (p : Addr) (mv nx : V) (dd : Addr) (kts : List (List Key × V)), valV kvs (Sum.inl r.st) = some (.ref p) ∧ B p = some (.tup [mv, nx, .ref dd]) ∧ B dd = some (.dT kts) ∧ EntAt rs r.st B mv nx kts
theorem TabAt.mono {rs : List Rw} : Mono (TabAt rs) := fun B B' v e ⟨d, kvs, h1, h2, h3, h4⟩ =>
  ⟨d, kvs, h1, e _ _ h2, h3, fun r hr => by
    obtain ⟨p, mv, nx, dd, kts, a1, a2, a3, a4⟩ := h4 r hr
    exact ⟨p, mv, nx, dd, kts, a1, e _ _ a2, e _ _ a3, a4.mono e⟩⟩
theorem TabAt.indep {rs : List Rw} : Indep (.ob (TabAt rs)) := fun B x C dx fs v hx ⟨d, kvs, h1, h2, h3, h4⟩ => by
  have ne : ∀ {a : Addr} {o : HO}, B a = some o → o ≠ .ins C dx fs → hide B x a = some o := fun {a o} h hne => by
    rw [hide_ne (ne_of h hx hne)]; exact h
  refine ⟨d, kvs, h1, ne h2 (by intro z; cases z), h3, fun r hr => ?_⟩
  obtain ⟨p, mv, nx, dd, kts, a1, a2, a3, a4⟩ := h4 r hr
  refine ⟨p, mv, nx, dd, kts, a1, ne a2 (by intro z; cases z), ne a3 (by intro z; cases z), fun r' hr' hs => ?_, a4.2⟩
  have z := a4.1 r' hr' hs
  cases r' with
  | m s d0 d1 d2 n => exact ⟨dd_hide hx _ _ z.1, z.2⟩
  | w s a0 a1 a2 b0 b1 b2 n =>
    obtain ⟨z1, q, w, z2, z3, z4⟩ := z
    exact ⟨z1, q, w, z2, ne z3 (by intro z; cases z), dd_hide hx _ _ z4⟩
/-- .. while it is filled -/
structure Tab (H0 : Hp) (rs : List Rw) (n : Nat) (kvs : List (Key × V)) (B H : Hp) : Prop where
  no : ∀ st, (∀ r ∈ rs, r.st ≠ st) → valV kvs (Sum.inl st) = none
  yes : ∀ st, (∃ r ∈ rs, r.st = st) → ∃ (p : Addr) (mv nx : V) (dd : Addr) (kts : List (List Key × V)), valV kvs (Sum.inl st) = some (.ref p) ∧ B p = some (.tup [mv, nx, .ref dd]) ∧ H dd = some (.dT kts) ∧ H0 dd = none ∧ B dd = none ∧ kts.length ≤ n ∧ EntAt rs st B mv nx kts
  inj : ∀ (st st' : Int) (p p' : Addr) (m x m' x' : V) (dd : Addr), st ≠ st' → valV kvs (Sum.inl st) = some (.ref p) → B p = some (.tup [m, x, .ref dd]) → valV kvs (Sum.inl st') = some (.ref p') → B p' = some (.tup [m', x', .ref dd]) → False
theorem Tab.has {H0 : Hp} {rs : List Rw} {n : Nat} {kvs : List (Key × V)} {B H : Hp} (L : Tab H0 rs n kvs B H) {st : Int} {v : V} (h : valV kvs (Sum.inl st) = some v) : ∃ r ∈ rs, r.st = st := by
  by_cases q : ∃ r ∈ rs, r.st = st
  · exact q
  · rw [L.no st fun r hr hs => q ⟨r, hr, hs⟩] at h
    cases h
theorem Tab.step {H0 : Hp} {rs : List Rw} {n : Nat} {kvs kvs' : List (Key × V)} {B H B' H' : Hp} {r : Rw} {p dd : Addr} {mv nx : V} {kts : List (List Key × V)} (L : Tab H0 rs n kvs B H)
    (hv : ∀ st, st ≠ r.st → valV kvs' (Sum.inl st) = valV kvs (Sum.inl st)) (hl : valV kvs' (Sum.inl r.st) = some (.ref p)) (hp : B' p = some (.tup [mv, nx, .ref dd])) (hd : H' dd = some (.dT kts)) (h0 : H0 dd = none) (hB : B' dd = none)
    (hk : kts.length ≤ n + 1) (he : EntAt (rs ++ [r]) r.st B' mv nx kts) (e : Ex B B') (hb : ∀ m k, H m = some (.dT k) → B m = none → B' m = none) (hh : ∀ m k, m ≠ dd → H m = some (.dT k) → H' m = some (.dT k))
    (hn : ∀ st p m x, st ≠ r.st → valV kvs (Sum.inl st) = some (.ref p) → B p ≠ some (.tup [m, x, .ref dd])) : Tab H0 (rs ++ [r]) (n + 1) kvs' B' H' := by
  have old : ∀ st, st ≠ r.st → (∃ r' ∈ rs ++ [r], r'.st = st) → ∃ r' ∈ rs, r'.st = st := fun st hs ⟨r', h1, h2⟩ => by
    rcases List.mem_append.mp h1 with h1 | h1
    · exact ⟨r', h1, h2⟩
    · rw [List.mem_singleton] at h1
      rw [h1] at h2
      exact absurd h2.symm hs
  have keep : ∀ st p, st ≠ r.st → valV kvs (Sum.inl st) = some (.ref p) → B' p = B p := fun st p hs h => by
    obtain ⟨p', mv, nx, dd', kts', a1, a2, _⟩ := L.yes st (L.has h)
    rw [h] at a1
    cases a1
    rw [a2, e _ _ a2]
  refine ⟨fun st h => ?_, fun st h => ?_, fun st st' q q' m x m' x' d hne h1 h2 h3 h4 => ?_⟩
  · have : st ≠ r.st := fun z => h r (List.mem_append.mpr (.inr (List.mem_singleton.mpr rfl))) z.symm
    rw [hv st this]
    exact L.no st fun r' hr' => h r' (List.mem_append.mpr (.inl hr'))
  · by_cases q : st = r.st
    · subst q
      exact ⟨p, mv, nx, dd, kts, hl, hp, hd, h0, hB, hk, he⟩
    · obtain ⟨p', mv', nx', dd', kts', a1, a2, a3, a4, a5, a6, a7⟩ := L.yes st (old st q h)
      have hdd : dd' ≠ dd := fun z => hn st p' mv' nx' q a1 (by rw [← z]; exact a2)
      refine ⟨p', mv', nx', dd', kts', by rw [hv st q]; exact a1, e _ _ a2, hh _ _ hdd a3, a4, hb _ _ a3 a5, by omega, fun r' hr' hs => ?_, fun l hl' => ?_⟩
      · rcases List.mem_append.mp hr' with h1 | h1
        · exact (a7.mono e).1 r' h1 hs
        · rw [List.mem_singleton] at h1
          rw [h1] at hs
          exact absurd hs.symm q
      · exact a7.2 l fun r' hr' => hl' r' (List.mem_append.mpr (.inl hr'))
  · by_cases q1 : st = r.st
    · subst q1
      have q2 : st' ≠ r.st := fun z => hne z.symm
      rw [hl] at h1
      cases h1
      rw [hp] at h2
      cases h2
      rw [hv st' q2] at h3
      rw [keep st' q' q2 h3] at h4
      exact hn st' q' m' x' q2 h3 h4
    · rw [hv st q1] at h1
      rw [keep st q q1 h1] at h2
      by_cases q2 : st' = r.st
      · subst q2
        rw [hl] at h3
        cases h3
        rw [hp] at h4
        cases h4
        exact hn st q m x q1 h1 h2
      · rw [hv st' q2] at h3
        rw [keep st' q' q2 h3] at h4
        exact L.inj st st' q q' m x m' x' d hne h1 h2 h3 h4
theorem EntAt.none {rs : List Rw} {st : Int} {B : Hp} (h : ∀ r ∈ rs, r.st ≠ st) : EntAt rs st B .non .non [] :=
  ⟨fun r hr hs => absurd hs (h r hr), fun _ _ => rfl⟩
theorem EntAt.move {rs : List Rw} {s d0 d1 d2 n : Int} {B : Hp} {mv : V} (h : ∀ r ∈ rs, r.st ≠ s) (hm : DD B mv (ti [d0, d1, d2])) : EntAt (rs ++ [.m s d0 d1 d2 n]) s B mv (.int n) [] := by
  refine ⟨fun r hr hs => ?_, fun _ _ => rfl⟩
  rcases List.mem_append.mp hr with hr | hr
  · exact absurd hs (h r hr)
  · rw [List.mem_singleton] at hr
    subst hr
    exact ⟨hm, rfl⟩
theorem EntAt.put {rs : List Rw} {s a0 a1 a2 b0 b1 b2 n : Int} {B : Hp} {nx w : V} {kts : List (List Key × V)} {q : Addr} (h : EntAt rs s B .non nx kts) (ho : ∀ r ∈ rs, Rw.ok r (.w s a0 a1 a2 b0 b1 b2 n))
    (hq : B q = some (.tup [w, .int n])) (hw : DD B w (ti [b0, b1, b2])) : EntAt (rs ++ [.w s a0 a1 a2 b0 b1 b2 n]) s B .non nx (putK kts (keyI [a0, a1, a2]) (.ref q)) := by
  refine ⟨fun r hr hs => ?_, fun l hl => ?_⟩
  · rcases List.mem_append.mp hr with hr | hr
    · have z := h.1 r hr hs
      have o := Rw.ok_w (ho r hr) hs
      cases r with
      | m _ _ _ _ _ => cases o.1
      | w s' c0 c1 c2 e0 e1 e2 n' =>
        obtain ⟨z1, q', w', z2, z3, z4⟩ := z
        refine ⟨z1, q', w', ?_, z3, z4⟩
        rw [valV_put, if_neg (show ¬ keyI [c0, c1, c2] = keyI [a0, a1, a2] from fun y => o.2.2 (keyI_inj y))]
        exact z2
    · rw [List.mem_singleton] at hr
      subst hr
      exact ⟨rfl, q, w, by rw [valV_put, if_pos rfl], hq, hw⟩
  · rw [valV_put]
    have h1 := hl _ (List.mem_append.mpr (.inr (List.mem_singleton.mpr rfl)))
    rw [if_neg (show ¬ keyI l = keyI [a0, a1, a2] from fun y => h1 ⟨rfl, rfl, (keyI_inj y).symm⟩)]
    exact h.2 l fun r hr => hl r (List.mem_append.mpr (.inl hr))
/-- the data with all new dicts -/
def addD (H0 B H : Hp) : Hp := fun a => match B a with
  | some o => some o
  | none => match H0 a with
    | some _ => none
    | none => match H a with
      | some (.dK k) => some (.dK k)
      | some (.dT k) => some (.dT k)
      | _ => none
theorem addD_ex {H0 B H : Hp} : Ex B (addD H0 B H) := fun a o h => by unfold addD; rw [h]
theorem addD_sub {H0 B H : Hp} (e : Ex B H) : Ex (addD H0 B H) H := fun a o h => by
  unfold addD at h
  cases q : B a with
  | some u => rw [q] at h; simp at h; rw [← h]; exact e a u q
  | none =>
    rw [q] at h
    cases q0 : H0 a with
    | some u => rw [q0] at h; simp at h
    | none =>
      rw [q0] at h
      cases q1 : H a with
      | none => rw [q1] at h; simp at h
      | some u =>
        rw [q1] at h
        cases u <;> simp at h
        · rw [← h]
        · rw [← h]
theorem addD_K {H0 B H : Hp} {a : Addr} {k : List (Key × V)} (h0 : H0 a = none) (hB : B a = none) (hH : H a = some (.dK k)) : addD H0 B H a = some (.dK k) := by
  unfold addD
  rw [hB, h0, hH]
theorem addD_T {H0 B H : Hp} {a : Addr} {k : List (List Key × V)} (h0 : H0 a = none) (hB : B a = none) (hH : H a = some (.dT k)) : addD H0 B H a = some (.dT k) := by
  unfold addD
  rw [hB, h0, hH]
theorem addD_no {H0 B H : Hp} {a : Addr} (hB : B a = none) (h : H0 a ≠ none) : addD H0 B H a = none := by
  unfold addD
  rw [hB]
  cases q0 : H0 a with
  | some u => rfl
  | none => exact absurd q0 h
theorem Rw.ok_m {r : Rw} {s d0 d1 d2 n : Int} (h : Rw.ok r (.m s d0 d1 d2 n)) : r.st ≠ s := by
  cases r <;> exact h
def R_table_of (as : List Sl) (r : Sl) : Prop := ∃ (rs : List Rw), as = [.d (.list (rs.map rwD))] ∧ rs.length ≤ 20000 ∧ rs.Pairwise Rw.ok ∧ r = .ob (TabAt rs)
theorem R_table_of_len (as : List Sl) (r : Sl) (h : R_table_of as r) : as.length = 1 := by obtain ⟨_, rfl, _⟩ := h; rfl
theorem ok_table_of (T : Txt K mg) : FnOk P w K mg base CX0 1 T.table_of.f T.table_of.fd P_table_of (spR R_table_of) := by
  refine T.table_of.F.ok sc_table_of (fun vs H Q E h => ?_) (fun cdv A outer s H vs Q E hr h => ?_)
  · exact spR_len (R_table_of_len) h
  · refine ⟨_, (pss_cons (ps_set (i := 1) sc_table_of.nd rfl (Or.inl rfl) pe_dnewK)
    (pss_cons (ps_for PassesOwn.never rfl (k_piL (K := K) rfl (pv 0)) (pg_name (i := 2) sc_table_of.nd rfl (Or.inl rfl)) (pss_one (ps_if (pt_cmpR (k_eq (K := K) rfl hr.units) (pe_ix (k_ix (K := K) rfl) (pv 2) pe_int (fun _ _ => rfl)) pe_str (nomark _)) (pss_one (ps_dput (hu_of hr) (pv 1) (pe_ix (k_ix (K := K) rfl) (pv 2) pe_int (fun _ _ => rfl)) (pe_tup (pa_cons (pe_ix (k_ix (K := K) rfl) (pv 2) pe_int (fun _ _ => rfl)) (pa_cons (pe_ix (k_ix (K := K) rfl) (pv 2) pe_int (fun _ _ => rfl)) (pa_cons pe_dnewT pa_nil)))) rfl)) (pss_cons (ps_expr (pe_dsetd (pv 1) (pe_ix (k_ix (K := K) rfl) (pv 2) pe_int (fun _ _ => rfl)) (pe_tup (pa_cons pe_non (pa_cons pe_non (pa_cons pe_dnewT pa_nil)))) ⟨rfl, rfl, rfl, rfl⟩))
        (pss_one (ps_dput (hu_of hr) (pe_ix (k_ix (K := K) rfl) (pe_dget (hu_of hr) (pv 1) (pe_ix (k_ix (K := K) rfl) (pv 2) pe_int (fun _ _ => rfl)) (fun _ _ => rfl)) pe_int (fun _ _ => rfl)) (pe_ix (k_ix (K := K) rfl) (pv 2) pe_int (fun _ _ => rfl)) (pe_tup (pa_cons (pe_ix (k_ix (K := K) rfl) (pv 2) pe_int (fun _ _ => rfl)) (pa_cons (pe_ix (k_ix (K := K) rfl) (pv 2) pe_int (fun _ _ => rfl)) pa_nil))) rfl))))))
    (pss_one (ps_ret (pv 1))))), ?_⟩
    refine spR_run h (fun as r hR => ?_)
    obtain ⟨rs, rfl, hl, hp, rfl⟩ := hR
    intro B0 H0 B H σ e D k d hdn
    have e1 := (e.grow (Grow.new0 (o := .dK []) e.gr.sub hdn)).drop 1 (some (.ref d))
    have hσ : σ.length = 3 := e.len
    have d0 : H0 d = none := ex_none e.gr.h hdn
    have dB : B d = none := ex_none e.gr.sub hdn
    let δI : List Sl := [.d (.list (rs.map rwD)), .no, .no]
    have wk : ∀ {B H : Hp} {σ : Ss} {a : Sl}, EnvOk B0 H0 B H σ [.d (.list (rs.map rwD)), .no, a] → EnvOk B0 H0 B H σ δI := fun {B H σ a} e => e.weak rfl (fun n s hs => by
      match n, hs with
      | 0, hs => exact .inr hs
      | 1, hs => exact .inr hs
      | 2, hs => exact .inl (Option.some.inj hs).symm)
    refine for_raw (δ := δI) (ds := rs.map rwD) e1 (ei_list (ev_var rfl)) (fun i σ' B' H' => EnvOk B0 H0 B' H' σ' δI ∧ σ'[1]? = some (some (.ref d)) ∧ B' d = none ∧
      ∃ kvs, H' d = some (.dK kvs) ∧ kvs.length ≤ i ∧ Tab H0 (rs.take i) i kvs B' H') (fun i σ B H h => h.1.gr.sub) ?_ ?_ ?_
    · intro B1 H1 g
      refine ⟨e1.grow g, List.getElem?_set_self (by omega), g.out d (by rw [upd_same]; intro z; cases z) dB, [], g.h _ _ upd_same, Nat.zero_le _, ⟨fun st _ => rfl, fun st ⟨r, h, _⟩ => (nomatch h), fun st st' p p' m x m' x' dd _ h => (nomatch h)⟩⟩
    · intro i dd0 σ1 B1 H1 x B2 H2 hd ⟨e1, s1, dB1, kvs, hk, hkl, L⟩ g hx
      obtain ⟨r, hr, rfl⟩ : ∃ r, rs[i]? = some r ∧ dd0 = rwD r := by
        rw [List.getElem?_map] at hd
        cases q : rs[i]? with
        | none => rw [q] at hd; cases hd
        | some a => rw [q] at hd; exact ⟨a, rfl, (Option.some.inj hd).symm⟩
      have hi : i < rs.length := (List.getElem?_eq_some_iff.mp hr).1
      have htk : rs.take (i + 1) = rs.take i ++ [r] := take_succ_of hr
      have hok : ∀ r' ∈ rs.take i, Rw.ok r' r := fun r' h => by
        obtain ⟨j, hj⟩ := List.mem_iff_getElem?.mp h
        have hji : j < i := by
          have := (List.getElem?_eq_some_iff.mp hj).1
          rw [List.length_take] at this
          omega
        rw [List.getElem?_take_of_lt hji] at hj
        obtain ⟨a1, rfl⟩ := List.getElem?_eq_some_iff.mp hj
        obtain ⟨a2, rfl⟩ := List.getElem?_eq_some_iff.mp hr
        exact List.pairwise_iff_getElem.mp hp j i a1 a2 hji
      have l1 : σ1.length = 3 := e1.len
      have e2 := (e1.grow g).set 2 (v := x) (r := .d (rwD r)) hx
      have hk2 : H2 d = some (.dK kvs) := g.h _ _ hk
      have dB2 : B2 d = none := g.out d (by rw [hk]; intro z; cases z) dB1
      have s2 : (σ1.set 2 (some x))[1]? = some (some (.ref d)) := by rw [sget (by decide)]; exact s1
      rw [htk]
      show tIfS _ _ _ _ (σ1.set 2 (some x)) H2
      generalize σ1.set 2 (some x) = σ2 at e2 s2
      cases r with
      | m s d0' d1 d2 n =>
        have hne : ∀ r' ∈ rs.take i, r'.st ≠ s := fun r' h => Rw.ok_m (hok r' h)
        refine et_tst (ev_op (ev_op (ev_var rfl) ev_int (rd_ixT rfl)) ev_str rd_mm) rfl _ _ _ _ _ e2 _ fun B3 H3 g3 => iteT ?_
        refine ev_op (ev_var rfl) ev_int (rd_ixT rfl) _ _ _ _ _ (e2.grow g3) _ fun v1 B4 H4 g4 hv1 => ?_
        refine ev_op (ev_var rfl) ev_int (rd_ixT rfl) _ _ _ _ _ (e2.grow (g3.trans g4)) _ fun v2 B5 H5 g5 hv2 => ?_
        cases hv2
        intro dd hdd
        refine ⟨Nat.le_of_ble_eq_true rfl, fun p hpn => ⟨.ref d, s2, ?_⟩⟩
        have g25 := (g3.trans g4).trans g5
        have hp5 : H5 p = none := by
          by_cases q : p = dd
          · rw [q]; exact hdd
          · rw [upd_ne q] at hpn; exact hpn
        have npd : p ≠ dd := fun q => by rw [q, upd_same] at hpn; cases hpn
        have gA : Grow B5 H5 B5 (upd H5 dd (.dT [])) := Grow.new0 g5.sub hdd
        have gB : Grow B5 (upd H5 dd (.dT [])) (upd B5 p (.tup [v1, .int n, .ref dd])) (upd (upd H5 dd (.dT [])) p (.tup [v1, .int n, .ref dd])) := Grow.new gA.sub hpn
        have e6 := e2.grow ((g25.trans gA).trans gB)
        refine ev_op (ev_var rfl) ev_int (rd_ixT rfl) _ _ _ _ _ e6 _ fun v3 B7 H7 g7 hv3 => ?_
        cases hv3
        have g27 := ((g25.trans gA).trans gB).trans g7
        have g17 := g.trans g27
        have hk7 : H7 d = some (.dK kvs) := g27.h _ _ hk2
        have dB7 : B7 d = none := g27.out d (by rw [hk2]; intro z; cases z) dB2
        refine ⟨d, _, rfl, DPut.k (k := Sum.inl s) hk7 (Evl.sz_lt (by omega)), B7, g17.b, (wk (e2.grow g27)).mutN rfl d0 dB7, s2, dB7, _, upd_same, ?_, ?_⟩
        · have := length_putK kvs (Sum.inl s) (.ref p)
          omega
        · have hB5dd : B5 dd = none := ex_none g5.sub hdd
          have hdd7 : H7 dd = some (.dT []) := g7.h _ _ (by rw [upd_ne npd.symm, upd_same])
          have hp7 : B7 p = some (.tup [v1, .int n, .ref dd]) := g7.b _ _ upd_same
          have hBdd7 : B7 dd = none := g7.out dd (by rw [upd_ne npd.symm, upd_same]; intro z; cases z) (by rw [upd_ne npd.symm]; exact hB5dd)
          have hv1' : DD B7 v1 (ti [d0', d1, d2]) := ((DD.mono hv1 g5.b).mono gB.b).mono g7.b
          refine L.step (r := .m s d0' d1 d2 n) (p := p) (dd := dd) (fun st hs => by rw [valV_put]; exact if_neg (fun z => hs (Sum.inl.inj z))) (by rw [valV_put]; exact if_pos rfl) hp7 ?_ (ex_none (e2.grow g25).gr.h hdd) hBdd7 (Nat.zero_le _) (EntAt.move hne hv1') g17.b (fun m k h1 h2 => g17.out m (by rw [h1]; intro z; cases z) h2) (fun m k hm h1 => ?_) (fun st q m y hs h1 h2 => ?_)
          · rw [upd_ne (ne_of hdd7 hk7 (by intro z; cases z))]
            exact hdd7
          · have h7 := g17.h _ _ h1
            rw [upd_ne (ne_of h7 hk7 (by intro z; cases z))]
            exact h7
          · obtain ⟨p', mv, nx, dd', kts', a1, a2, a3, a4, a5, _⟩ := L.yes st (L.has h1)
            rw [h1] at a1
            cases a1
            rw [h2] at a2
            cases a2
            have := (g.trans g25).h _ _ a3
            rw [hdd] at this
            cases this
      | w s a0 a1 a2 b0 b1 b2 n =>
        refine et_tst (ev_op (ev_op (ev_var rfl) ev_int (rd_ixT rfl)) ev_str rd_wm) rfl _ _ _ _ _ e2 _ fun B3 H3 g3 => iteF ?_
        -- the second statement, from an entry for s
        have cont : ∀ (D' : Ends) (B4 H4 : Hp) (kvs4 : List (Key × V)) (p dd : Addr) (nx : V) (kts : List (List Key × V)), EnvOk B0 H0 B4 H4 σ2 (δI.set 2 (.d (rwD (.w s a0 a1 a2 b0 b1 b2 n)))) → Ex B1 B4 → B4 d = none → H4 d = some (.dK kvs4) → kvs4.length ≤ i + 1 →
            valV kvs4 (Sum.inl s) = some (.ref p) → B4 p = some (.tup [.non, nx, .ref dd]) → H4 dd = some (.dT kts) → H0 dd = none → B4 dd = none → kts.length ≤ i → EntAt (rs.take i) s B4 .non nx kts →
            (∀ st, st ≠ s → valV kvs4 (Sum.inl st) = valV kvs (Sum.inl st)) → (∀ m k, H1 m = some (.dT k) → B1 m = none → B4 m = none) → (∀ m k, m ≠ dd → H1 m = some (.dT k) → H4 m = some (.dT k)) →
            (∀ st p m x, st ≠ s → valV kvs (Sum.inl st) = some (.ref p) → B1 p ≠ some (.tup [m, x, .ref dd])) →
            (∀ B4 H4, Ex B1 B4 → EnvOk B0 H0 B4 H4 σ2 δI → B4 d = none → (∃ kvs, H4 d = some (.dK kvs) ∧ kvs.length ≤ i + 1 ∧ Tab H0 (rs.take i ++ [.w s a0 a1 a2 b0 b1 b2 n]) (i + 1) kvs B4 H4) → D'.nx σ2 H4) →
            sDPut (tOp (rIx K) (tDGet (tVar 1) (tOp (rIx K) (tVar 2) (tC (V.int 1)))) (tC (V.int 2))) (tOp (rIx K) (tVar 2) (tC (V.int 2)))
                (tTup (tCons (tOp (rIx K) (tVar 2) (tC (V.int 3))) (tCons (tOp (rIx K) (tVar 2) (tC (V.int 4))) tNil))) D' σ2 H4 := fun D' B4 H4 kvs4 p dd nx kts e4 x4 dB4 hk4 hkl4 hv4 hp4 hdd4 hdd0 hdB4 hkts hent hvs hb hh hn hnx => by
          refine ev_tup (ds := [ti [b0, b1, b2], .int n]) (ed_cons (ev_op (ev_var rfl) ev_int (rd_ixT rfl)) (ed_cons (ev_op (ev_var rfl) ev_int (rd_ixT rfl)) ed_nil)) (Nat.le_of_ble_eq_true rfl) _ _ _ _ _ e4 _ fun v B5 H5 g5 hv => ?_
          cases hv with
          | tup hq hxs =>
            rename_i q xs
            cases hxs with
            | cons hw hxs =>
              cases hxs with
              | cons hn' hxs =>
                cases hxs
                cases hn'
                rename_i w
                refine ⟨.ref d, s2, ?_⟩
                refine ev_op (ev_var rfl) ev_int (c := .int s) (rd_ixT rfl) _ _ _ _ _ (e4.grow g5) _ fun v1 B6 H6 g6 hv1 => ?_
                cases hv1
                have g46 := g5.trans g6
                refine ⟨d, .ref p, rfl, by rw [← hv4]; exact DGet.k (k := Sum.inl s) (g46.h _ _ hk4), .inr (.inl ⟨p, _, 2, .ref dd, rfl, rfl, SqT.of (g46.sub _ _ (g46.b _ _ hp4)), rfl, ?_⟩)⟩
                refine ev_op (ev_var rfl) ev_int (c := ti [a0, a1, a2]) (rd_ixT rfl) _ _ _ _ _ (e4.grow g46) _ fun v2 B7 H7 g7 hv2 => ?_
                cases hv2 with
                | tup hbb hbs =>
                  rename_i bb bs
                  have hbs' := dds_ints_inv hbs
                  subst hbs'
                  have g47 := g46.trans g7
                  have hdd7 : H7 dd = some (.dT kts) := g47.h _ _ hdd4
                  have hbH : H7 bb = some (.tup ((keyI [a0, a1, a2]).map kV)) := by rw [keyI_kV]; exact g7.sub _ _ hbb
                  have hk7 : H7 d = some (.dK kvs4) := g47.h _ _ hk4
                  have hBdd7 : B7 dd = none := g47.out dd (by rw [hdd4]; intro z; cases z) hdB4
                  have dB7 : B7 d = none := g47.out d (by rw [hk4]; intro z; cases z) dB4
                  have hqB7 : B7 q = some (.tup [w, .int n]) := g7.b _ _ (g6.b _ _ hq)
                  have hwB7 : DD B7 w (ti [b0, b1, b2]) := (hw.mono g6.b).mono g7.b
                  refine ⟨dd, _, rfl, DPut.t hdd7 hbH (Evl.sz_lt (by omega)), hnx B7 _ (x4.trans g47.b) ((wk (e4.grow g47)).mutN rfl hdd0 hBdd7) dB7 ⟨kvs4, ?_, hkl4, ?_⟩⟩
                  · rw [upd_ne (ne_of hk7 hdd7 (by intro z; cases z))]
                    exact hk7
                  · refine L.step (r := .w s a0 a1 a2 b0 b1 b2 n) hvs hv4 (g47.b _ _ hp4) upd_same hdd0 hBdd7 ?_ (EntAt.put (hent.mono g47.b) hok hqB7 hwB7) (x4.trans g47.b) (fun m k h1 h2 => ?_) (fun m k hm h1 => ?_) hn
                    · have := length_putK kts (keyI [a0, a1, a2]) (.ref q)
                      omega
                    · by_cases hm : m = dd
                      · rw [hm]; exact hBdd7
                      · exact g47.out m (by rw [hh m k hm h1]; intro z; cases z) (hb m k h1 h2)
                    · rw [upd_ne hm]
                      exact g47.h _ _ (hh m k hm h1)
        have fin : ∀ B4 H4, Ex B1 B4 → EnvOk B0 H0 B4 H4 σ2 δI → B4 d = none → (∃ kvs, H4 d = some (.dK kvs) ∧ kvs.length ≤ i + 1 ∧ Tab H0 (rs.take i ++ [.w s a0 a1 a2 b0 b1 b2 n]) (i + 1) kvs B4 H4) →
            ∃ B4, Ex B1 B4 ∧ EnvOk B0 H0 B4 H4 σ2 δI ∧ σ2[1]? = some (some (.ref d)) ∧ B4 d = none ∧ ∃ kvs, H4 d = some (.dK kvs) ∧ kvs.length ≤ i + 1 ∧ Tab H0 (rs.take i ++ [.w s a0 a1 a2 b0 b1 b2 n]) (i + 1) kvs B4 H4 := fun B4 H4 a b c q => ⟨B4, a, b, s2, c, q⟩
        have hk3 : H3 d = some (.dK kvs) := g3.h _ _ hk2
        refine ⟨.ref d, s2, d, rfl, .inl ⟨kvs, Rd.of hk3⟩, ?_⟩
        refine ev_op (ev_var rfl) ev_int (c := .int s) (rd_ixT rfl) _ _ _ _ _ (e2.grow g3) _ fun v1 B4 H4 g4 hv1 => ?_
        cases hv1
        intro dd hdd
        have g14 := g.trans (g3.trans g4)
        have gA : Grow B4 H4 B4 (upd H4 dd (.dT [])) := Grow.new0 g4.sub hdd
        refine ⟨Nat.le_of_ble_eq_true rfl, fun p hpn => ?_⟩
        have npd : p ≠ dd := fun q => by rw [q, upd_same] at hpn; cases hpn
        have hk4 : H4 d = some (.dK kvs) := g14.h _ _ hk
        have gC : Grow B4 (upd H4 dd (.dT [])) B4 (upd (upd H4 dd (.dT [])) p (.tup [.non, .non, .ref dd])) := Grow.new0 gA.sub hpn
        have gB : Grow B4 (upd H4 dd (.dT [])) (upd B4 p (.tup [.non, .non, .ref dd])) (upd (upd H4 dd (.dT [])) p (.tup [.non, .non, .ref dd])) := Grow.new gA.sub hpn
        have g1C := (g14.trans gA).trans gC
        have g1B := (g14.trans gA).trans gB
        have g2C := ((g3.trans g4).trans gA).trans gC
        have g2B := ((g3.trans g4).trans gA).trans gB
        refine ⟨kvs, .inl s, g1C.h _ _ hk, rfl, Evl.sz_lt (by omega), fun v hv => ?_, fun hv => ?_⟩
        · obtain ⟨r', hr', hs'⟩ := L.has hv
          obtain ⟨p0, mv, nx, dd0, kts0, q1, q2, q3, q4, q5, q6, q7⟩ := L.yes s ⟨r', hr', hs'⟩
          have hmv : mv = .non := by
            have o := (Rw.ok_w (hok r' hr') hs').1
            have z := q7.1 r' hr' hs'
            cases r' with
            | m _ _ _ _ _ => cases o
            | w _ _ _ _ _ _ _ _ => exact z.1
          subst hmv
          refine cont _ B4 _ kvs p0 dd0 nx kts0 (e2.grow g2C) g1C.b (g1C.out d (by rw [hk]; intro z; cases z) dB1) (g1C.h _ _ hk) (by omega) q1 (g1C.b _ _ q2) (g1C.h _ _ q3) q4 (g1C.out _ (by rw [q3]; intro z; cases z) q5) q6 (q7.mono g1C.b) (fun st _ => rfl)
            (fun m k h1 h2 => g1C.out m (by rw [h1]; intro z; cases z) h2) (fun m k _ h1 => g1C.h _ _ h1) (fun st q m x hs h1 h2 => L.inj st s q p0 m x _ _ dd0 hs h1 h2 q1 q2) fin
        · have hne : ∀ r' ∈ rs.take i, r'.st ≠ s := fun r' h1 h2 => by
            obtain ⟨p0, _, _, _, _, q1, _⟩ := L.yes s ⟨r', h1, h2⟩
            rw [hv] at q1
            cases q1
          have dBB : (upd B4 p (.tup [.non, .non, .ref dd])) d = none := g1B.out d (by rw [hk]; intro z; cases z) dB1
          have hkB : (upd (upd H4 dd (.dT [])) p (.tup [.non, .non, .ref dd])) d = some (.dK kvs) := g1B.h _ _ hk
          have hddB : (upd (upd H4 dd (.dT [])) p (.tup [.non, .non, .ref dd])) dd = some (.dT []) := by rw [upd_ne npd.symm, upd_same]
          have ndd : dd ≠ d := ne_of hddB hkB (by intro z; cases z)
          refine cont _ (upd B4 p (.tup [.non, .non, .ref dd])) (upd (upd (upd H4 dd (.dT [])) p (.tup [.non, .non, .ref dd])) d (.dK (putK kvs (Sum.inl s) (.ref p)))) (putK kvs (Sum.inl s) (.ref p)) p dd .non [] ((e2.grow g2B).mutN rfl d0 dBB) g1B.b dBB upd_same ?_ ?_ upd_same ?_ (ex_none (e2.grow (g3.trans g4)).gr.h hdd) ?_ (Nat.zero_le _) (EntAt.none hne) (fun st hs => ?_)
            (fun m k h1 h2 => g1B.out m (by rw [h1]; intro z; cases z) h2) (fun m k _ h1 => ?_) (fun st q m x hs h1 h2 => ?_) fin
          · have := length_putK kvs (Sum.inl s) (.ref p)
            omega
          · rw [valV_put, if_pos rfl]
          · rw [upd_ne ndd]; exact hddB
          · rw [upd_ne npd.symm]; exact ex_none g4.sub hdd
          · rw [valV_put, if_neg (fun z => hs (Sum.inl.inj z))]
          · have h7 := g1B.h _ _ h1
            rw [upd_ne (ne_of h7 hkB (by intro z; cases z))]
            exact h7
          · obtain ⟨p', mv, nx, dd', kts', a1, a2, a3, a4, a5, _⟩ := L.yes st (L.has h1)
            rw [h1] at a1
            cases a1
            rw [h2] at a2
            cases a2
            have := g14.h _ _ a3
            rw [hdd] at this
            cases this
    · intro σ1 B1 H1 b1 ⟨e1, s1, dB1, kvs, hk, hkl, L⟩
      rw [List.length_map, List.take_length] at L
      have dA : addD H0 B1 H1 d = some (.dK kvs) := addD_K d0 dB1 hk
      refine ⟨.ref d, s1, k.rt (.ref d) (addD H0 B1 H1) H1 (.ob (TabAt rs)) ⟨e1.gr.b.trans addD_ex, e1.gr.h, addD_sub e1.gr.sub, fun l h1 h2 => addD_no (e1.gr.out l h1 h2) h1⟩ (b1.trans addD_ex) ⟨TabAt.mono, d, kvs, rfl, dA, L.no, fun r hr => ?_⟩ rfl⟩
      obtain ⟨p, mv, nx, dd, kts, a1, a2, a3, a4, a5, a6, a7⟩ := L.yes r.st ⟨r, hr, rfl⟩
      exact ⟨p, mv, nx, dd, kts, a1, addD_ex _ _ a2, addD_T a4 a5 a3, a7.mono addD_ex⟩
end
end BK
set_option maxRecDepth 100000
set_option maxHeartbeats 4000000
namespace BK
open PySem L2 DL CM
local macro_rules | `(tactic| walk_at "rd") => `(tactic| first
  | with_reducible exact rd_addI
  | with_reducible exact rd_sub
  | with_reducible exact rd_lt
  | with_reducible exact rd_le
  | with_reducible exact rd_gt
  | with_reducible exact rd_ge
  | with_reducible exact rd_eqI
  | with_reducible exact rd_neI
  | with_reducible exact rd_is
  | with_reducible exact rd_isNot
  | exact rd_mul (cmul_s (by omega) (by omega))
  | exact rd_mod (by first | decide | omega)
  | exact rd_fdv (by first | decide | omega)
  | exact rd_consI (by first | omega | (simp; omega) | simp)
  | exact rd_snocI (by first | omega | (simp; omega) | simp)
  | exact rd_catI (by first | omega | (simp; omega) | simp)
  | with_reducible exact rd_head0
  | with_reducible exact rd_ww
  | with_reducible exact rd_mm
  | with_reducible exact rd_wm
  | with_reducible exact rd_mw
  | with_reducible exact rd_nww
  | exact rd_ixT rfl
  | exact rd_ixL rfl
  | exact rd_addT (by first | decide | simp))
local macro_rules | `(tactic| walk_at "R") => `(tactic| first
  | exact ⟨_, _, _, rfl, rfl⟩
  | exact ⟨_, rfl, (by first | omega | (simp; omega) | simp), rfl⟩)
local macro_rules | `(tactic| walk_at "rc") => `(tactic| first
  | with_reducible exact rc_int
  | with_reducible exact rc_intB
  | with_reducible exact rc_lenT
  | with_reducible exact rc_lenL
  | with_reducible exact rc_abs
  | with_reducible exact rc_tupL
  | with_reducible exact rc_tupT)
local macro_rules | `(tactic| walk_at "ev") => `(tactic| first
  | with_reducible exact ev_int
  | with_reducible exact ev_non
  | with_reducible exact ev_bl
  | with_reducible exact ev_str
  | exact ev_var rfl
  | exact ev_ob rfl
  | ((with_reducible refine' ev_isi ?k1 ?k2); (case k1 => walk_at "ev"); (case k2 => first | exact kit_ii | exact kit_ib | exact kit_tt | exact kit_it))
  | ((with_reducible refine' ev_op ?k1 ?k2 ?k3); (case k1 => walk_at "ev"); (case k2 => walk_at "ev"); (case k3 => walk_at "rd"))
  | ((with_reducible refine' ev_un ?k1 ?k2); (case k1 => walk_at "ev"); (case k2 => exact ru_neg))
  | ((with_reducible refine' ev_cb ?k1 ?k2); (case k1 => walk_at "ed"); (case k2 => walk_at "rc"))
  | ((with_reducible refine' ev_tup ?k1 ?k2); (case k1 => walk_at "ed"); (case k2 => exact Nat.le_of_ble_eq_true rfl))
  | ((with_reducible refine' ev_andV ?k1 ?k2); (case k1 => walk_at "ev"); (case k2 => (intro _; walk_at "ev")))
  | ((with_reducible refine' ev_orV ?k1 ?k2); (case k1 => walk_at "ev"); (case k2 => (intro _; walk_at "ev")))
  | ((with_reducible refine' ev_notV ?k1); (case k1 => walk_at "ev"))
  | ((with_reducible refine' ev_chain ?k1 ?k2 ?k3 ?k4 ?k5); (case k1 => walk_at "ev"); (case k2 => walk_at "ev"); (case k3 => (intro _; walk_at "ev")); (case k4 => walk_at "rd"); (case k5 => walk_at "rd"))
  | ((with_reducible refine' ev_fld ?k1 ?k2); (case k1 => walk_at "ev"); (case k2 => walk_at "F"))
  | ((with_reducible refine' ev_meth ?k1 ?k2 ?k3 ?k4); (case k1 => walk_at "ev"); (case k2 => walk_at "I"); (case k3 => walk_at "ea"); (case k4 => walk_at "R"))
  | ((with_reducible refine' ev_call ?k1 ?k2); (case k1 => walk_at "ea"); (case k2 => walk_at "R"))
  | ((with_reducible refine' ev_sl1 ?k1); (case k1 => walk_at "ev"))
  | ((with_reducible refine' ev_sl ?k1 ?k2 ?k3); (case k1 => walk_at "ev"); (case k2 => walk_at "eo"); (case k3 => walk_at "eo"))
  | ((with_reducible refine' ev_ofL (el_sl ?k1 ?k2 ?k3)); (case k1 => walk_at "ev"); (case k2 => walk_at "eo"); (case k3 => walk_at "eo")))
local macro_rules | `(tactic| walk_at "eo") => `(tactic| first
  | with_reducible exact eo_none
  | ((with_reducible refine' eo_some ?k1); (case k1 => walk_at "ev")))
local macro_rules | `(tactic| walk_at "ed") => `(tactic| first
  | with_reducible exact ed_nil
  | ((with_reducible refine' ed_cons ?k1 ?k2); (case k1 => walk_at "ev"); (case k2 => walk_at "ed")))
local macro_rules | `(tactic| walk_at "ea") => `(tactic| first
  | with_reducible exact ea_nil
  | ((with_reducible refine' ea_cons ?k1 ?k2); (case k1 => walk_at "ev"); (case k2 => walk_at "ea")))
local macro_rules | `(tactic| walk_at "et") => `(tactic| first
  | ((with_reducible refine' et_test ?k1); (case k1 => walk_at "ev"))
  | ((with_reducible refine' et_B ?k1); (case k1 => walk_at "ev"))
  | ((with_reducible refine' et_not ?k1); (case k1 => walk_at "et"))
  | ((with_reducible refine' et_and ?k1 ?k2); (case k1 => walk_at "et"); (case k2 => (intro _; walk_at "et")))
  | ((with_reducible refine' et_or ?k1 ?k2); (case k1 => walk_at "et"); (case k2 => (intro _; walk_at "et"))))
local macro_rules | `(tactic| walk_at "give") => `(tactic| ((with_reducible refine' xs_give ?k1 ?_); (case k1 => walk_at "ev")))
local macro_rules | `(tactic| walk_at "ret") => `(tactic| ((with_reducible refine' xs_ret ?k1 ?_); (case k1 => walk_at "ev")))
local macro_rules | `(tactic| walk_at "tst") => `(tactic| ((with_reducible refine' et_tst ?k1 ?_); (case k1 => walk_at "ev")))
local macro_rules | `(tactic| walk_at "etto") => `(tactic| ((with_reducible refine' et_to ?k1 ?_); (case k1 => walk_at "et")))
local macro_rules | `(tactic| walk_at "evto") => `(tactic| ((with_reducible refine' ev_dto ?k1 ?_); (case k1 => walk_at "ev")))

section
variable {P : Program} {w : World} {K : PySem.W.Frag} {mg : Str → Option Value} {base : Heap}
/-! WL: a step by a table; a run. -/
def toI : PyData → Int
  | .int i => i
  | _ => 0
def toT : PyData → Tp
  | .tuple [.tuple l, .int m, .tuple r] => ⟨l.map toI, m, r.map toI⟩
  | _ => ⟨[], 0, []⟩
theorem toI_ints (l : List Int) : (l.map PyData.int).map toI = l := by
  rw [List.map_map]
  exact (List.map_congr_left fun a _ => rfl).trans (List.map_id l)
theorem toT_tp (t : Tp) : toT (tpD t) = t := by
  show (⟨(t.l.map PyData.int).map toI, t.m, (t.r.map PyData.int).map toI⟩ : Tp) = t
  rw [toI_ints, toI_ints]
def fMv : PyData → PyData
  | .tuple [t, .int d] => tpD (mv (toT t) d)
  | _ => .none
def fPut : PyData → PyData
  | .tuple [t, .int b] => tpD ⟨(toT t).l, b, (toT t).r⟩
  | _ => .none
def fMk (t : PyData) : PyData := .int (toT t).m
/-- what is written, by the marks read -/
def WrAt (rs : List Rw) (st : Int) (B : Hp) (v : V) : Prop := ∃ (dd : Addr) (kts : List (List Key × V)), v = .ref dd ∧ B dd = some (.dT kts) ∧
  (∀ a0 a1 a2 b0 b1 b2 n, Rw.w st a0 a1 a2 b0 b1 b2 n ∈ rs → ∃ q w, valV kts (keyI [a0, a1, a2]) = some (.ref q) ∧ B q = some (.tup [w, .int n]) ∧ DD B w (ti [b0, b1, b2])) ∧
  ∀ l, (∀ r ∈ rs, ¬ (r.st = st ∧ r.isW = true ∧ r.rd = l)) → valV kts (keyI l) = none
theorem WrAt.mono {rs : List Rw} {st : Int} : Mono (WrAt rs st) := fun B B' v e ⟨dd, kts, h1, h2, h3, h4⟩ =>
  ⟨dd, kts, h1, e _ _ h2, fun a0 a1 a2 b0 b1 b2 n h => by
    obtain ⟨q, w, z1, z2, z3⟩ := h3 a0 a1 a2 b0 b1 b2 n h
    exact ⟨q, w, z1, e _ _ z2, z3.mono e⟩, h4⟩
section
variable {δ : List Sl} {i j : Nat} {rs : List Rw} {st : Int} {te : TE} {O : Out}
theorem ev_noTab (hi : δ[i]? = some (.ob (TabAt rs))) (hj : δ[j]? = some (.d (.int st))) (h : ∀ r ∈ rs, r.st ≠ st) : EvX (tDNotIn (tVar j) (tVar i)) δ (.d (.bool true)) := fun B0 H0 B H σ e Q k => by
  obtain ⟨v, q1, q2⟩ := e.at_ j _ hj
  obtain ⟨u, p1, _, d, kvs, rfl, h2, h3, h4⟩ := e.at_ i _ hi
  cases q2
  refine ⟨_, q1, _, p1, d, none, rfl, ?_, k _ B H (Grow.refl e.gr.sub) (DD.bl _)⟩
  have z := DGet.k (k := Sum.inl st) (e.gr.sub _ _ h2)
  rw [h3 st h] at z
  exact z
theorem ev_inTab (hi : δ[i]? = some (.ob (TabAt rs))) (hj : δ[j]? = some (.d (.int st))) {r : Rw} (hr : r ∈ rs) (h : r.st = st) : EvX (tDNotIn (tVar j) (tVar i)) δ (.d (.bool false)) := fun B0 H0 B H σ e Q k => by
  obtain ⟨v, q1, q2⟩ := e.at_ j _ hj
  obtain ⟨u, p1, _, d, kvs, rfl, h2, h3, h4⟩ := e.at_ i _ hi
  cases q2
  obtain ⟨p, mv, nx, dd, kts, a1, _⟩ := h4 r hr
  refine ⟨_, q1, _, p1, d, some (.ref p), rfl, ?_, k _ B H (Grow.refl e.gr.sub) (DD.bl _)⟩
  have z := DGet.k (k := Sum.inl st) (e.gr.sub _ _ h2)
  rw [← h, a1, h] at z
  exact z
/-- moves, following, writing = table[state] -/
theorem xs_tabM (hi : δ[i]? = some (.ob (TabAt rs))) (hj : δ[j]? = some (.d (.int st))) {d0 d1 d2 n : Int} (hr : Rw.m st d0 d1 d2 n ∈ rs) {x y z : Nat} (q : O.nx (((δ.set x (.d (ti [d0, d1, d2]))).set y (.d (.int n))).set z .no)) :
    ExS (tAsg (tDGet (tVar i) (tVar j)) (gTup K 3 (gCons (gName x) (gCons (gName y) (gCons (gName z) gNil))))) δ O := fun B0 H0 B H σ e D k => by
  obtain ⟨v, q1, q2⟩ := e.at_ j _ hj
  obtain ⟨u, p1, _, d, kvs, rfl, h2, h3, h4⟩ := e.at_ i _ hi
  cases q2
  obtain ⟨p, mv, nx, dd, kts, a1, a2, a3, a4⟩ := h4 _ hr
  have z := DGet.k (k := Sum.inl st) (e.gr.sub _ _ h2)
  rw [show valV kvs (Sum.inl st) = some (.ref p) from a1] at z
  obtain ⟨b1, rfl⟩ := a4.1 _ hr rfl
  exact ⟨_, p1, _, q1, d, _, rfl, z, p, _, rfl, SqT.of (e.gr.sub _ _ a2), rfl, _, _, rfl, _, _, rfl, _, _, rfl, rfl, k.nx _ B H _ (((e.set x (r := .d (ti [d0, d1, d2])) b1).set y (r := .d (.int n)) (DD.int n)).set _ (r := .no) trivial) Ex.rfl q⟩
theorem xs_tabW (hi : δ[i]? = some (.ob (TabAt rs))) (hj : δ[j]? = some (.d (.int st))) {r : Rw} (hr : r ∈ rs) (hs : r.st = st) (hw : r.isW = true) {x y z : Nat} (q : O.nx (((δ.set x (.d .none)).set y .no).set z (.ob (WrAt rs st)))) :
    ExS (tAsg (tDGet (tVar i) (tVar j)) (gTup K 3 (gCons (gName x) (gCons (gName y) (gCons (gName z) gNil))))) δ O := fun B0 H0 B H σ e D k => by
  subst hs
  obtain ⟨v, q1, q2⟩ := e.at_ j _ hj
  obtain ⟨u, p1, _, d, kvs, rfl, h2, h3, h4⟩ := e.at_ i _ hi
  cases q2
  obtain ⟨p, mv, nx, dd, kts, a1, a2, a3, a4⟩ := h4 _ hr
  have z := DGet.k (k := Sum.inl r.st) (e.gr.sub _ _ h2)
  rw [show valV kvs (Sum.inl r.st) = some (.ref p) from a1] at z
  have hmv : mv = .non := by
    have z := a4.1 r hr rfl
    cases r with
    | m _ _ _ _ _ => cases hw
    | w _ _ _ _ _ _ _ _ => exact z.1
  subst hmv
  refine ⟨_, p1, _, q1, d, _, rfl, z, p, _, rfl, SqT.of (e.gr.sub _ _ a2), rfl, _, _, rfl, _, _, rfl, _, _, rfl, rfl, k.nx _ B H _ (((e.set x (r := .d .none) DD.non).set y (r := .no) trivial).set _ (r := .ob (WrAt rs r.st)) ⟨WrAt.mono, dd, kts, rfl, a3, fun a0 a1 a2 b0 b1 b2 n h => ?_, a4.2⟩) Ex.rfl q⟩
  obtain ⟨_, q, w, z1, z2, z3⟩ := a4.1 _ h rfl
  exact ⟨q, w, z1, z2, z3⟩
theorem ev_getW {l : List Int} {d : PyData} (hi : δ[i]? = some (.ob (WrAt rs st))) (he : EvX te δ (.d (ti l)))
    (h : (∃ a0 a1 a2 b0 b1 b2 n, Rw.w st a0 a1 a2 b0 b1 b2 n ∈ rs ∧ l = [a0, a1, a2] ∧ d = .tuple [ti [b0, b1, b2], .int n]) ∨ ((∀ r ∈ rs, ¬ (r.st = st ∧ r.isW = true ∧ r.rd = l)) ∧ d = .none)) : EvX (tDGet1 (tVar i) te) δ (.d d) := fun B0 H0 B H σ e Q k => by
  obtain ⟨u, p1, _, dd, kts, rfl, h2, h3, h4⟩ := e.at_ i _ hi
  refine ⟨_, p1, dd, rfl, .inr ⟨kts, Rd.of (e.gr.sub _ _ h2)⟩, he _ _ _ _ _ e _ fun v B1 H1 g1 hv => ?_⟩
  cases hv with
  | tup a1 a2 =>
    have e1 := dds_ints_inv a2
    subst e1
    have z := DGet.t (k := keyI l) (g1.sub _ _ (g1.b _ _ h2)) (by rw [keyI_kV]; exact g1.sub _ _ a1)
    rcases h with ⟨x0, x1, x2, b0, b1, b2, n, hm, rfl, rfl⟩ | ⟨hn, rfl⟩
    · obtain ⟨q, w, z1, z2, z3⟩ := h3 _ _ _ _ _ _ _ hm
      rw [z1] at z
      exact ⟨_, z, k _ B1 H1 g1 (DD.tup (g1.b _ _ z2) (.cons (z3.mono g1.b) (.cons (.int n) .nil)))⟩
    · rw [h4 l hn] at z
      exact ⟨_, z, k _ B1 H1 g1 DD.non⟩
end
def lenOk (n : Nat) (c : Cf) : Prop := c.t0.l.length ≤ n ∧ c.t0.r.length ≤ n ∧ c.t1.l.length ≤ n ∧ c.t1.r.length ≤ n ∧ c.t2.l.length ≤ n ∧ c.t2.r.length ≤ n
def R_taken (as : List Sl) (r : Sl) : Prop := ∃ (rs : List Rw) (c : Cf), as = [.ob (TabAt rs), .d (cfD c)] ∧ lenOk 80000 c ∧
  ((∃ rw ∈ rs, rw.on c ∧ r = .d (cfD (rw.go c))) ∨ ((∀ rw ∈ rs, ¬ rw.on c) ∧ r = .d .none))
theorem R_taken_len (as : List Sl) (r : Sl) (h : R_taken as r) : as.length = 2 := by obtain ⟨_, _, rfl, _⟩ := h; rfl
theorem mem3 {a b c d : PyData} (h : d ∈ [a, b, c]) : d = a ∨ d = b ∨ d = c := by simpa using h
theorem ev_mvd {δ : List Sl} {i j : Nat} {t : Tp} {e : Int} {E : XK} (hi : δ[i]? = some (.d (tpD t))) (hj : δ[j]? = some (.d (.int e))) (h1 : t.l.length ≤ 80000) (h2 : t.r.length ≤ 80000) :
    EvX (tCall (spR R_moved_tape) [] E (tCons (tVar i) (tCons (tVar j) tNil))) δ (.d (fMv (.tuple [tpD t, .int e]))) := by
  rw [show fMv (.tuple [tpD t, .int e]) = tpD (mv t e) from (congrArg (fun u => tpD (mv u e)) (toT_tp t) : tpD (mv (toT (tpD t)) e) = _)]
  exact ev_call (ea_cons (ev_var hi) (ea_cons (ev_var hj) ea_nil)) ⟨t, e, rfl, h1, h2, rfl⟩
theorem ev_putd {δ : List Sl} {i j : Nat} {t : Tp} {e : Int} (hi : δ[i]? = some (.d (tpD t))) (hj : δ[j]? = some (.d (.int e))) :
    EvX (tTup (tCons (tOp (rIx K) (tVar i) (tC (.int 0))) (tCons (tVar j) (tCons (tOp (rIx K) (tVar i) (tC (.int 2))) tNil)))) δ (.d (fPut (.tuple [tpD t, .int e]))) := by
  rw [show fPut (.tuple [tpD t, .int e]) = .tuple [ti t.l, .int e, ti t.r] from (congrArg (fun u : Tp => tpD ⟨u.l, e, u.r⟩) (toT_tp t) : tpD ⟨(toT (tpD t)).l, e, (toT (tpD t)).r⟩ = _)]
  exact ev_tup (ed_cons (ev_op (ev_var hi) ev_int (rd_ixT rfl)) (ed_cons (ev_var hj) (ed_cons (ev_op (ev_var hi) ev_int (rd_ixT rfl)) ed_nil))) (Nat.le_of_ble_eq_true rfl)
theorem ok_taken (T : Txt K mg) : FnOk P w K mg base CX0 3 T.taken.f T.taken.fd P_taken (spR R_taken) := by
  refine T.taken.F.ok sc_taken (fun vs H Q E h => ?_) (fun cdv A outer s H vs Q E hr h => ?_)
  · exact spR_len (R_taken_len) h
  · refine ⟨_, (pss_cons (ps_asg (pv 1) (k_pgT (K := K) (n := 2) rfl rfl (pgs_cons (pg_name (i := 3) sc_taken.nd rfl (Or.inl rfl)) (pgs_cons (pg_name (i := 4) sc_taken.nd rfl (Or.inl rfl)) pgs_nil))))
    (pss_cons (ps_if (pt_cmp (pc_dnotin (hu_of hr) (pv 3) (pv 0))) (pss_one (ps_ret pe_non)) pss_nil)
    (pss_cons (ps_asg (pe_dget (hu_of hr) (pv 0) (pv 3) (fun _ _ => rfl)) (k_pgT (K := K) (n := 3) rfl rfl (pgs_cons (pg_name (i := 5) sc_taken.nd rfl (Or.inl rfl)) (pgs_cons (pg_name (i := 6) sc_taken.nd rfl (Or.inl rfl)) (pgs_cons (pg_name (i := 7) sc_taken.nd rfl (Or.inl rfl)) pgs_nil)))))
    (pss_cons (ps_if (pt_cmpR (op_isNotG) (pv 5) pe_non (nomark _)) (pss_one (ps_ret (pe_tup (pa_cons (pv 6) (pa_cons (pe_callTy (k_tup (K := K) rfl) (by rfl) T.b_tuple (by decide +kernel) (pa_cons (pe_lc (own := [("tape", 8), ("move", 10)]) rfl sc_taken.nd (k_piZ (K := K) rfl rfl T.b_zip (pa_cons (pv 4) (pa_cons (pv 5) pa_nil))) (blkOk_by (own := [("tape", 8), ("move", 10)]) (N := N_taken) (sc := defScope s_taken) (by decide +kernel)) (fun _ _ _ _ _ => (k_pgT (K := K) (n := 2) rfl rfl (pgs_cons (pg_name (i := 8) sc_taken.nd rfl (Or.inl rfl)) (pgs_cons (pg_name (i := 10) sc_taken.nd rfl (Or.inl rfl)) pgs_nil)))) (fun _ _ _ _ _ => pts_nil) (fun _ _ _ _ _ => (pe_call (ok_moved_tape T) (hr.mono (by decide)) (by rfl) T.moved_tape.g T.moved_tape.F.kp T.moved_tape.b .nil pass0 (pa_cons (pv 8) (pa_cons (pv 10) pa_nil))))) pa_nil)) pa_nil))))) pss_nil)
    (pss_cons (ps_set (i := 2) sc_taken.nd rfl (Or.inl rfl) (pe_dget1 (hu_of hr) (pv 7) (pe_callTy (k_tup (K := K) rfl) (by rfl) T.b_tuple (by decide +kernel) (pa_cons (pe_lc (own := [("tape", 8)]) rfl sc_taken.nd (k_piT (K := K) rfl (pv 4)) (blkOk_by (own := [("tape", 8)]) (N := N_taken) (sc := defScope s_taken) (by decide +kernel)) (fun _ _ _ _ _ => (pg_name (i := 8) sc_taken.nd rfl (Or.inl rfl))) (fun _ _ _ _ _ => pts_nil) (fun _ _ _ _ _ => (pe_ix (k_ix (K := K) rfl) (pv 8) pe_int (fun _ _ => rfl)))) pa_nil)) ⟨rfl, rfl, rfl, rfl⟩))
    (pss_cons (ps_if (pt_cmpR (op_isG) (pv 2) pe_non (nomark _)) (pss_one (ps_ret pe_non)) pss_nil)
    (pss_one (ps_ret (pe_tup (pa_cons (pe_ix (k_ix (K := K) rfl) (pv 2) pe_int (fun _ _ => rfl)) (pa_cons (pe_callTy (k_tup (K := K) rfl) (by rfl) T.b_tuple (by decide +kernel) (pa_cons (pe_lc (own := [("tape", 8), ("mark", 9)]) rfl sc_taken.nd (k_piZ (K := K) rfl rfl T.b_zip (pa_cons (pv 4) (pa_cons (pe_ix (k_ix (K := K) rfl) (pv 2) pe_int (fun _ _ => rfl)) pa_nil))) (blkOk_by (own := [("tape", 8), ("mark", 9)]) (N := N_taken) (sc := defScope s_taken) (by decide +kernel)) (fun _ _ _ _ _ => (k_pgT (K := K) (n := 2) rfl rfl (pgs_cons (pg_name (i := 8) sc_taken.nd rfl (Or.inl rfl)) (pgs_cons (pg_name (i := 9) sc_taken.nd rfl (Or.inl rfl)) pgs_nil)))) (fun _ _ _ _ _ => pts_nil) (fun _ _ _ _ _ => (pe_tup (pa_cons (pe_ix (k_ix (K := K) rfl) (pv 8) pe_int (fun _ _ => rfl)) (pa_cons (pv 9) (pa_cons (pe_ix (k_ix (K := K) rfl) (pv 8) pe_int (fun _ _ => rfl)) pa_nil)))))) pa_nil)) pa_nil))))))))))), ?_⟩
    refine spR_run h (fun as r hR => ?_)
    obtain ⟨rs, c, rfl, hl, hh⟩ := hR
    obtain ⟨l0, r0, l1, r1, l2, r2⟩ := hl
    refine xs_giveG (ev_var rfl) (eg_tup (by rfl) (egs_cons eg_name (egs_cons eg_name egs_nil))) ?_
    have gets : ∀ δ2 : List Sl, δ2.length = 11 → δ2[4]? = some (.d (.tuple [tpD c.t0, tpD c.t1, tpD c.t2])) → EvX (tCB (rTupG K) (tCons (tLc (iTup K (tVar 4)) (gName 8) tYes (tOp (rIx K) (tVar 8) (tC (.int 1))) [8]) tNil)) δ2 (.d (ti [c.t0.m, c.t1.m, c.t2.m])) := fun δ2 hl h4 => by
      refine ev_dto (ev_cb (ed_cons (ev_ofL (el_lc1 fMk (ei_tup (ev_var h4)) (by simp) fun d hd => ⟨_, _, eg_name, fun i h => h, ?_⟩)) ed_nil) rc_tupL) ?_
      · have g8 : ((wipeD δ2 [8]).set 8 (.d d))[8]? = some (.d d) := List.getElem?_set_self (by simp [wipeD]; omega)
        rcases mem3 hd with rfl | rfl | rfl
        · exact ev_op (ev_var g8) ev_int (by rw [show fMk (tpD c.t0) = .int c.t0.m by unfold fMk; rw [toT_tp]]; exact rd_ixT rfl)
        · exact ev_op (ev_var g8) ev_int (by rw [show fMk (tpD c.t1) = .int c.t1.m by unfold fMk; rw [toT_tp]]; exact rd_ixT rfl)
        · exact ev_op (ev_var g8) ev_int (by rw [show fMk (tpD c.t2) = .int c.t2.m by unfold fMk; rw [toT_tp]]; exact rd_ixT rfl)
      · simp only [List.map_cons, List.map_nil, fMk, toT_tp]
        rfl
    rcases hh with ⟨rw, h1, h2, rfl⟩ | ⟨h1, rfl⟩
    · cases rw with
      | m st d0 d1 d2 n =>
        have hs : c.st = st := h2
        subst hs
        refine xs_skip (et_tsB (ev_inTab rfl rfl h1 rfl) rfl) ?_
        refine xs_seq (xs_tabM rfl rfl h1 ?_)
        refine xs_seq (xs_if1 (et_tsB (ev_op (ev_var rfl) ev_non rd_isNot) rfl) ?_)
        refine xs_ret (ev_tup (ed_cons (ev_var rfl) (ed_cons (ev_dto (b := .tuple [tpD (mv c.t0 d0), tpD (mv c.t1 d1), tpD (mv c.t2 d2)]) (ev_cb (ed_cons (ev_ofL (el_lc1 fMv (ei_zipT (ed_cons (ev_var rfl) (ed_cons (ev_var rfl) ed_nil))) ?_ ?_)) ed_nil) rc_tupL) ?_) ed_nil)) (Nat.le_of_ble_eq_true rfl)) ?_
        · simp [zipD]
        · intro d hd
          rcases mem3 hd with rfl | rfl | rfl
          · exact ⟨_, _, eg_tup (by rfl) (egs_cons eg_name (egs_cons eg_name egs_nil)), by simp, ev_mvd rfl rfl l0 r0⟩
          · exact ⟨_, _, eg_tup (by rfl) (egs_cons eg_name (egs_cons eg_name egs_nil)), by simp, ev_mvd rfl rfl l1 r1⟩
          · exact ⟨_, _, eg_tup (by rfl) (egs_cons eg_name (egs_cons eg_name egs_nil)), by simp, ev_mvd rfl rfl l2 r2⟩
        · show PyData.tuple ((zipD _ _).map fMv) = _
          simp only [zipD, List.zipWith, List.map_cons, List.map_nil, fMv, toT_tp]
        · rfl
      | w st a0 a1 a2 b0 b1 b2 n =>
        obtain ⟨hs, e0, e1, e2⟩ := h2
        subst hs
        refine xs_skip (et_tsB (ev_inTab rfl rfl h1 rfl) rfl) ?_
        refine xs_seq (xs_tabW rfl rfl h1 rfl rfl ?_)
        refine xs_skip (et_tsB (ev_op (ev_var rfl) ev_non rd_isNot) rfl) ?_
        refine xs_give (ev_getW rfl (gets _ rfl rfl) (.inl ⟨_, _, _, _, _, _, _, h1, by rw [e0, e1, e2], rfl⟩)) ?_
        refine xs_skip (et_tsB (ev_op (ev_var rfl) ev_non rd_is) rfl) ?_
        refine xs_ret (ev_tup (ed_cons (ev_op (ev_var rfl) ev_int (rd_ixT rfl)) (ed_cons (ev_dto (b := .tuple [tpD ⟨c.t0.l, b0, c.t0.r⟩, tpD ⟨c.t1.l, b1, c.t1.r⟩, tpD ⟨c.t2.l, b2, c.t2.r⟩]) (ev_cb (ed_cons (ev_ofL (el_lc1 fPut (ei_zipT (ed_cons (ev_var rfl) (ed_cons (ev_op (ev_var rfl) ev_int (rd_ixT rfl)) ed_nil))) ?_ ?_)) ed_nil) rc_tupL) ?_) ed_nil)) (Nat.le_of_ble_eq_true rfl)) ?_
        · simp [zipD]
        · intro d hd
          rcases mem3 hd with rfl | rfl | rfl
          · exact ⟨_, _, eg_tup (by rfl) (egs_cons eg_name (egs_cons eg_name egs_nil)), by simp, ev_putd rfl rfl⟩
          · exact ⟨_, _, eg_tup (by rfl) (egs_cons eg_name (egs_cons eg_name egs_nil)), by simp, ev_putd rfl rfl⟩
          · exact ⟨_, _, eg_tup (by rfl) (egs_cons eg_name (egs_cons eg_name egs_nil)), by simp, ev_putd rfl rfl⟩
        · show PyData.tuple ((zipD _ _).map fPut) = _
          simp only [zipD, List.zipWith, List.map_cons, List.map_nil, fPut, toT_tp]
        · rfl
    · by_cases hno : ∀ rw ∈ rs, rw.st ≠ c.st
      · exact xs_seq (xs_if1 (et_tsB (ev_noTab rfl rfl hno) rfl) (xs_ret ev_non rfl))
      · have ⟨rw0, hm0, hs0⟩ : ∃ rw ∈ rs, rw.st = c.st := by
          refine Classical.byContradiction fun z => hno fun rw h1 h2 => z ⟨rw, h1, h2⟩
        have hw0 : rw0.isW = true := by
          cases rw0 with
          | m st d0 d1 d2 n => exact absurd hs0.symm (h1 _ hm0)
          | w _ _ _ _ _ _ _ _ => rfl
        refine xs_skip (et_tsB (ev_inTab rfl rfl hm0 hs0) rfl) ?_
        refine xs_seq (xs_tabW rfl rfl hm0 hs0 hw0 ?_)
        refine xs_skip (et_tsB (ev_op (ev_var rfl) ev_non rd_isNot) rfl) ?_
        refine xs_give (ev_getW rfl (gets _ rfl rfl) (.inr ⟨fun r hr ⟨a, b, e⟩ => ?_, rfl⟩)) ?_
        · cases r with
          | m _ _ _ _ _ => cases b
          | w st a0 a1 a2 b0 b1 b2 n =>
            simp [Rw.rd] at e
            exact h1 _ hr ⟨a.symm, e.1.symm, e.2.1.symm, e.2.2.symm⟩
        · exact xs_seq (xs_if1 (et_tsB (ev_op (ev_var rfl) ev_non rd_is) rfl) (xs_ret ev_non rfl))
end
end BK
set_option maxRecDepth 100000
set_option maxHeartbeats 4000000
namespace BK
open PySem L2 DL CM
local macro_rules | `(tactic| walk_at "rd") => `(tactic| first
  | with_reducible exact rd_addI
  | with_reducible exact rd_sub
  | with_reducible exact rd_lt
  | with_reducible exact rd_le
  | with_reducible exact rd_gt
  | with_reducible exact rd_ge
  | with_reducible exact rd_eqI
  | with_reducible exact rd_neI
  | with_reducible exact rd_is
  | with_reducible exact rd_isNot
  | exact rd_mul (cmul_s (by omega) (by omega))
  | exact rd_mod (by first | decide | omega)
  | exact rd_fdv (by first | decide | omega)
  | exact rd_consI (by first | omega | (simp; omega) | simp)
  | exact rd_snocI (by first | omega | (simp; omega) | simp)
  | exact rd_catI (by first | omega | (simp; omega) | simp)
  | with_reducible exact rd_head0
  | with_reducible exact rd_ww
  | with_reducible exact rd_mm
  | with_reducible exact rd_wm
  | with_reducible exact rd_mw
  | with_reducible exact rd_nww
  | exact rd_ixT rfl
  | exact rd_ixL rfl
  | exact rd_addT (by first | decide | simp))
local macro_rules | `(tactic| walk_at "R") => `(tactic| first
  | exact ⟨_, _, _, rfl, rfl⟩
  | exact ⟨_, rfl, (by first | omega | (simp; omega) | simp), rfl⟩)
local macro_rules | `(tactic| walk_at "rc") => `(tactic| first
  | with_reducible exact rc_int
  | with_reducible exact rc_intB
  | with_reducible exact rc_lenT
  | with_reducible exact rc_lenL
  | with_reducible exact rc_abs
  | with_reducible exact rc_tupL
  | with_reducible exact rc_tupT)
local macro_rules | `(tactic| walk_at "ev") => `(tactic| first
  | with_reducible exact ev_int
  | with_reducible exact ev_non
  | with_reducible exact ev_bl
  | with_reducible exact ev_str
  | exact ev_var rfl
  | exact ev_ob rfl
  | ((with_reducible refine' ev_isi ?k1 ?k2); (case k1 => walk_at "ev"); (case k2 => first | exact kit_ii | exact kit_ib | exact kit_tt | exact kit_it))
  | ((with_reducible refine' ev_op ?k1 ?k2 ?k3); (case k1 => walk_at "ev"); (case k2 => walk_at "ev"); (case k3 => walk_at "rd"))
  | ((with_reducible refine' ev_un ?k1 ?k2); (case k1 => walk_at "ev"); (case k2 => exact ru_neg))
  | ((with_reducible refine' ev_cb ?k1 ?k2); (case k1 => walk_at "ed"); (case k2 => walk_at "rc"))
  | ((with_reducible refine' ev_tup ?k1 ?k2); (case k1 => walk_at "ed"); (case k2 => exact Nat.le_of_ble_eq_true rfl))
  | ((with_reducible refine' ev_andV ?k1 ?k2); (case k1 => walk_at "ev"); (case k2 => (intro _; walk_at "ev")))
  | ((with_reducible refine' ev_orV ?k1 ?k2); (case k1 => walk_at "ev"); (case k2 => (intro _; walk_at "ev")))
  | ((with_reducible refine' ev_notV ?k1); (case k1 => walk_at "ev"))
  | ((with_reducible refine' ev_chain ?k1 ?k2 ?k3 ?k4 ?k5); (case k1 => walk_at "ev"); (case k2 => walk_at "ev"); (case k3 => (intro _; walk_at "ev")); (case k4 => walk_at "rd"); (case k5 => walk_at "rd"))
  | ((with_reducible refine' ev_fld ?k1 ?k2); (case k1 => walk_at "ev"); (case k2 => walk_at "F"))
  | ((with_reducible refine' ev_meth ?k1 ?k2 ?k3 ?k4); (case k1 => walk_at "ev"); (case k2 => walk_at "I"); (case k3 => walk_at "ea"); (case k4 => walk_at "R"))
  | ((with_reducible refine' ev_call ?k1 ?k2); (case k1 => walk_at "ea"); (case k2 => walk_at "R"))
  | ((with_reducible refine' ev_sl1 ?k1); (case k1 => walk_at "ev"))
  | ((with_reducible refine' ev_sl ?k1 ?k2 ?k3); (case k1 => walk_at "ev"); (case k2 => walk_at "eo"); (case k3 => walk_at "eo"))
  | ((with_reducible refine' ev_ofL (el_sl ?k1 ?k2 ?k3)); (case k1 => walk_at "ev"); (case k2 => walk_at "eo"); (case k3 => walk_at "eo")))
local macro_rules | `(tactic| walk_at "eo") => `(tactic| first
  | with_reducible exact eo_none
  | ((with_reducible refine' eo_some ?k1); (case k1 => walk_at "ev")))
local macro_rules | `(tactic| walk_at "ed") => `(tactic| first
  | with_reducible exact ed_nil
  | ((with_reducible refine' ed_cons ?k1 ?k2); (case k1 => walk_at "ev"); (case k2 => walk_at "ed")))
local macro_rules | `(tactic| walk_at "ea") => `(tactic| first
  | with_reducible exact ea_nil
  | ((with_reducible refine' ea_cons ?k1 ?k2); (case k1 => walk_at "ev"); (case k2 => walk_at "ea")))
local macro_rules | `(tactic| walk_at "et") => `(tactic| first
  | ((with_reducible refine' et_test ?k1); (case k1 => walk_at "ev"))
  | ((with_reducible refine' et_B ?k1); (case k1 => walk_at "ev"))
  | ((with_reducible refine' et_not ?k1); (case k1 => walk_at "et"))
  | ((with_reducible refine' et_and ?k1 ?k2); (case k1 => walk_at "et"); (case k2 => (intro _; walk_at "et")))
  | ((with_reducible refine' et_or ?k1 ?k2); (case k1 => walk_at "et"); (case k2 => (intro _; walk_at "et"))))
local macro_rules | `(tactic| walk_at "give") => `(tactic| ((with_reducible refine' xs_give ?k1 ?_); (case k1 => walk_at "ev")))
local macro_rules | `(tactic| walk_at "ret") => `(tactic| ((with_reducible refine' xs_ret ?k1 ?_); (case k1 => walk_at "ev")))
local macro_rules | `(tactic| walk_at "tst") => `(tactic| ((with_reducible refine' et_tst ?k1 ?_); (case k1 => walk_at "ev")))
local macro_rules | `(tactic| walk_at "etto") => `(tactic| ((with_reducible refine' et_to ?k1 ?_); (case k1 => walk_at "et")))
local macro_rules | `(tactic| walk_at "evto") => `(tactic| ((with_reducible refine' ev_dto ?k1 ?_); (case k1 => walk_at "ev")))

section
variable {P : Program} {w : World} {K : PySem.W.Frag} {mg : Str → Option Value} {base : Heap}
/-! WM: a run by a table; the machine of several tapes. -/
def R_run (as : List Sl) (r : Sl) : Prop := ∃ (rs : List Rw) (f : Nat → Cf) (n k : Nat), as = [.ob (TabAt rs), .d (cfD (f 0)), .d (.int n)] ∧ n ≤ 100000 ∧ k ≤ n ∧ (∀ i, i ≤ k → lenOk 80000 (f i)) ∧
  (∀ i, i < k → ∃ rw ∈ rs, rw.on (f i) ∧ f (i + 1) = rw.go (f i)) ∧ (k = n ∨ ∀ rw ∈ rs, ¬ rw.on (f k)) ∧ r = .d (.tuple [cfD (f k), .int k])
theorem R_run_len (as : List Sl) (r : Sl) (h : R_run as r) : as.length = 3 := by obtain ⟨_, _, _, _, rfl, _⟩ := h; rfl
theorem ok_run (T : Txt K mg) : FnOk P w K mg base CX0 4 T.run.f T.run.fd P_run (spR R_run) := by
  refine T.run.F.ok sc_run (fun vs H Q E h => ?_) (fun cdv A outer s H vs Q E hr h => ?_)
  · exact spR_len (R_run_len) h
  · refine ⟨_, (pss_cons (ps_for PassesOwn.never rfl (pi_range1 rfl T.b_range (pa_cons (pv 2) pa_nil)) (pg_name (i := 3) sc_run.nd rfl (Or.inl rfl)) (pss_cons (ps_set (i := 4) sc_run.nd rfl (Or.inl rfl) (pe_call (ok_taken T) (hr.mono (by decide)) (by rfl) T.taken.g T.taken.F.kp T.taken.b .nil pass0 (pa_cons (pv 0) (pa_cons (pv 1) pa_nil))))
      (pss_cons (ps_if (pt_cmpR (op_isG) (pv 4) pe_non (nomark _)) (pss_one (ps_ret (pe_tup (pa_cons (pv 1) (pa_cons (pv 3) pa_nil))))) pss_nil)
      (pss_one (ps_set (i := 1) sc_run.nd rfl (Or.inl rfl) (pv 4))))))
    (pss_one (ps_ret (pe_tup (pa_cons (pv 1) (pa_cons (pv 2) pa_nil)))))), ?_⟩
    refine spR_run h (fun as r hR => ?_)
    obtain ⟨rs, f, n, k, rfl, hn, hk, hl, hf, he, rfl⟩ := hR
    refine xs_seq (xs_for (ei_rngN (ed_cons (ev_var rfl) ed_nil) hn) (fun i δ => i ≤ k ∧ ∃ a b, δ = [.ob (TabAt rs), .d (cfD (f i)), .d (.int n), a, b]) ⟨Nat.zero_le _, _, _, rfl⟩ ?_ ?_)
    · rintro i d δ1 hd ⟨hi, a, b, rfl⟩
      obtain ⟨hin, rfl⟩ := rgN_get hd
      refine ⟨_, _, eg_name, ?_⟩
      by_cases q : i < k
      · obtain ⟨rw, h1, h2, h3⟩ := hf i q
        refine xs_give (ev_call (ea_cons (ev_ob rfl) (ea_cons (ev_var rfl) ea_nil)) ⟨rs, f i, rfl, hl i hi, .inl ⟨rw, h1, h2, rfl⟩⟩) ?_
        refine xs_skip (et_tst (ev_op (ev_var rfl) ev_non rd_is) rfl) ?_
        refine xs_asg (ev_var rfl) eg_name ⟨q, .d (.int (i : Int)), .d (cfD (rw.go (f i))), ?_⟩
        rw [h3]
        rfl
      · have : i = k := by omega
        subst this
        have hno := he.resolve_left (by omega)
        refine xs_give (ev_call (ea_cons (ev_ob rfl) (ea_cons (ev_var rfl) ea_nil)) ⟨rs, f i, rfl, hl i hi, .inr ⟨hno, rfl⟩⟩) ?_
        exact xs_seq (xs_if1 (et_tst (ev_op (ev_var rfl) ev_non rd_is) rfl) (xs_ret (ev_tup (ed_cons (ev_var rfl) (ed_cons (ev_var rfl) ed_nil)) (Nat.le_of_ble_eq_true rfl)) rfl))
    · rintro δ1 ⟨hi, a, b, rfl⟩
      rw [rgN_length] at hi
      have : k = n := by omega
      subst this
      rw [rgN_length]
      exact xs_ret (ev_tup (ed_cons (ev_var rfl) (ed_cons (ev_var rfl) ed_nil)) (Nat.le_of_ble_eq_true rfl)) rfl
/-- a machine of three tapes -/
abbrev SevF (rs : List Rw) : List (Str × Sl) := [("_back_clash", .d .none), ("_by_state", .ob (TabAt rs)), ("_by_next", .ob (TabAt (rs.map Rw.bw)))]
abbrev SevN : List Str := ["_is_row", "step", "stopped", "run", "back", "run_back", "_check_back"]
abbrev SevAt (C : Addr) (rs : List Rw) : Hp → V → Prop := InsAt C (SevF rs) SevN
section
variable (T : Txt K mg) {rs : List Rw}
theorem sev_clash : HasF K "_back_clash" (SevAt T.C_Several rs) (.d .none) := InsAt.hasF (.head _) T.cl_Several T.n_Several_back_clash
theorem sev_state : HasF K "_by_state" (SevAt T.C_Several rs) (.ob (TabAt rs)) := InsAt.hasF (.tail _ (.head _)) T.cl_Several T.n_Several_by_state
theorem sev_next : HasF K "_by_next" (SevAt T.C_Several rs) (.ob (TabAt (rs.map Rw.bw))) := InsAt.hasF (.tail _ (.tail _ (.head _))) T.cl_Several T.n_Several_by_next
theorem sev_m {m : Str} (h : m ∈ SevN) : IsIns T.C_Several m (SevAt T.C_Several rs) := InsAt.isIns h
end
def R_Several_step (T : Txt K mg) (as : List Sl) (r : Sl) : Prop := ∃ (rs : List Rw) (c : Cf), as = [.ob (SevAt T.C_Several rs), .d (cfD c)] ∧ R_taken [.ob (TabAt rs), .d (cfD c)] r
theorem R_Several_step_len (T : Txt K mg) (as : List Sl) (r : Sl) (h : R_Several_step T as r) : as.length = 2 := by obtain ⟨_, _, rfl, _⟩ := h; rfl
theorem ok_Several_step (T : Txt K mg) : FnOk P w K mg base CX0 4 T.Several_step.f T.Several_step.fd P_Several_step (spR (R_Several_step T)) := by
  refine T.Several_step.F.ok sc_Several_step (fun vs H Q E h => ?_) (fun cdv A outer s H vs Q E hr h => ?_)
  · exact spR_len (R_Several_step_len T) h
  · refine ⟨_, (pss_one (ps_ret (pe_call (ok_taken T) (hr.mono (by decide)) (by rfl) T.taken.g T.taken.F.kp T.taken.b .nil pass0 (pa_cons (k_fld (K := K) rfl (pv 0) rfl) (pa_cons (pv 1) pa_nil))))), ?_⟩
    refine spR_run h (fun as r hR => ?_)
    obtain ⟨rs, c, rfl, h⟩ := hR
    exact xs_ret (ev_call (ea_cons (ev_fld (ev_ob rfl) (sev_state T)) (ea_cons (ev_var rfl) ea_nil)) h) rfl
def R_Several_stopped (T : Txt K mg) (as : List Sl) (r : Sl) : Prop := ∃ (rs : List Rw) (c : Cf), as = [.ob (SevAt T.C_Several rs), .d (cfD c)] ∧ R_taken [.ob (TabAt rs), .d (cfD c)] (.d .none) ∧ r = .d (.bool true)
theorem R_Several_stopped_len (T : Txt K mg) (as : List Sl) (r : Sl) (h : R_Several_stopped T as r) : as.length = 2 := by obtain ⟨_, _, rfl, _⟩ := h; rfl
theorem ok_Several_stopped (T : Txt K mg) : FnOk P w K mg base CX0 5 T.Several_stopped.f T.Several_stopped.fd P_Several_stopped (spR (R_Several_stopped T)) := by
  refine T.Several_stopped.F.ok sc_Several_stopped (fun vs H Q E h => ?_) (fun cdv A outer s H vs Q E hr h => ?_)
  · exact spR_len (R_Several_stopped_len T) h
  · refine ⟨_, (pss_one (ps_ret (pe_cmpR (op_isG) (pe_meth (pv 0) T.cl_Several T.Several_step.m (ok_Several_step T) (hr.mono (by decide)) T.Several_step.b .nil pass0 (pa_cons (pv 1) pa_nil)) pe_non (nomark _)))), ?_⟩
    refine spR_run h (fun as r hR => ?_)
    obtain ⟨rs, c, rfl, h, rfl⟩ := hR
    exact xs_ret (ev_op (ev_meth (ev_ob rfl) (sev_m T (by decide +kernel)) (ea_cons (ev_var rfl) ea_nil) ⟨rs, c, rfl, h⟩) ev_non rd_is) rfl
def R_Several_run (T : Txt K mg) (as : List Sl) (r : Sl) : Prop := ∃ (rs : List Rw) (d n : PyData), as = [.ob (SevAt T.C_Several rs), .d d, .d n] ∧ R_run [.ob (TabAt rs), .d d, .d n] r
theorem R_Several_run_len (T : Txt K mg) (as : List Sl) (r : Sl) (h : R_Several_run T as r) : as.length = 3 := by obtain ⟨_, _, _, rfl, _⟩ := h; rfl
theorem ok_Several_run (T : Txt K mg) : FnOk P w K mg base CX0 5 T.Several_run.f T.Several_run.fd P_Several_run (spR (R_Several_run T)) := by
  refine T.Several_run.F.ok sc_Several_run (fun vs H Q E h => ?_) (fun cdv A outer s H vs Q E hr h => ?_)
  · exact spR_len (R_Several_run_len T) h
  · refine ⟨_, (pss_one (ps_ret (pe_call (ok_run T) (hr.mono (by decide)) (by rfl) T.run.g T.run.F.kp T.run.b .nil pass0 (pa_cons (k_fld (K := K) rfl (pv 0) rfl) (pa_cons (pv 1) (pa_cons (pv 2) pa_nil)))))), ?_⟩
    refine spR_run h (fun as r hR => ?_)
    obtain ⟨rs, d, n, rfl, h⟩ := hR
    exact xs_ret (ev_call (ea_cons (ev_fld (ev_ob rfl) (sev_state T)) (ea_cons (ev_var rfl) (ea_cons (ev_var rfl) ea_nil))) h) rfl
def R_Several_check_back (K : PySem.W.Frag) (as : List Sl) (r : Sl) : Prop := ∃ (φ : Hp → V → Prop), HasF K "_back_clash" φ (.d .none) ∧ as = [.ob φ] ∧ r = .d .none
theorem R_Several_check_back_len (K : PySem.W.Frag) (as : List Sl) (r : Sl) (h : R_Several_check_back K as r) : as.length = 1 := by obtain ⟨_, _, rfl, _⟩ := h; rfl
theorem ok_Several_check_back (T : Txt K mg) : FnOk P w K mg base CX0 1 T.Several_check_back.f T.Several_check_back.fd P_Several_check_back (spR (R_Several_check_back K)) := by
  refine T.Several_check_back.F.ok sc_Several_check_back (fun vs H Q E h => ?_) (fun cdv A outer s H vs Q E hr h => ?_)
  · exact spR_len (R_Several_check_back_len K) h
  · refine ⟨_, (pss_one (ps_if (pt_cmpR (op_isNotG) (k_fld (K := K) rfl (pv 0) rfl) pe_non (nomark _)) pss_never pss_nil)), ?_⟩
    refine spR_run h (fun as r hR => ?_)
    obtain ⟨φ, hf, rfl, rfl⟩ := hR
    exact xs_if0 (et_tst (ev_op (ev_fld (ev_ob rfl) hf) ev_non rd_isNot) rfl) (xs_next rfl)
def R_Several_back (T : Txt K mg) (as : List Sl) (r : Sl) : Prop := ∃ (rs : List Rw) (c : Cf), as = [.ob (SevAt T.C_Several rs), .d (cfD c)] ∧ R_taken [.ob (TabAt (rs.map Rw.bw)), .d (cfD c)] r
theorem R_Several_back_len (T : Txt K mg) (as : List Sl) (r : Sl) (h : R_Several_back T as r) : as.length = 2 := by obtain ⟨_, _, rfl, _⟩ := h; rfl
theorem ok_Several_back (T : Txt K mg) : FnOk P w K mg base CX0 4 T.Several_back.f T.Several_back.fd P_Several_back (spR (R_Several_back T)) := by
  refine T.Several_back.F.ok sc_Several_back (fun vs H Q E h => ?_) (fun cdv A outer s H vs Q E hr h => ?_)
  · exact spR_len (R_Several_back_len T) h
  · refine ⟨_, (pss_cons (ps_expr (pe_meth0 (pv 0) T.cl_Several T.Several_check_back.m (ok_Several_check_back T) (hr.mono (by decide)) T.Several_check_back.b .nil pass0))
    (pss_one (ps_ret (pe_call (ok_taken T) (hr.mono (by decide)) (by rfl) T.taken.g T.taken.F.kp T.taken.b .nil pass0 (pa_cons (k_fld (K := K) rfl (pv 0) rfl) (pa_cons (pv 1) pa_nil)))))), ?_⟩
    refine spR_run h (fun as r hR => ?_)
    obtain ⟨rs, c, rfl, h⟩ := hR
    refine xs_seq (xs_drop (ev_meth (ev_ob rfl) (sev_m T (by decide +kernel)) ea_nil ⟨_, sev_clash T, rfl, rfl⟩) ?_)
    exact xs_ret (ev_call (ea_cons (ev_fld (ev_ob rfl) (sev_next T)) (ea_cons (ev_var rfl) ea_nil)) h) rfl
def R_Several_run_back (T : Txt K mg) (as : List Sl) (r : Sl) : Prop := ∃ (rs : List Rw) (d n : PyData), as = [.ob (SevAt T.C_Several rs), .d d, .d n] ∧ R_run [.ob (TabAt (rs.map Rw.bw)), .d d, .d n] r
theorem R_Several_run_back_len (T : Txt K mg) (as : List Sl) (r : Sl) (h : R_Several_run_back T as r) : as.length = 3 := by obtain ⟨_, _, _, rfl, _⟩ := h; rfl
theorem ok_Several_run_back (T : Txt K mg) : FnOk P w K mg base CX0 5 T.Several_run_back.f T.Several_run_back.fd P_Several_run_back (spR (R_Several_run_back T)) := by
  refine T.Several_run_back.F.ok sc_Several_run_back (fun vs H Q E h => ?_) (fun cdv A outer s H vs Q E hr h => ?_)
  · exact spR_len (R_Several_run_back_len T) h
  · refine ⟨_, (pss_cons (ps_expr (pe_meth0 (pv 0) T.cl_Several T.Several_check_back.m (ok_Several_check_back T) (hr.mono (by decide)) T.Several_check_back.b .nil pass0))
    (pss_one (ps_ret (pe_call (ok_run T) (hr.mono (by decide)) (by rfl) T.run.g T.run.F.kp T.run.b .nil pass0 (pa_cons (k_fld (K := K) rfl (pv 0) rfl) (pa_cons (pv 1) (pa_cons (pv 2) pa_nil))))))), ?_⟩
    refine spR_run h (fun as r hR => ?_)
    obtain ⟨rs, d, n, rfl, h⟩ := hR
    refine xs_seq (xs_drop (ev_meth (ev_ob rfl) (sev_m T (by decide +kernel)) ea_nil ⟨_, sev_clash T, rfl, rfl⟩) ?_)
    exact xs_ret (ev_call (ea_cons (ev_fld (ev_ob rfl) (sev_next T)) (ea_cons (ev_var rfl) (ea_cons (ev_var rfl) ea_nil))) h) rfl
end
end BK
set_option maxRecDepth 100000
set_option maxHeartbeats 4000000
namespace BK
open PySem L2 DL CM
local macro_rules | `(tactic| walk_at "rd") => `(tactic| first
  | with_reducible exact rd_addI
  | with_reducible exact rd_sub
  | with_reducible exact rd_lt
  | with_reducible exact rd_le
  | with_reducible exact rd_gt
  | with_reducible exact rd_ge
  | with_reducible exact rd_eqI
  | with_reducible exact rd_neI
  | with_reducible exact rd_is
  | with_reducible exact rd_isNot
  | exact rd_mul (cmul_s (by omega) (by omega))
  | exact rd_mod (by first | decide | omega)
  | exact rd_fdv (by first | decide | omega)
  | exact rd_consI (by first | omega | (simp; omega) | simp)
  | exact rd_snocI (by first | omega | (simp; omega) | simp)
  | exact rd_catI (by first | omega | (simp; omega) | simp)
  | with_reducible exact rd_head0
  | with_reducible exact rd_ww
  | with_reducible exact rd_mm
  | with_reducible exact rd_wm
  | with_reducible exact rd_mw
  | with_reducible exact rd_nww
  | exact rd_ixT rfl
  | exact rd_ixL rfl
  | exact rd_addT (by first | decide | simp))
local macro_rules | `(tactic| walk_at "R") => `(tactic| first
  | exact ⟨_, _, _, rfl, rfl⟩
  | exact ⟨_, rfl, (by first | omega | (simp; omega) | simp), rfl⟩)
local macro_rules | `(tactic| walk_at "rc") => `(tactic| first
  | with_reducible exact rc_int
  | with_reducible exact rc_intB
  | with_reducible exact rc_lenT
  | with_reducible exact rc_lenL
  | with_reducible exact rc_abs
  | with_reducible exact rc_tupL
  | with_reducible exact rc_tupT)
local macro_rules | `(tactic| walk_at "ev") => `(tactic| first
  | with_reducible exact ev_int
  | with_reducible exact ev_non
  | with_reducible exact ev_bl
  | with_reducible exact ev_str
  | exact ev_var rfl
  | exact ev_ob rfl
  | ((with_reducible refine' ev_isi ?k1 ?k2); (case k1 => walk_at "ev"); (case k2 => first | exact kit_ii | exact kit_ib | exact kit_tt | exact kit_it))
  | ((with_reducible refine' ev_op ?k1 ?k2 ?k3); (case k1 => walk_at "ev"); (case k2 => walk_at "ev"); (case k3 => walk_at "rd"))
  | ((with_reducible refine' ev_un ?k1 ?k2); (case k1 => walk_at "ev"); (case k2 => exact ru_neg))
  | ((with_reducible refine' ev_cb ?k1 ?k2); (case k1 => walk_at "ed"); (case k2 => walk_at "rc"))
  | ((with_reducible refine' ev_tup ?k1 ?k2); (case k1 => walk_at "ed"); (case k2 => exact Nat.le_of_ble_eq_true rfl))
  | ((with_reducible refine' ev_andV ?k1 ?k2); (case k1 => walk_at "ev"); (case k2 => (intro _; walk_at "ev")))
  | ((with_reducible refine' ev_orV ?k1 ?k2); (case k1 => walk_at "ev"); (case k2 => (intro _; walk_at "ev")))
  | ((with_reducible refine' ev_notV ?k1); (case k1 => walk_at "ev"))
  | ((with_reducible refine' ev_chain ?k1 ?k2 ?k3 ?k4 ?k5); (case k1 => walk_at "ev"); (case k2 => walk_at "ev"); (case k3 => (intro _; walk_at "ev")); (case k4 => walk_at "rd"); (case k5 => walk_at "rd"))
  | ((with_reducible refine' ev_fld ?k1 ?k2); (case k1 => walk_at "ev"); (case k2 => walk_at "F"))
  | ((with_reducible refine' ev_meth ?k1 ?k2 ?k3 ?k4); (case k1 => walk_at "ev"); (case k2 => walk_at "I"); (case k3 => walk_at "ea"); (case k4 => walk_at "R"))
  | ((with_reducible refine' ev_call ?k1 ?k2); (case k1 => walk_at "ea"); (case k2 => walk_at "R"))
  | ((with_reducible refine' ev_sl1 ?k1); (case k1 => walk_at "ev"))
  | ((with_reducible refine' ev_sl ?k1 ?k2 ?k3); (case k1 => walk_at "ev"); (case k2 => walk_at "eo"); (case k3 => walk_at "eo"))
  | ((with_reducible refine' ev_ofL (el_sl ?k1 ?k2 ?k3)); (case k1 => walk_at "ev"); (case k2 => walk_at "eo"); (case k3 => walk_at "eo")))
local macro_rules | `(tactic| walk_at "eo") => `(tactic| first
  | with_reducible exact eo_none
  | ((with_reducible refine' eo_some ?k1); (case k1 => walk_at "ev")))
local macro_rules | `(tactic| walk_at "ed") => `(tactic| first
  | with_reducible exact ed_nil
  | ((with_reducible refine' ed_cons ?k1 ?k2); (case k1 => walk_at "ev"); (case k2 => walk_at "ed")))
local macro_rules | `(tactic| walk_at "ea") => `(tactic| first
  | with_reducible exact ea_nil
  | ((with_reducible refine' ea_cons ?k1 ?k2); (case k1 => walk_at "ev"); (case k2 => walk_at "ea")))
local macro_rules | `(tactic| walk_at "et") => `(tactic| first
  | ((with_reducible refine' et_test ?k1); (case k1 => walk_at "ev"))
  | ((with_reducible refine' et_B ?k1); (case k1 => walk_at "ev"))
  | ((with_reducible refine' et_not ?k1); (case k1 => walk_at "et"))
  | ((with_reducible refine' et_and ?k1 ?k2); (case k1 => walk_at "et"); (case k2 => (intro _; walk_at "et")))
  | ((with_reducible refine' et_or ?k1 ?k2); (case k1 => walk_at "et"); (case k2 => (intro _; walk_at "et"))))
local macro_rules | `(tactic| walk_at "give") => `(tactic| ((with_reducible refine' xs_give ?k1 ?_); (case k1 => walk_at "ev")))
local macro_rules | `(tactic| walk_at "ret") => `(tactic| ((with_reducible refine' xs_ret ?k1 ?_); (case k1 => walk_at "ev")))
local macro_rules | `(tactic| walk_at "tst") => `(tactic| ((with_reducible refine' et_tst ?k1 ?_); (case k1 => walk_at "ev")))
local macro_rules | `(tactic| walk_at "etto") => `(tactic| ((with_reducible refine' et_to ?k1 ?_); (case k1 => walk_at "et")))
local macro_rules | `(tactic| walk_at "evto") => `(tactic| ((with_reducible refine' ev_dto ?k1 ?_); (case k1 => walk_at "ev")))

section
variable {P : Program} {w : World} {K : PySem.W.Frag} {mg : Str → Option Value} {base : Heap}
/-! WN: a new machine of several tapes. -/
def R_Several_is_row (K : PySem.W.Frag) (as : List Sl) (r : Sl) : Prop := ∃ (φ : Hp → V → Prop) (m s : Int) (rw : Rw), HasF K "tapes" φ (.d (.int 3)) ∧ HasF K "marks" φ (.d (.int m)) ∧ HasF K "states" φ (.d (.int s)) ∧
  as = [.ob φ, .d (rwD rw)] ∧ rw.bd m s ∧ r = .d (.bool true)
theorem R_Several_is_row_len (K : PySem.W.Frag) (as : List Sl) (r : Sl) (h : R_Several_is_row K as r) : as.length = 2 := by obtain ⟨_, _, _, _, _, _, _, rfl, _⟩ := h; rfl
theorem ok_Several_is_row (T : Txt K mg) : FnOk P w K mg base CX0 3 T.Several_is_row.f T.Several_is_row.fd P_Several_is_row (spR (R_Several_is_row K)) := by
  refine T.Several_is_row.F.ok sc_Several_is_row (fun vs H Q E h => ?_) (fun cdv A outer s H vs Q E hr h => ?_)
  · exact spR_len (R_Several_is_row_len K) h
  · refine ⟨_, (pss_cons (ps_if (PW.pt (pw_or (pt_not (pt_val (pe_callB (k_isi (K := K) rfl) (by rfl) T.b_isinstance (by decide +kernel) (pa_cons (pv 1) (pa_cons (pe_bltn (v := .ty "tuple") (by rfl) T.b_tuple (by decide +kernel) rfl) pa_nil))))) (pw_or1 (pt_cmpR (op_lt') (pe_callB (k_len (K := K) rfl) (by rfl) T.b_len (by decide +kernel) (pa_cons (pv 1) pa_nil)) pe_int (nomark _))))) (pss_one (ps_ret pe_bl)) pss_nil)
    (pss_cons (ps_if (PW.pt (pw_or (pt_not (pt_val (pe_call (ok_is_number T) (hr.mono (by decide)) (by rfl) T.is_number.g T.is_number.F.kp T.is_number.b .nil pass0 (pa_cons (pe_ix (k_ix (K := K) rfl) (pv 1) pe_int (fun _ _ => rfl)) (pa_cons pe_int (pa_cons (pe_op (op_subG) (k_fld (K := K) rfl (pv 0) rfl) pe_int) pa_nil)))))) (pw_or1 (pt_not (pt_val (pe_call (ok_is_number T) (hr.mono (by decide)) (by rfl) T.is_number.g T.is_number.F.kp T.is_number.b .nil pass0 (pa_cons (pe_ix (k_ix (K := K) rfl) (pv 1) (pe_un un_negG pe_int) (fun _ _ => rfl)) (pa_cons pe_int (pa_cons (pe_op (op_subG) (k_fld (K := K) rfl (pv 0) rfl) pe_int) pa_nil))))))))) (pss_one (ps_ret pe_bl)) pss_nil)
    (pss_cons (ps_if (pt_cmpR (k_eq (K := K) rfl hr.units) (pe_ix (k_ix (K := K) rfl) (pv 1) pe_int (fun _ _ => rfl)) pe_str (nomark _)) (pss_one (ps_ret (pe_and (pe_cmpR (k_eq (K := K) rfl hr.units) (pe_callB (k_len (K := K) rfl) (by rfl) T.b_len (by decide +kernel) (pa_cons (pv 1) pa_nil)) pe_int (nomark _)) (pe_one (pe_call (ok_is_tuple T) (hr.mono (by decide)) (by rfl) T.is_tuple.g T.is_tuple.F.kp T.is_tuple.b .nil pass0 (pa_cons (pe_ix (k_ix (K := K) rfl) (pv 1) pe_int (fun _ _ => rfl)) (pa_cons (k_fld (K := K) rfl (pv 0) rfl) (pa_cons (pe_un un_negG pe_int) (pa_cons pe_int pa_nil))))))))) pss_nil)
    (pss_cons (ps_if (PW.pt (pw_or (pt_cmpR (k_ne (K := K) rfl hr.units) (pe_ix (k_ix (K := K) rfl) (pv 1) pe_int (fun _ _ => rfl)) pe_str (nomark _)) (pw_or1 (pt_cmpR (k_ne (K := K) rfl hr.units) (pe_callB (k_len (K := K) rfl) (by rfl) T.b_len (by decide +kernel) (pa_cons (pv 1) pa_nil)) pe_int (nomark _))))) (pss_one (ps_ret pe_bl)) pss_nil)
    (pss_one (ps_ret (pe_and (pe_call (ok_is_tuple T) (hr.mono (by decide)) (by rfl) T.is_tuple.g T.is_tuple.F.kp T.is_tuple.b .nil pass0 (pa_cons (pe_ix (k_ix (K := K) rfl) (pv 1) pe_int (fun _ _ => rfl)) (pa_cons (k_fld (K := K) rfl (pv 0) rfl) (pa_cons pe_int (pa_cons (pe_op (op_subG) (k_fld (K := K) rfl (pv 0) rfl) pe_int) pa_nil))))) (pe_one (pe_call (ok_is_tuple T) (hr.mono (by decide)) (by rfl) T.is_tuple.g T.is_tuple.F.kp T.is_tuple.b .nil pass0 (pa_cons (pe_ix (k_ix (K := K) rfl) (pv 1) pe_int (fun _ _ => rfl)) (pa_cons (k_fld (K := K) rfl (pv 0) rfl) (pa_cons pe_int (pa_cons (pe_op (op_subG) (k_fld (K := K) rfl (pv 0) rfl) pe_int) pa_nil))))))))))))), ?_⟩
    refine spR_run h (fun as r hR => ?_)
    obtain ⟨φ, m, s, rw, ht, hm, hs, rfl, hb, rfl⟩ := hR
    cases rw with
    | m st d0 d1 d2 nx =>
      obtain ⟨b1, b2, b3, b4, b5⟩ := hb
      refine xs_skip (et_or0 (et_not' (et_B (ev_isi (ev_var rfl) kit_tt)) rfl) (et_tst (ev_op (ev_cb (ed_cons (ev_var rfl) ed_nil) rc_lenT) ev_int rd_lt) rfl)) ?_
      refine xs_skip (et_or0 (et_not' (et_tsB (ev_call (ea_cons (ev_op (ev_var rfl) ev_int (rd_ixT (d := .int st) rfl)) (ea_cons ev_int (ea_cons (ev_op (ev_fld (ev_ob rfl) hs) ev_int rd_sub) ea_nil))) ⟨_, _, _, rfl, rfl⟩) (b := true) ?_) rfl)
        (et_not' (et_tsB (ev_call (ea_cons (ev_op (ev_var rfl) (ev_un ev_int ru_neg) (rd_ixT (d := .int nx) rfl)) (ea_cons ev_int (ea_cons (ev_op (ev_fld (ev_ob rfl) hs) ev_int rd_sub) ea_nil))) ⟨_, _, _, rfl, rfl⟩) (b := true) ?_) rfl)) ?_
      · simp
        omega
      · simp
        omega
      refine xs_seq (xs_if1 (et_tst (ev_op (ev_op (ev_var rfl) ev_int (rd_ixT rfl)) ev_str rd_mm) rfl) (xs_ret (ev_and1 (ev_bto (ev_op (ev_cb (ed_cons (ev_var rfl) ed_nil) rc_lenT) ev_int rd_eqI) rfl)
        (ev_call (ea_cons (ev_op (ev_var rfl) ev_int (rd_ixT (d := ti [d0, d1, d2]) rfl)) (ea_cons (ev_fld (ev_ob rfl) ht) (ea_cons (ev_un ev_int ru_neg) (ea_cons ev_int ea_nil)))) ⟨[d0, d1, d2], -1, 1, rfl, Nat.le_of_ble_eq_true rfl, b5, rfl⟩)) rfl))
    | w st a0 a1 a2 c0 c1 c2 nx =>
      obtain ⟨b1, b2, b3, b4, b5, b6⟩ := hb
      refine xs_skip (et_or0 (et_not' (et_B (ev_isi (ev_var rfl) kit_tt)) rfl) (et_tst (ev_op (ev_cb (ed_cons (ev_var rfl) ed_nil) rc_lenT) ev_int rd_lt) rfl)) ?_
      refine xs_skip (et_or0 (et_not' (et_tsB (ev_call (ea_cons (ev_op (ev_var rfl) ev_int (rd_ixT (d := .int st) rfl)) (ea_cons ev_int (ea_cons (ev_op (ev_fld (ev_ob rfl) hs) ev_int rd_sub) ea_nil))) ⟨_, _, _, rfl, rfl⟩) (b := true) ?_) rfl)
        (et_not' (et_tsB (ev_call (ea_cons (ev_op (ev_var rfl) (ev_un ev_int ru_neg) (rd_ixT (d := .int nx) rfl)) (ea_cons ev_int (ea_cons (ev_op (ev_fld (ev_ob rfl) hs) ev_int rd_sub) ea_nil))) ⟨_, _, _, rfl, rfl⟩) (b := true) ?_) rfl)) ?_
      · simp
        omega
      · simp
        omega
      refine xs_skip (et_tst (ev_op (ev_op (ev_var rfl) ev_int (rd_ixT rfl)) ev_str rd_wm) rfl) ?_
      refine xs_skip (et_or0 (et_tst (ev_op (ev_op (ev_var rfl) ev_int (rd_ixT rfl)) ev_str rd_nww) rfl) (et_tst (ev_op (ev_cb (ed_cons (ev_var rfl) ed_nil) rc_lenT) ev_int rd_neI) rfl)) ?_
      refine xs_ret (ev_and1
        (ev_call (ea_cons (ev_op (ev_var rfl) ev_int (rd_ixT (d := ti [a0, a1, a2]) rfl)) (ea_cons (ev_fld (ev_ob rfl) ht) (ea_cons ev_int (ea_cons (ev_op (ev_fld (ev_ob rfl) hm) ev_int rd_sub) ea_nil)))) ⟨[a0, a1, a2], 0, m - 1, rfl, Nat.le_of_ble_eq_true rfl, b5, rfl⟩)
        (ev_call (ea_cons (ev_op (ev_var rfl) ev_int (rd_ixT (d := ti [c0, c1, c2]) rfl)) (ea_cons (ev_fld (ev_ob rfl) ht) (ea_cons ev_int (ea_cons (ev_op (ev_fld (ev_ob rfl) hm) ev_int rd_sub) ea_nil)))) ⟨[c0, c1, c2], 0, m - 1, rfl, Nat.le_of_ble_eq_true rfl, b6, rfl⟩)) rfl
theorem xi_skip {C : Addr} {no : List Str} {δ : List Sl} {fs : List (Str × Sl)} {n : Nat} {O : List Sl → List (Str × Sl) → Nat → Prop} {t u : TS} {c : TT} (h : EvT c (δ.set 0 (.ob (InsAt C fs no))) false) (h1 : ExI u C no δ fs n O) :
    ExI (tSeq (tIfS c t tNext) u) C no δ fs n O := xi_seq (xi_if h (fun z => nomatch z) (fun _ => xi_next h1))
theorem ev_dnewK {δ : List Sl} : EvX tDNewK δ .no := fun B0 H0 B H σ e Q k p hp => k _ B _ (Grow.new0 e.gr.sub hp) trivial
def bwD : PyData → PyData
  | .tuple [.str _, .int st, r, w, .int nx] => .tuple [.str "write", .int nx, w, r, .int st]
  | .tuple [.str _, .int st, .tuple ds, .int nx] => .tuple [.str "move", .int nx, .tuple (ds.map negD), .int st]
  | _ => .none
theorem bwD_rw (r : Rw) : bwD (rwD r) = rwD r.bw := by cases r <;> rfl
theorem bw_map (rs : List Rw) : (rs.map rwD).map bwD = (rs.map Rw.bw).map rwD := by
  rw [List.map_map, List.map_map]
  exact List.map_congr_left fun r _ => bwD_rw r
theorem sev_nr {C : Addr} {fs : List (Str × Sl)} : IsIns C "_is_row" (InsAt C fs SevN) := InsAt.isIns (.head _)
def R_Several_init (T : Txt K mg) (as : List Sl) (φ : Hp → V → Prop) : Prop := ∃ (rs : List Rw) (m s : Int), as = [.d (.int 3), .d (.int m), .d (.int s), .d (.list (rs.map rwD))] ∧ 2 ≤ m ∧ m ≤ 400 ∧ 1 ≤ s ∧ s ≤ 5000 ∧ rs.length ≤ 20000 ∧
  (∀ rw ∈ rs, rw.bd m s) ∧ rs.Pairwise Rw.ok ∧ (rs.map Rw.bw).Pairwise Rw.ok ∧ φ = SevAt T.C_Several rs
theorem R_Several_init_len (T : Txt K mg) (as : List Sl) (φ : Hp → V → Prop) (h : R_Several_init T as φ) : as.length = 4 := by obtain ⟨_, _, _, rfl, _⟩ := h; rfl
theorem ok_Several_init (T : Txt K mg) : FnOk P w K mg base CX0 4 T.Several_init.f T.Several_init.fd P_Several_init (spI T.C_Several (R_Several_init T)) := by
  refine T.Several_init.F.ok sc_Several_init (fun vs H Q E h => ?_) (fun cdv A outer s H vs Q E hr h => ?_)
  · exact spI_len (R_Several_init_len T) h
  · refine ⟨_, (pss_cons (ps_if (PW.pt (pw_or (pt_not (pt_val (pe_call (ok_is_number T) (hr.mono (by decide)) (by rfl) T.is_number.g T.is_number.F.kp T.is_number.b .nil pass0 (pa_cons (pv 1) (pa_cons pe_int (pa_cons (pe_glob (v := .int 4) (by rfl) T.c_MOST_TAPES ⟨_, rfl⟩) pa_nil)))))) (pw_or1 (pt_not (pt_val (pe_call (ok_is_number T) (hr.mono (by decide)) (by rfl) T.is_number.g T.is_number.F.kp T.is_number.b .nil pass0 (pa_cons (pv 2) (pa_cons pe_int (pa_cons (pe_glob (v := .int 400) (by rfl) T.c_MOST_MARKS_several ⟨_, rfl⟩) pa_nil))))))))) pss_never pss_nil)
    (pss_cons (ps_if (PW.pt (pw_or (pt_not (pt_val (pe_call (ok_is_number T) (hr.mono (by decide)) (by rfl) T.is_number.g T.is_number.F.kp T.is_number.b .nil pass0 (pa_cons (pv 3) (pa_cons pe_int (pa_cons (pe_glob (v := .int 5000) (by rfl) T.c_MOST_STATES_several ⟨_, rfl⟩) pa_nil)))))) (pw_or1 (pt_cmpR (op_gt') (pe_callB (k_len (K := K) rfl) (by rfl) T.b_len (by decide +kernel) (pa_cons (pv 4) pa_nil)) (pe_glob (v := .int 20000) (by rfl) T.c_MOST_ROWS ⟨_, rfl⟩) (nomark _))))) pss_never pss_nil)
    (pss_cons (k_sfld (K := K) rfl (pv 0) (pv 1) rfl)
    (pss_cons (k_sfld (K := K) rfl (pv 0) (pv 2) rfl)
    (pss_cons (k_sfld (K := K) rfl (pv 0) (pv 3) rfl)
    (pss_cons (k_sfld (K := K) rfl (pv 0) (pe_callTy (k_lst (K := K) rfl) (by rfl) T.b_list (by decide +kernel) (pa_cons (pv 4) pa_nil)) rfl)
    (pss_cons (ps_if (pt_not (pt_val (pe_callB (k_all (K := K) rfl rfl) (by rfl) T.b_all (by decide +kernel) (pa_cons (pe_lc (own := [("row", 6)]) rfl sc_Several_init.nd (k_piL (K := K) rfl (k_fld (K := K) rfl (pv 0) rfl)) (blkOk_by (own := [("row", 6)]) (N := N_Several_init) (sc := defScope s_Several_init) (by decide +kernel)) (fun _ _ _ _ _ => (pg_name (i := 6) sc_Several_init.nd rfl (Or.inl rfl))) (fun _ _ _ _ _ => pts_nil) (fun _ _ _ _ _ => (pe_meth (pv 0) T.cl_Several T.Several_is_row.m (ok_Several_is_row T) (hr.mono (by decide)) T.Several_is_row.b .nil pass0 (pa_cons (pv 6) pa_nil)))) pa_nil)))) pss_never pss_nil)
    (pss_cons (ps_set (i := 5) sc_Several_init.nd rfl (Or.inl rfl) (pe_call (ok_first_clash T) (hr.mono (by decide)) (by rfl) T.first_clash.g T.first_clash.F.kp T.first_clash.b .nil pass0 (pa_cons (k_fld (K := K) rfl (pv 0) rfl) pa_nil)))
    (pss_cons (ps_if (pt_cmpR (op_isNotG) (pv 5) pe_non (nomark _)) pss_never pss_nil)
    (pss_cons (k_sfld (K := K) rfl (pv 0) (pe_call (ok_first_clash T) (hr.mono (by decide)) (by rfl) T.first_clash.g T.first_clash.F.kp T.first_clash.b .nil pass0 (pa_cons (pe_lc (own := [("row", 6)]) rfl sc_Several_init.nd (k_piL (K := K) rfl (k_fld (K := K) rfl (pv 0) rfl)) (blkOk_by (own := [("row", 6)]) (N := N_Several_init) (sc := defScope s_Several_init) (by decide +kernel)) (fun _ _ _ _ _ => (pg_name (i := 6) sc_Several_init.nd rfl (Or.inl rfl))) (fun _ _ _ _ _ => pts_nil) (fun _ _ _ _ _ => (pe_call (ok_backward T) (hr.mono (by decide)) (by rfl) T.backward.g T.backward.F.kp T.backward.b .nil pass0 (pa_cons (pv 6) pa_nil)))) pa_nil)) rfl)
    (pss_cons (k_sfld (K := K) rfl (pv 0) (pe_call (ok_table_of T) (hr.mono (by decide)) (by rfl) T.table_of.g T.table_of.F.kp T.table_of.b .nil pass0 (pa_cons (k_fld (K := K) rfl (pv 0) rfl) pa_nil)) rfl)
    (pss_cons (k_sfld (K := K) rfl (pv 0) pe_dnewK rfl)
    (pss_one (ps_if (pt_cmpR (op_isG) (k_fld (K := K) rfl (pv 0) rfl) pe_non (nomark _)) (pss_one (k_sfld (K := K) rfl (pv 0) (pe_call (ok_table_of T) (hr.mono (by decide)) (by rfl) T.table_of.g T.table_of.F.kp T.table_of.b .nil pass0 (pa_cons (pe_lc (own := [("row", 6)]) rfl sc_Several_init.nd (k_piL (K := K) rfl (k_fld (K := K) rfl (pv 0) rfl)) (blkOk_by (own := [("row", 6)]) (N := N_Several_init) (sc := defScope s_Several_init) (by decide +kernel)) (fun _ _ _ _ _ => (pg_name (i := 6) sc_Several_init.nd rfl (Or.inl rfl))) (fun _ _ _ _ _ => pts_nil) (fun _ _ _ _ _ => (pe_call (ok_backward T) (hr.mono (by decide)) (by rfl) T.backward.g T.backward.F.kp T.backward.b .nil pass0 (pa_cons (pv 6) pa_nil)))) pa_nil)) rfl)) pss_nil)))))))))))))), ?_⟩
    refine spI_run (no := SevN) h (Nat.le_of_ble_eq_true rfl) (fun as φ hR => ?_)
    obtain ⟨rs, m, s, rfl, m2, m4, s1, s5, hl, hb, hp, hq, rfl⟩ := hR
    have hs : ∀ s' : Sl, (Sl.no :: ([Sl.d (.int 3), Sl.d (.int m), Sl.d (.int s), Sl.d (.list (rs.map rwD))] ++ [Sl.no, Sl.no]))[0]? = some s' → s' = Sl.no := fun s h => (Option.some.inj h).symm
    have bwL : ∀ (δ2 : List Sl) (te : TE) (E : XK), 7 ≤ δ2.length → EvX te δ2 (.d (.list (rs.map rwD))) → EvX (tLc (iList K te) (gName 6) tYes (tCall (spR R_backward) [] E (tCons (tVar 6) tNil)) [6]) δ2 (.d (.list ((rs.map Rw.bw).map rwD))) := fun δ2 te E h7 he => by
      refine ev_ofL (el_to (el_lc1 bwD (ei_list he) (by rw [List.length_map]; omega) fun d hd => ?_) (bw_map rs))
      obtain ⟨rw, hr, rfl⟩ := List.mem_map.mp hd
      refine ⟨_, _, eg_name, fun i h => h, ev_call (ea_cons (ev_var (List.getElem?_set_self (by simp [wipeD]; omega))) ea_nil) ⟨rw, rfl, ?_⟩⟩
      rw [bwD_rw]
    have fR : ∀ {fs : List (Str × Sl)}, (("_rows" : Str), Sl.d (.list (rs.map rwD))) ∈ fs → HasF K "_rows" (InsAt T.C_Several fs SevN) (.d (.list (rs.map rwD))) := fun h => InsAt.hasF h T.cl_Several T.n_Several_rows
    refine xi_skip (et_or0 (et_not' (et_tsB (ev_call (ea_cons (ev_var rfl) (ea_cons ev_int (ea_cons ev_int ea_nil))) ⟨_, _, _, rfl, rfl⟩) (b := true) rfl) rfl)
      (et_not' (et_tsB (ev_call (ea_cons (ev_var rfl) (ea_cons ev_int (ea_cons ev_int ea_nil))) ⟨_, _, _, rfl, rfl⟩) (b := true) (by simp; omega)) rfl)) ?_
    refine xi_skip (et_or0 (et_not' (et_tsB (ev_call (ea_cons (ev_var rfl) (ea_cons ev_int (ea_cons ev_int ea_nil))) ⟨_, _, _, rfl, rfl⟩) (b := true) (by simp; omega)) rfl)
      (et_tst (ev_op (ev_cb (ed_cons (ev_var rfl) ed_nil) rc_lenL) ev_int rd_gt) (by simp; omega))) ?_
    refine xi_seq (xi_new [] rfl rfl T.cl_Several T.n_Several_tapes (r := .d (.int 3)) (ev_var rfl) trivial (by decide +kernel) (by decide) hs ?_)
    refine xi_seq (xi_new ["tapes"] rfl (by decide +kernel) T.cl_Several T.n_Several_marks (r := .d (.int m)) (ev_var rfl) trivial (by decide +kernel) (by decide) hs ?_)
    refine xi_seq (xi_new ["marks", "tapes"] rfl (by decide +kernel) T.cl_Several T.n_Several_states (r := .d (.int s)) (ev_var rfl) trivial (by decide +kernel) (by decide) hs ?_)
    refine xi_seq (xi_new ["states", "marks", "tapes"] rfl (by decide +kernel) T.cl_Several T.n_Several_rows (r := .d (.list (rs.map rwD))) (ev_ofL (el_cb (ed_cons (ev_var rfl) ed_nil) rcl_lst)) trivial (by decide +kernel) (by decide) hs ?_)
    have e1 : (rs.map rwD).map (fun _ => PyData.bool true) = (rs.map fun _ => true).map PyData.bool := by simp
    refine xi_skip (et_not' (et_tsB (ev_cb (ed_cons (ev_ofL (el_to (el_lc1 (fun _ => .bool true) (ei_list (ev_fld (ev_ob rfl) (fR (.head _)))) (by rw [List.length_map]; omega) fun d hd => ?_) e1)) ed_nil) rc_all) (b := true) ?_) rfl) ?_
    · obtain ⟨rw, hr, rfl⟩ := List.mem_map.mp hd
      exact ⟨_, _, eg_name, fun i h => h, ev_meth (ev_ob rfl) sev_nr (ea_cons (ev_var rfl) ea_nil) ⟨_, m, s, rw, InsAt.hasF (.tail _ (.tail _ (.tail _ (.head _)))) T.cl_Several T.n_Several_tapes, InsAt.hasF (.tail _ (.tail _ (.head _))) T.cl_Several T.n_Several_marks,
        InsAt.hasF (.tail _ (.head _)) T.cl_Several T.n_Several_states, rfl, hb rw hr, rfl⟩⟩
    · simp
    refine xi_seq (xi_read (xs_asg (ev_call (ea_cons (ev_fld (ev_ob rfl) (fR (.head _))) ea_nil) ⟨rs, rfl, hl, hp, rfl⟩) eg_name ⟨rfl, ?_⟩) ?_)
    · refine xi_skip (et_tst (ev_op (ev_var rfl) ev_non rd_isNot) rfl) ?_
      refine xi_seq (xi_new ["_rows", "states", "marks", "tapes"] rfl (by decide +kernel) T.cl_Several T.n_Several_back_clash (r := .d .none) (ev_call (ea_cons (bwL _ _ _ (Nat.le_of_ble_eq_true rfl) (ev_fld (ev_ob rfl) (fR (.head _)))) ea_nil) ⟨rs.map Rw.bw, rfl, by rw [List.length_map]; exact hl, hq, rfl⟩) trivial (by decide +kernel) (by decide) hs ?_)
      refine xi_seq (xi_new ["_back_clash", "_rows", "states", "marks", "tapes"] rfl (by decide +kernel) T.cl_Several T.n_Several_by_state (r := .ob (TabAt rs)) (ev_call (ea_cons (ev_fld (ev_ob rfl) (fR (.tail _ (.head _)))) ea_nil) ⟨rs, rfl, hl, hp, rfl⟩) TabAt.indep (by decide +kernel) (by decide) hs ?_)
      refine xi_seq (xi_new ["_by_state", "_back_clash", "_rows", "states", "marks", "tapes"] rfl (by decide +kernel) T.cl_Several T.n_Several_by_next (r := .no) ev_dnewK trivial (by decide +kernel) (by decide) hs ?_)
      refine xi_if (b := true) (et_tst (ev_op (ev_fld (ev_ob rfl) (InsAt.hasF (.tail _ (.tail _ (.head _))) T.cl_Several T.n_Several_back_clash)) ev_non rd_is) rfl) (fun _ => ?_) (fun z => nomatch z)
      refine xi_fld T.cl_Several T.n_Several_by_next (r := .ob (TabAt (rs.map Rw.bw))) (ev_call (ea_cons (bwL _ _ _ (Nat.le_of_ble_eq_true rfl) (ev_fld (ev_ob rfl) (fR (.tail _ (.tail _ (.tail _ (.head _))))))) ea_nil) ⟨rs.map Rw.bw, rfl, by rw [List.length_map]; exact hl, hq, rfl⟩) TabAt.indep (by decide +kernel) (by decide) hs ?_
      intro B v hI
      refine hI.weak (fun p hp => ?_) (fun m hm => hm)
      simp only [SevF, List.mem_cons, List.not_mem_nil, or_false] at hp
      rcases hp with rfl | rfl | rfl
      · exact .tail _ (List.mem_filter.mpr ⟨.tail _ (.tail _ (.head _)), by decide +kernel⟩)
      · exact .tail _ (List.mem_filter.mpr ⟨.tail _ (.head _), (show (!decide (("_by_state" : Str) = "_by_next")) = true by decide +kernel)⟩)
      · exact .head _
    · intro D σ H x h0 ⟨v, q1, a, C', dx, vs, y, q2, q3, q4, q5, q6, B, as, r, z1, z2, z3, z4⟩
      refine ⟨v, q1, a, C', dx, vs, y, q2, q3, q4, q5, q6, B, as, r, z1, z2, z3, fun v B' H' g hv => z4 v B' H' g hv ?_⟩
      rw [List.getElem?_set_ne (by decide)]
      exact h0
end
end BK
set_option maxRecDepth 100000
set_option maxHeartbeats 4000000
namespace BK
open PySem L2 DL CM
local macro_rules | `(tactic| walk_at "rd") => `(tactic| first
  | with_reducible exact rd_addI
  | with_reducible exact rd_sub
  | with_reducible exact rd_lt
  | with_reducible exact rd_le
  | with_reducible exact rd_gt
  | with_reducible exact rd_ge
  | with_reducible exact rd_eqI
  | with_reducible exact rd_neI
  | with_reducible exact rd_is
  | with_reducible exact rd_isNot
  | exact rd_mul (cmul_s (by omega) (by omega))
  | exact rd_mod (by first | decide | omega)
  | exact rd_fdv (by first | decide | omega)
  | exact rd_consI (by first | omega | (simp; omega) | simp)
  | exact rd_snocI (by first | omega | (simp; omega) | simp)
  | exact rd_catI (by first | omega | (simp; omega) | simp)
  | with_reducible exact rd_head0
  | with_reducible exact rd_ww
  | with_reducible exact rd_mm
  | with_reducible exact rd_wm
  | with_reducible exact rd_mw
  | with_reducible exact rd_nww
  | exact rd_ixT rfl
  | exact rd_ixL rfl
  | exact rd_addT (by first | decide | simp))
local macro_rules | `(tactic| walk_at "R") => `(tactic| first
  | exact ⟨_, _, _, rfl, rfl⟩
  | exact ⟨_, rfl, (by first | omega | (simp; omega) | simp), rfl⟩)
local macro_rules | `(tactic| walk_at "rc") => `(tactic| first
  | with_reducible exact rc_int
  | with_reducible exact rc_intB
  | with_reducible exact rc_lenT
  | with_reducible exact rc_lenL
  | with_reducible exact rc_abs
  | with_reducible exact rc_tupL
  | with_reducible exact rc_tupT)
local macro_rules | `(tactic| walk_at "ev") => `(tactic| first
  | with_reducible exact ev_int
  | with_reducible exact ev_non
  | with_reducible exact ev_bl
  | with_reducible exact ev_str
  | exact ev_var rfl
  | exact ev_ob rfl
  | ((with_reducible refine' ev_isi ?k1 ?k2); (case k1 => walk_at "ev"); (case k2 => first | exact kit_ii | exact kit_ib | exact kit_tt | exact kit_it))
  | ((with_reducible refine' ev_op ?k1 ?k2 ?k3); (case k1 => walk_at "ev"); (case k2 => walk_at "ev"); (case k3 => walk_at "rd"))
  | ((with_reducible refine' ev_un ?k1 ?k2); (case k1 => walk_at "ev"); (case k2 => exact ru_neg))
  | ((with_reducible refine' ev_cb ?k1 ?k2); (case k1 => walk_at "ed"); (case k2 => walk_at "rc"))
  | ((with_reducible refine' ev_tup ?k1 ?k2); (case k1 => walk_at "ed"); (case k2 => exact Nat.le_of_ble_eq_true rfl))
  | ((with_reducible refine' ev_andV ?k1 ?k2); (case k1 => walk_at "ev"); (case k2 => (intro _; walk_at "ev")))
  | ((with_reducible refine' ev_orV ?k1 ?k2); (case k1 => walk_at "ev"); (case k2 => (intro _; walk_at "ev")))
  | ((with_reducible refine' ev_notV ?k1); (case k1 => walk_at "ev"))
  | ((with_reducible refine' ev_chain ?k1 ?k2 ?k3 ?k4 ?k5); (case k1 => walk_at "ev"); (case k2 => walk_at "ev"); (case k3 => (intro _; walk_at "ev")); (case k4 => walk_at "rd"); (case k5 => walk_at "rd"))
  | ((with_reducible refine' ev_fld ?k1 ?k2); (case k1 => walk_at "ev"); (case k2 => walk_at "F"))
  | ((with_reducible refine' ev_meth ?k1 ?k2 ?k3 ?k4); (case k1 => walk_at "ev"); (case k2 => walk_at "I"); (case k3 => walk_at "ea"); (case k4 => walk_at "R"))
  | ((with_reducible refine' ev_call ?k1 ?k2); (case k1 => walk_at "ea"); (case k2 => walk_at "R"))
  | ((with_reducible refine' ev_sl1 ?k1); (case k1 => walk_at "ev"))
  | ((with_reducible refine' ev_sl ?k1 ?k2 ?k3); (case k1 => walk_at "ev"); (case k2 => walk_at "eo"); (case k3 => walk_at "eo"))
  | ((with_reducible refine' ev_ofL (el_sl ?k1 ?k2 ?k3)); (case k1 => walk_at "ev"); (case k2 => walk_at "eo"); (case k3 => walk_at "eo")))
local macro_rules | `(tactic| walk_at "eo") => `(tactic| first
  | with_reducible exact eo_none
  | ((with_reducible refine' eo_some ?k1); (case k1 => walk_at "ev")))
local macro_rules | `(tactic| walk_at "ed") => `(tactic| first
  | with_reducible exact ed_nil
  | ((with_reducible refine' ed_cons ?k1 ?k2); (case k1 => walk_at "ev"); (case k2 => walk_at "ed")))
local macro_rules | `(tactic| walk_at "ea") => `(tactic| first
  | with_reducible exact ea_nil
  | ((with_reducible refine' ea_cons ?k1 ?k2); (case k1 => walk_at "ev"); (case k2 => walk_at "ea")))
local macro_rules | `(tactic| walk_at "et") => `(tactic| first
  | ((with_reducible refine' et_test ?k1); (case k1 => walk_at "ev"))
  | ((with_reducible refine' et_B ?k1); (case k1 => walk_at "ev"))
  | ((with_reducible refine' et_not ?k1); (case k1 => walk_at "et"))
  | ((with_reducible refine' et_and ?k1 ?k2); (case k1 => walk_at "et"); (case k2 => (intro _; walk_at "et")))
  | ((with_reducible refine' et_or ?k1 ?k2); (case k1 => walk_at "et"); (case k2 => (intro _; walk_at "et"))))
local macro_rules | `(tactic| walk_at "give") => `(tactic| ((with_reducible refine' xs_give ?k1 ?_); (case k1 => walk_at "ev")))
local macro_rules | `(tactic| walk_at "ret") => `(tactic| ((with_reducible refine' xs_ret ?k1 ?_); (case k1 => walk_at "ev")))
local macro_rules | `(tactic| walk_at "tst") => `(tactic| ((with_reducible refine' et_tst ?k1 ?_); (case k1 => walk_at "ev")))
local macro_rules | `(tactic| walk_at "etto") => `(tactic| ((with_reducible refine' et_to ?k1 ?_); (case k1 => walk_at "et")))
local macro_rules | `(tactic| walk_at "evto") => `(tactic| ((with_reducible refine' ev_dto ?k1 ?_); (case k1 => walk_at "ev")))

section
variable {P : Program} {w : World} {K : PySem.W.Frag} {mg : Str → Option Value} {base : Heap}
/-! WO: a new Tape; clean. -/
/-- it, known to be the instance at x -/
def SelfP (x : Addr) (C : Addr) (fs : List (Str × Sl)) (no : List Str) (B : Hp) (v : V) : Prop := v = .ref x ∧ InsAt C fs no B v
theorem SelfP.mono {x C : Addr} {fs : List (Str × Sl)} {no : List Str} : Mono (SelfP x C fs no) := fun B B' v e ⟨h1, h2⟩ => ⟨h1, InsAt.mono _ _ _ e h2⟩
theorem xi_readP {C : Addr} {no : List Str} {δ : List Sl} {fs : List (Str × Sl)} {n : Nat} {O : List Sl → List (Str × Sl) → Nat → Prop} {t : TS}
    (h : ∀ x, ExS t (δ.set 0 (.ob (SelfP x C fs no))) { nx := fun δ' => δ'[0]? = some (.ob (SelfP x C fs no)) ∧ O (forget δ') fs n, rt := fun _ => False }) :
    ExI t C no δ fs n O := fun B0 H0 B H σ x e h0 hx s hn hl D k => by
  obtain ⟨dx, vs, h1, h2, e1⟩ := self_env e h0 hx s
  have i1 : InsAt C fs no (upd B x (.ins C dx vs)) (.ref x) := by
    have h0' : 0 < δ.length := by
      have := (List.getElem?_eq_some_iff.mp h0).1
      rw [e.len] at this
      exact this
    obtain ⟨v, z1, z2, z3⟩ := e1.at_ 0 _ (List.getElem?_set_self h0')
    rw [h0] at z1
    cases z1
    exact z3
  have e2 := e1.know h0 (r := .ob (SelfP x C fs no)) ⟨SelfP.mono, rfl, i1⟩
  rw [List.set_set] at e2
  refine h x _ _ _ _ _ e2 _ ⟨fun σ' B' H' δ' e' b q => ?_, fun _ _ _ _ _ _ _ z => z.elim, fun _ _ _ _ _ _ z => z.elim, fun _ _ _ _ _ _ z => z.elim⟩
  obtain ⟨v, z1, _, rfl, _⟩ := e'.at_ 0 _ q.1
  have hB' : B' x = some (.ins C dx vs) := b _ _ upd_same
  have hH' : H' x = some (.ins C dx vs) := e'.gr.sub _ _ hB'
  obtain ⟨a1, a2, a3⟩ := self_back (C := C) (fs := fs) (no := no) hx h2 e.gr.b s h1 hH' b e'
  obtain ⟨dx2, vs2, l1, l2⟩ := hl
  rw [h1] at l1
  cases l1
  exact k σ' (hide B' x) H' _ fs n a1 z1 a2 hn ⟨dx, vs, hH', l2⟩ a3 q.2
def R_Tape_init (T : Txt K mg) (as : List Sl) (φ : Hp → V → Prop) : Prop := ∃ (M : Mach), M.Ok ∧ as = [.d (.int M.m), .d (.int M.s), .d (.list (M.rows.map orD))] ∧ φ = TapeAt T.C_Tape M
theorem R_Tape_init_len (T : Txt K mg) (as : List Sl) (φ : Hp → V → Prop) (h : R_Tape_init T as φ) : as.length = 3 := by obtain ⟨_, _, rfl, _⟩ := h; rfl
theorem ok_Tape_init (T : Txt K mg) : FnOk P w K mg base CX0 3 T.Tape_init.f T.Tape_init.fd P_Tape_init (spI T.C_Tape (R_Tape_init T)) := by
  refine T.Tape_init.F.ok sc_Tape_init (fun vs H Q E h => ?_) (fun cdv A outer s H vs Q E hr h => ?_)
  · exact spI_len (R_Tape_init_len T) h
  · refine ⟨_, (pss_cons (ps_if (PW.pt (pw_or (pt_not (pt_val (pe_call (ok_is_integer T) (hr.mono (by decide)) (by rfl) T.is_integer.g T.is_integer.F.kp T.is_integer.b .nil pass0 (pa_cons (pv 1) (pa_cons pe_int (pa_cons (pe_glob (v := .int 8) (by rfl) T.c_MOST_MARKS_tape ⟨_, rfl⟩) pa_nil)))))) (pw_or1 (pt_not (pt_val (pe_call (ok_is_integer T) (hr.mono (by decide)) (by rfl) T.is_integer.g T.is_integer.F.kp T.is_integer.b .nil pass0 (pa_cons (pv 2) (pa_cons pe_int (pa_cons (pe_glob (v := .int 40) (by rfl) T.c_MOST_STATES_tape ⟨_, rfl⟩) pa_nil))))))))) pss_never pss_nil)
    (pss_cons (ps_if (pt_cmpR (k_ne (K := K) rfl hr.units) (pe_callB (k_len (K := K) rfl) (by rfl) T.b_len (by decide +kernel) (pa_cons (pv 3) pa_nil)) (pe_op (op_mulG) (pv 1) (pv 2)) (nomark _)) pss_never pss_nil)
    (pss_cons (k_sfld (K := K) rfl (pv 0) (pv 1) rfl)
    (pss_cons (k_sfld (K := K) rfl (pv 0) (pv 2) rfl)
    (pss_cons (ps_for PassesOwn.never rfl (k_piL (K := K) rfl (pv 3)) (pg_name (i := 4) sc_Tape_init.nd rfl (Or.inl rfl)) (pss_one (ps_if (PW.pt (pw_and (pt_cmpR (op_isNotG) (pv 4) pe_non (nomark _)) (pw_and1 (pt_not (pt_val (pe_meth (pv 0) T.cl_Tape T.Tape_is_row.m (ok_Tape_is_row T) (hr.mono (by decide)) T.Tape_is_row.b .nil pass0 (pa_cons (pv 4) pa_nil))))))) pss_never pss_nil)))
    (pss_one (k_sfld (K := K) rfl (pv 0) (pe_callTy (k_lst (K := K) rfl) (by rfl) T.b_list (by decide +kernel) (pa_cons (pv 3) pa_nil)) rfl))))))), ?_⟩
    refine spI_run (no := TapeN) h (Nat.le_of_ble_eq_true rfl) (fun as φ hR => ?_)
    obtain ⟨M, ok, rfl, rfl⟩ := hR
    have m2 := ok.m2
    have m8 := ok.m8
    have s1 := ok.s1
    have s40 := ok.s40
    have hs : ∀ s' : Sl, (Sl.no :: ([Sl.d (.int M.m), Sl.d (.int M.s), Sl.d (.list (M.rows.map orD))] ++ [Sl.no]))[0]? = some s' → s' = Sl.no := fun s h => (Option.some.inj h).symm
    refine xi_skip (et_or0 (et_not' (et_tsB (ev_call (ea_cons (ev_var rfl) (ea_cons ev_int (ea_cons ev_int ea_nil))) ⟨_, _, _, rfl, rfl⟩) (b := true) (by simp; omega)) rfl)
      (et_not' (et_tsB (ev_call (ea_cons (ev_var rfl) (ea_cons ev_int (ea_cons ev_int ea_nil))) ⟨_, _, _, rfl, rfl⟩) (b := true) (by simp; omega)) rfl)) ?_
    refine xi_skip (et_tst (ev_op (ev_cb (ed_cons (ev_var rfl) ed_nil) rc_lenL) (ev_op (ev_var rfl) (ev_var rfl) (rd_mul (cmul_s (by omega) (by omega)))) rd_neI) ?_) ?_
    · rw [List.length_map, ok.len]
      simp
    refine xi_seq (xi_new [] rfl rfl T.cl_Tape T.n_Tape_marks (r := .d (.int M.m)) (ev_var rfl) trivial (by decide +kernel) (by decide) hs ?_)
    refine xi_seq (xi_new ["marks"] rfl (by decide +kernel) T.cl_Tape T.n_Tape_states (r := .d (.int M.s)) (ev_var rfl) trivial (by decide +kernel) (by decide) hs ?_)
    refine xi_seq (xi_readP fun x => ?_)
    refine xs_for (ei_list (ev_var rfl)) (fun i δ => ∃ a, δ = [.ob (SelfP x T.C_Tape [("states", .d (.int M.s)), ("marks", .d (.int M.m))] TapeN), .d (.int M.m), .d (.int M.s), .d (.list (M.rows.map orD)), a]) ⟨_, rfl⟩ ?_ ?_
    · rintro i d δ1 hd ⟨a, rfl⟩
      obtain ⟨r, hr, rfl⟩ := List.mem_map.mp (List.mem_of_getElem? hd)
      refine ⟨_, _, eg_name, ?_⟩
      cases r with
      | none => exact xs_if0 (et_and0 (et_tst (ev_op (ev_var rfl) ev_non rd_isNot) rfl)) (xs_next ⟨_, rfl⟩)
      | some r =>
        obtain ⟨b, d, t⟩ := r
        obtain ⟨z1, z2, z3, z4, z5⟩ := ok.row b d t hr
        exact xs_if0 (et_and1 (et_tst (ev_op (ev_var rfl) ev_non rd_isNot) rfl) (et_not' (et_tsB (ev_meth (ev_ob rfl) (fun B v h => InsAt.isIns (by decide +kernel) B v h.2) (ea_cons (ev_var rfl) ea_nil)
          ⟨_, M.m, M.s, b, d, t, fun B v h => InsAt.hasF (.tail _ (.head _)) T.cl_Tape T.n_Tape_marks B v h.2, fun B v h => InsAt.hasF (.head _) T.cl_Tape T.n_Tape_states B v h.2, rfl, z1, z2, z3, z4, z5, rfl⟩) (b := true) rfl) rfl)) (xs_next ⟨_, rfl⟩)
    · rintro δ1 ⟨a, rfl⟩
      refine ⟨rfl, ?_⟩
      refine xi_new ["states", "marks"] rfl (by decide +kernel) T.cl_Tape T.n_Tape_rows (r := .d (.list (M.rows.map orD))) (ev_ofL (el_cb (ed_cons (ev_var rfl) ed_nil) rcl_lst)) trivial (by decide +kernel) (by decide) (fun s h => (Option.some.inj h).symm) ?_
      intro B v hI
      refine hI.weak (fun p hp => ?_) (fun m hm => hm)
      simp only [TapeF, List.mem_cons, List.not_mem_nil, or_false] at hp
      rcases hp with rfl | rfl | rfl
      · exact .tail _ (.tail _ (.head _))
      · exact .tail _ (.head _)
      · exact .head _
def R_clean (T : Txt K mg) (as : List Sl) (r : Sl) : Prop := ∃ (M : Mach), M.Ok ∧ as = [.ob (TapeAt T.C_Tape M)] ∧ 1 ≤ M.pairs ∧ M.pairs ≤ 320 ∧ 1 ≤ M.end_ ∧ M.end_ ≤ 4000 ∧ M.clean.length ≤ 20000 ∧ (∀ rw ∈ M.clean, rw.bd (M.pairs + 1) (M.end_ + 1)) ∧ M.clean.Pairwise Rw.ok ∧ (M.clean.map Rw.bw).Pairwise Rw.ok ∧ r = .ob (SevAt T.C_Several M.clean)
theorem R_clean_len (T : Txt K mg) (as : List Sl) (r : Sl) (h : R_clean T as r) : as.length = 1 := by obtain ⟨_, _, rfl, _⟩ := h; rfl
theorem ok_clean (T : Txt K mg) : FnOk P w K mg base CX0 6 T.clean.f T.clean.fd P_clean (spR (R_clean T)) := by
  refine T.clean.F.ok sc_clean (fun vs H Q E h => ?_) (fun cdv A outer s H vs Q E hr h => ?_)
  · exact spR_len (R_clean_len T) h
  · refine ⟨_, (pss_cons (ps_set (i := 1) sc_clean.nd rfl (Or.inl rfl) (pe_make T.Numbers_init.m (ok_Numbers_init T) (hr.mono (by decide)) (by rfl) T.g_Numbers T.Numbers_init.b .nil pass0 (pa_cons (pv 0) pa_nil)))
    (pss_cons (ps_set (i := 2) sc_clean.nd rfl (Or.inl rfl) (pe_op (k_add (K := K) rfl) (pe_op (k_add (K := K) rfl) (pe_call (ok_forth T) (hr.mono (by decide)) (by rfl) T.forth.g T.forth.F.kp T.forth.b .nil pass0 (pa_cons (pv 1) pa_nil)) (pe_call (ok_copying T) (hr.mono (by decide)) (by rfl) T.copying.g T.copying.F.kp T.copying.b .nil pass0 (pa_cons (pv 1) pa_nil))) (pe_call (ok_back T) (hr.mono (by decide)) (by rfl) T.back.g T.back.F.kp T.back.b .nil pass0 (pa_cons (pv 1) pa_nil))))
    (pss_one (ps_ret (pe_make T.Several_init.m (ok_Several_init T) (hr.mono (by decide)) (by rfl) T.g_Several T.Several_init.b .nil pass0 (pa_cons pe_int (pa_cons (pe_op (k_add (K := K) rfl) (k_fld (K := K) rfl (pv 1) rfl) pe_int) (pa_cons (pe_op (k_add (K := K) rfl) (k_fld (K := K) rfl (pv 1) rfl) pe_int) (pa_cons (pv 2) pa_nil))))))))), ?_⟩
    refine spR_run h (fun as r hR => ?_)
    obtain ⟨M, ok, rfl, p1, p2, e1, e2, hl, hb, hp, hq, rfl⟩ := hR
    have hl' : (M.forth.map rwD).length + (M.copying.map rwD).length + (M.back.map rwD).length ≤ 20000 := by
      simp only [List.length_map]
      have : M.clean.length = M.forth.length + M.copying.length + M.back.length := by
        unfold Mach.clean
        rw [List.length_append, List.length_append]
      omega
    refine xs_give (ev_make (ea_cons (ev_ob rfl) ea_nil) ⟨M, ok, rfl, rfl⟩ InsAt.mono) ?_
    refine xs_give (ev_ofL (el_to (el_op (ev_ofL (el_op (ev_call (ea_cons (ev_ob rfl) ea_nil) ⟨M, ok, rfl, rfl⟩) (ev_call (ea_cons (ev_ob rfl) ea_nil) ⟨M, ok, rfl, rfl⟩) (rdl_addL (by omega)))) (ev_call (ea_cons (ev_ob rfl) ea_nil) ⟨M, ok, rfl, rfl⟩) (rdl_addL (by rw [List.length_append]; omega))) (r' := M.clean.map rwD) ?_)) ?_
    · unfold Mach.clean
      rw [List.map_append, List.map_append]
    exact xs_ret (ev_make (ea_cons ev_int (ea_cons (ev_op (ev_fld (ev_ob rfl) (num_pairs T)) ev_int rd_addI) (ea_cons (ev_op (ev_fld (ev_ob rfl) (num_end T)) ev_int rd_addI) (ea_cons (ev_var rfl) ea_nil)))) ⟨M.clean, M.pairs + 1, M.end_ + 1, rfl, by omega, by omega, by omega, by omega, hl, hb, hp, hq, rfl⟩ InsAt.mono) rfl
end
end BK
set_option maxRecDepth 100000
set_option maxHeartbeats 4000000
/-! DX: a new tuple with its object known; its index of an int. -/
namespace DL
open PySem PySem.Spec PyProof.Rows L2
/-- a tuple whose object is known to have no dict -/
def Tk (H : Hp) (p : Addr) (xs : List V) : Prop := ∃ o : Obj, H p = some (.frz o (.tup xs)) ∧ o.cls = .type "tuple" ∧ o.dict = none
theorem Tk.sq {K : PySem.W.Frag} {H : Hp} {p : Addr} {xs : List V} (h : Tk H p xs) : SqT K H p xs := by
  obtain ⟨o, h, _⟩ := h
  exact .inl (.inr ⟨o, h⟩)
theorem Tk.mono {H H' : Hp} {p : Addr} {xs : List V} (h : Tk H p xs) (e : Ex H H') : Tk H' p xs := by
  obtain ⟨o, h, h2⟩ := h
  exact ⟨o, e _ _ h, h2⟩
def tTupF (t : TA) : TE := fun σ H Q => t σ H fun vs H1 => vs.length ≤ sizeLine ∧ ∀ (p : Addr) (o : Obj), H1 p = none → o.cls = .type "tuple" → o.dict = none → Q (.ref p) (upd H1 p (.frz o (.tup vs)))
def rCatF (K : PySem.W.Frag) : R2 := fun x y H Q => ∃ a b xs ys, x = .ref a ∧ y = .ref b ∧ SqT K H a xs ∧ SqT K H b ys ∧ xs ≠ [] ∧ xs.length + ys.length ≤ sizeLine ∧ (ys = [] → Q x H) ∧
  (ys ≠ [] → ∀ (p : Addr) (o : Obj), H p = none → o.cls = .type "tuple" → o.dict = none → Q (.ref p) (upd H p (.frz o (.tup (xs ++ ys)))))
def tIdxI (to : TE) (t : TA) : TE := fun σ H Q => to σ H fun x H1 => ∃ p xs, x = .ref p ∧ Tk H1 p xs ∧ t σ H1 fun ys H2 => ∃ (ns : List Int) (z : Int) (j : Nat), ys = [.int z] ∧ Tk H2 p (ns.map V.int) ∧ ns[j]? = some z ∧ (∀ m, m < j → ns[m]? ≠ some z) ∧ Q (.int (j : Nat)) H2
section
variable {X : Cx} {es : List Expr} {o e : Expr} {te : TE} {t : TA} {pos apos cpos : Pos}
theorem pe_tupF {x1} (h : PA X es t) : PE X (.Tuple es x1 pos) (tTupF t) := by
  refine ⟨fun pins s σ H Q I hq => ?_⟩
  refine wpAny_Tuple_spliced (thn (h.run pos pins s σ H _ I hq) fun us s1 ⟨xs, H1, I1, r, z, q⟩ => ⟨by rw [← r.length]; exact z, ?_⟩)
  have hf : H1 s1.heap.objs.size = none := I1.hok.fresh (Nat.le_refl _)
  refine ⟨.ref s1.heap.objs.size, upd H1 s1.heap.objs.size (.frz { cls := .type "tuple", data := .seq us.toArray } (.tup xs)), I1.laid (t' := s1.toks) (fun b u e => Heap.get?_push_of_some _ e) (Nat.le_refl _) ?_, rfl, q _ _ hf rfl rfl⟩
  exact ⟨Heap.get?_push_size _ rfl, z, us, r, ⟨_, Heap.get?_push_size _ rfl, rfl, _, rfl⟩⟩
theorem op_catF : OpR X (binaryOp .Add) (rCatF X.K) := by
  intro pins s σ H x y v u Q I rx ry h
  obtain ⟨a, b, xs, ys, rfl, rfl, ha, hb, hx, hz, q1, q2⟩ := h
  cases rx
  cases ry
  obtain ⟨its, r1, p1, _⟩ := I.tuple ha
  obtain ⟨its2, r2, p2, _⟩ := I.tuple hb
  refine HT.cat_tup p1 p2 (fun z => hx (r1.nil_iff.mp z)) (fun z => ⟨.ref a, H, I, rfl, q1 (r2.nil_iff.mp z)⟩) (fun z => ?_) (by rw [← r1.length, ← r2.length]; exact hz)
  refine ⟨.ref s.heap.objs.size, _, I.laid (t' := s.toks) (o := .frz { cls := .type "tuple", data := .seq (its ++ its2).toArray } (.tup (xs ++ ys))) (fun b ob q => Heap.get?_push_of_some _ q) (Nat.le_refl _) ?_, rfl, q2 (fun w => z (r2.nil_iff.mpr w)) _ _ (I.hok.fresh (Nat.le_refl _)) rfl rfl⟩
  exact ⟨Heap.get?_push_size _ rfl, by rw [List.length_append]; exact hz, _, r1.append r2, IsTup.new _ _⟩
theorem k_catF {K : PySem.W.Frag} (h : X.K = K) : OpR X (binaryOp .Add) (rCatF K) := h ▸ op_catF
theorem flat_ints (ys : List Int) : (ys.map V.int).all flatV = true := by
  rw [List.all_map]
  exact List.all_eq_true.mpr fun _ _ => rfl
theorem k_idx (ho : PE X o te) (ha : PA X [e] t)
    (hbase : attributeBase o "index" X.env (eval o X.env) = eval o X.env := by rfl)
    (hfew : ((backTo cpos (starEach [e] X.env)).all (fun x => !x.1) && (backToKw cpos (keywordEach [] X.env)).all (fun x => x.1.isSome)
      && decide ([e].length + ([] : List Keyword).length + (if ([] : List Keyword).isEmpty then 0 else 1) < 30)) = true := by rfl)
    (hline : (apos.endLine == cpos.line) = true := by rfl) (hs : starEach [e] X.env = (false, eval e X.env) :: starEach [] X.env := by rfl) (hplain : (backTo cpos (starEach [] X.env)).any (·.1) = false := by rfl) :
    PE X (.Call (.Attribute o "index" apos) [e] [] cpos) (tIdxI te t) := by
  refine ⟨fun pins s σ H Q I h => ?_⟩
  refine wpAny_Call_method_late hbase hfew hline rfl (thn (ho.run pins s σ H _ I h) fun v s1 ⟨x, H1, I1, r1, p, xs, hx, hk, q1⟩ => ?_)
  subst hx
  cases r1
  obtain ⟨ob, hk1, hk2, hk3⟩ := hk
  have hob := (I1.hok p _ hk1).1
  refine ⟨"tuple", "tuple.index", PySem.F.plainAttrs_tuple, PySem.F.slot_tuple_index, PySem.F.type_tuple_index, ⟨ob, hob, hk2⟩, fun a e => ?_, ?_⟩
  · cases e
    exact ⟨ob, hob, hk3⟩
  have hA := ha.run cpos pins s1 σ H1 _ I1 q1
  rw [hs] at hA ⊢
  refine Calls.callWith_builtin (by show (false || (backTo cpos (starEach [] X.env)).any (·.1)) = false; rw [hplain] <;> rfl) (Calls.evalArgs_plain ?_)
  refine thn hA fun us s2 ⟨vs, H2, I2, r2, ns, z, j, hvs, hk, hy, hno, q⟩ => ?_
  subst hvs
  obtain ⟨u, rfl, t, rfl⟩ := vals1 r2
  obtain ⟨its, r, pl, hz⟩ := I2.tuple hk.sq
  obtain ⟨⟨cls, dd, dt, sl⟩, ho, hc, n, hd⟩ := pl
  simp only at hc hd
  subst hc
  subst hd
  have hl : its.toArray.size = ns.length := by rw [List.size_toArray, ← r.length, List.length_map]
  have hj : j < its.toArray.size := by rw [hl]; exact (List.getElem?_eq_some_iff.mp hy).1
  have at' : ∀ (m : Nat) (hm : m < its.toArray.size), ∃ y t', ns[m]? = some y ∧ its.toArray[m] = Value.int y t' := fun m hm => by
    have hm' : m < ns.length := by rw [← hl]; exact hm
    obtain ⟨w, hw, t', hw'⟩ := r.get (i := m) (x := .int ns[m]) (by simp [hm'])
    refine ⟨ns[m], t', List.getElem?_eq_getElem hm', ?_⟩
    have e := (List.getElem?_eq_some_iff.mp hw).2
    rw [← hw', ← e]
    simp
  refine call_meets PySem.F.slot_tuple_index ⟨_, ho, rfl⟩ PySem.F.entry_tuple_index (PySem.F.args_tuple_index_2 _ _) (TI.tuple_indexAt p its.toArray n dd sl (.int z t) (eqU (.int z)) j hj ?_ ?_)
    ⟨ho, fun w hw => mem_eqAt (x := .int z) ⟨t, rfl⟩ rfl r (flat_ints ns) w (by simpa using hw), ⟨.int (j : Nat), H2, I2.tok _, ⟨_, rfl⟩, q⟩⟩
  · obtain ⟨y, t', h1, h2⟩ := at' j hj
    rw [hy] at h1
    cases h1
    rw [h2]
    show (z == z) = true
    exact beq_self_eq_true z
  · intro m hm hmj
    obtain ⟨y, t', h1, h2⟩ := at' m hm
    rw [h2]
    show (y == z) = false
    exact beq_eq_false_iff_ne.mpr fun e => hno m hmj (e ▸ h1)
end
end DL
set_option maxRecDepth 100000
set_option maxHeartbeats 4000000
namespace BK
open PySem L2 DL CM
local macro_rules | `(tactic| walk_at "rd") => `(tactic| first
  | with_reducible exact rd_addI
  | with_reducible exact rd_sub
  | with_reducible exact rd_lt
  | with_reducible exact rd_le
  | with_reducible exact rd_gt
  | with_reducible exact rd_ge
  | with_reducible exact rd_eqI
  | with_reducible exact rd_neI
  | with_reducible exact rd_is
  | with_reducible exact rd_isNot
  | exact rd_mul (cmul_s (by omega) (by omega))
  | exact rd_mod (by first | decide | omega)
  | exact rd_fdv (by first | decide | omega)
  | exact rd_consI (by first | omega | (simp; omega) | simp)
  | exact rd_snocI (by first | omega | (simp; omega) | simp)
  | exact rd_catI (by first | omega | (simp; omega) | simp)
  | with_reducible exact rd_head0
  | with_reducible exact rd_ww
  | with_reducible exact rd_mm
  | with_reducible exact rd_wm
  | with_reducible exact rd_mw
  | with_reducible exact rd_nww
  | exact rd_ixT rfl
  | exact rd_ixL rfl
  | exact rd_addT (by first | decide | simp))
local macro_rules | `(tactic| walk_at "R") => `(tactic| first
  | exact ⟨_, _, _, rfl, rfl⟩
  | exact ⟨_, rfl, (by first | omega | (simp; omega) | simp), rfl⟩)
local macro_rules | `(tactic| walk_at "rc") => `(tactic| first
  | with_reducible exact rc_int
  | with_reducible exact rc_intB
  | with_reducible exact rc_lenT
  | with_reducible exact rc_lenL
  | with_reducible exact rc_abs
  | with_reducible exact rc_tupL
  | with_reducible exact rc_tupT)
local macro_rules | `(tactic| walk_at "ev") => `(tactic| first
  | with_reducible exact ev_int
  | with_reducible exact ev_non
  | with_reducible exact ev_bl
  | with_reducible exact ev_str
  | exact ev_var rfl
  | exact ev_ob rfl
  | ((with_reducible refine' ev_isi ?k1 ?k2); (case k1 => walk_at "ev"); (case k2 => first | exact kit_ii | exact kit_ib | exact kit_tt | exact kit_it))
  | ((with_reducible refine' ev_op ?k1 ?k2 ?k3); (case k1 => walk_at "ev"); (case k2 => walk_at "ev"); (case k3 => walk_at "rd"))
  | ((with_reducible refine' ev_un ?k1 ?k2); (case k1 => walk_at "ev"); (case k2 => exact ru_neg))
  | ((with_reducible refine' ev_cb ?k1 ?k2); (case k1 => walk_at "ed"); (case k2 => walk_at "rc"))
  | ((with_reducible refine' ev_tup ?k1 ?k2); (case k1 => walk_at "ed"); (case k2 => exact Nat.le_of_ble_eq_true rfl))
  | ((with_reducible refine' ev_andV ?k1 ?k2); (case k1 => walk_at "ev"); (case k2 => (intro _; walk_at "ev")))
  | ((with_reducible refine' ev_orV ?k1 ?k2); (case k1 => walk_at "ev"); (case k2 => (intro _; walk_at "ev")))
  | ((with_reducible refine' ev_notV ?k1); (case k1 => walk_at "ev"))
  | ((with_reducible refine' ev_chain ?k1 ?k2 ?k3 ?k4 ?k5); (case k1 => walk_at "ev"); (case k2 => walk_at "ev"); (case k3 => (intro _; walk_at "ev")); (case k4 => walk_at "rd"); (case k5 => walk_at "rd"))
  | ((with_reducible refine' ev_fld ?k1 ?k2); (case k1 => walk_at "ev"); (case k2 => walk_at "F"))
  | ((with_reducible refine' ev_meth ?k1 ?k2 ?k3 ?k4); (case k1 => walk_at "ev"); (case k2 => walk_at "I"); (case k3 => walk_at "ea"); (case k4 => walk_at "R"))
  | ((with_reducible refine' ev_call ?k1 ?k2); (case k1 => walk_at "ea"); (case k2 => walk_at "R"))
  | ((with_reducible refine' ev_sl1 ?k1); (case k1 => walk_at "ev"))
  | ((with_reducible refine' ev_sl ?k1 ?k2 ?k3); (case k1 => walk_at "ev"); (case k2 => walk_at "eo"); (case k3 => walk_at "eo"))
  | ((with_reducible refine' ev_ofL (el_sl ?k1 ?k2 ?k3)); (case k1 => walk_at "ev"); (case k2 => walk_at "eo"); (case k3 => walk_at "eo")))
local macro_rules | `(tactic| walk_at "eo") => `(tactic| first
  | with_reducible exact eo_none
  | ((with_reducible refine' eo_some ?k1); (case k1 => walk_at "ev")))
local macro_rules | `(tactic| walk_at "ed") => `(tactic| first
  | with_reducible exact ed_nil
  | ((with_reducible refine' ed_cons ?k1 ?k2); (case k1 => walk_at "ev"); (case k2 => walk_at "ed")))
local macro_rules | `(tactic| walk_at "ea") => `(tactic| first
  | with_reducible exact ea_nil
  | ((with_reducible refine' ea_cons ?k1 ?k2); (case k1 => walk_at "ev"); (case k2 => walk_at "ea")))
local macro_rules | `(tactic| walk_at "et") => `(tactic| first
  | ((with_reducible refine' et_test ?k1); (case k1 => walk_at "ev"))
  | ((with_reducible refine' et_B ?k1); (case k1 => walk_at "ev"))
  | ((with_reducible refine' et_not ?k1); (case k1 => walk_at "et"))
  | ((with_reducible refine' et_and ?k1 ?k2); (case k1 => walk_at "et"); (case k2 => (intro _; walk_at "et")))
  | ((with_reducible refine' et_or ?k1 ?k2); (case k1 => walk_at "et"); (case k2 => (intro _; walk_at "et"))))
local macro_rules | `(tactic| walk_at "give") => `(tactic| ((with_reducible refine' xs_give ?k1 ?_); (case k1 => walk_at "ev")))
local macro_rules | `(tactic| walk_at "ret") => `(tactic| ((with_reducible refine' xs_ret ?k1 ?_); (case k1 => walk_at "ev")))
local macro_rules | `(tactic| walk_at "tst") => `(tactic| ((with_reducible refine' et_tst ?k1 ?_); (case k1 => walk_at "ev")))
local macro_rules | `(tactic| walk_at "etto") => `(tactic| ((with_reducible refine' et_to ?k1 ?_); (case k1 => walk_at "et")))
local macro_rules | `(tactic| walk_at "evto") => `(tactic| ((with_reducible refine' ev_dto ?k1 ?_); (case k1 => walk_at "ev")))

section
variable {P : Program} {w : World} {K : PySem.W.Frag} {mg : Str → Option Value} {base : Heap}
/-! WQ: the law's own helpers. -/
def ansOf (t : Tp) : List Int := (t.m :: t.r).takeWhile fun a => !decide (a = 0)
def stepM (M : Mach) (q : Nat) (t : Tp) : Option (Int × Tp) :=
  match M.at_ q t.m.toNat with
  | none => none
  | some (b, d, z) => some (z, mv ⟨t.l, b, t.r⟩ d)
def upO : Option (Int × Tp) → PyData
  | none => .none
  | some (q, t) => upD q t
def notesI (k t s : Int) : Int :=
  if 0 < k ∧ k < 4 * t + 3 then (k - 1) / 4 else if 4 * t + 2 < k ∧ k < s - 2 - 4 * t then t + 1 else if s - 3 - 4 * t < k ∧ k < s then (s - k - 1) / 4 else 0
theorem cutD_m1 (ds : List PyData) (d : PyData) : cutD (ds ++ [d]) none (some (-1)) = ds := by
  unfold cutD
  rw [HT.sIx_none, List.length_append, List.length_singleton]
  have : HT.sIx (ds.length + 1) (ds.length + 1) (some (-1)) = ds.length := by
    show (if (-1 : Int) < 0 then ((-1 : Int) + ((ds.length + 1 : Nat) : Int)).toNat else min (-1 : Int).toNat (ds.length + 1)) = _
    rw [if_pos (by decide)]
    omega
  rw [this]
  simp
def R_law_trimmed (as : List Sl) (r : Sl) : Prop := ∃ l : List Int, as = [.d (ti l)] ∧ l.length ≤ 90000 ∧ r = .d (ti (trim l))
theorem R_law_trimmed_len (as : List Sl) (r : Sl) (h : R_law_trimmed as r) : as.length = 1 := by obtain ⟨_, rfl, _⟩ := h; rfl
theorem ok_law_trimmed (T : Txt K mg) : FnOk P w K mg base CX0 1 T.law_trimmed.f T.law_trimmed.fd P_law_trimmed (spR R_law_trimmed) := by
  refine T.law_trimmed.F.ok sc_law_trimmed (fun vs H Q E h => ?_) (fun cdv A outer s H vs Q E hr h => ?_)
  · exact spR_len (R_law_trimmed_len) h
  · refine ⟨_, (pss_cons (ps_for PassesOwn.never rfl (pi_range1 rfl T.b_range (pa_cons (pe_callB (k_len (K := K) rfl) (by rfl) T.b_len (by decide +kernel) (pa_cons (pv 0) pa_nil)) pa_nil)) (pg_name (i := 1) sc_law_trimmed.nd rfl (Or.inl rfl)) (pss_one (ps_if (PW.pt (pw_and (pt_cmpR (op_gt') (pe_callB (k_len (K := K) rfl) (by rfl) T.b_len (by decide +kernel) (pa_cons (pv 0) pa_nil)) pe_int (nomark _)) (pw_and1 (pt_cmpR (k_eq (K := K) rfl hr.units) (pe_ix (k_ix (K := K) rfl) (pv 0) (pe_un un_negG pe_int) (fun _ _ => rfl)) pe_int (nomark _))))) (pss_one (ps_set (i := 0) sc_law_trimmed.nd rfl (Or.inl rfl) (pe_slice (k_sl (K := K) rfl) (pv 0) po_none (po_some (pe_un un_negG pe_int))))) pss_nil)))
    (pss_one (ps_ret (pv 0)))), ?_⟩
    refine spR_run h (fun as r hR => ?_)
    obtain ⟨l, rfl, hl, rfl⟩ := hR
    have en : ((l.map PyData.int).length : Int) = (l.length : Int) := by rw [List.length_map]
    refine xs_seq (xs_for (ei_rngN (n := l.length) (ed_cons (ev_dto (ev_cb (ed_cons (ev_var rfl) ed_nil) rc_lenT) (congrArg PyData.int en)) ed_nil) (by omega)) (fun i δ => ∃ (l' : List Int) (a : Sl), δ = [.d (ti l'), a] ∧ l'.length ≤ l.length ∧ trim l' = trim l ∧ (l'.length + i ≤ l.length ∨ trim l' = l')) ⟨l, _, rfl, Nat.le_refl _, rfl, .inl (Nat.le_refl _)⟩ ?_ ?_)
    · rintro i d δ1 hd ⟨l', a, rfl, h0, h1, h2⟩
      obtain ⟨hi, rfl⟩ := rgN_get hd
      refine ⟨_, _, eg_name, ?_⟩
      rcases List.eq_nil_or_concat l' with rfl | ⟨l2, b, rfl⟩
      · refine xs_if0 (et_and0 ?_) (xs_next ⟨[], _, rfl, h0, h1, .inr rfl⟩)
        exact et_tst (ev_op (ev_cb (ed_cons (ev_var rfl) ed_nil) rc_lenT) ev_int rd_gt) rfl
      · rw [List.concat_eq_append] at h0 h1 h2 ⊢
        have ea : ti (l2 ++ [b]) = .tuple (l2.map PyData.int ++ [.int b]) := by simp [ti]
        refine xs_if (b := decide (b = 0)) (et_and1 (et_tst (ev_op (ev_cb (ed_cons (ev_var rfl) ed_nil) rc_lenT) ev_int rd_gt) ?_) (et_test (ev_op (ev_op (ev_var (x := .tuple (l2.map PyData.int ++ [.int b])) ?_) (ev_un ev_int ru_neg) (rd_ixT (atI_last _ _))) ev_int rd_eqI))) (fun hb => ?_) (fun hb => ?_)
        · simp
        · rw [← ea]
          rfl
        · have hb : b = 0 := of_decide_eq_true hb
          refine xs_asg (ev_dto (ev_sl (ev_var (x := .tuple (l2.map PyData.int ++ [.int b])) ?_) eo_none (eo_some (ev_un ev_int ru_neg))) (b := ti l2) ?_) eg_name ?_
          · rw [← ea]
            rfl
          · exact congrArg PyData.tuple (cutD_m1 _ _)
          · rw [List.length_append, List.length_singleton] at h0
            refine ⟨l2, .d (.int (i : Int)), rfl, by omega, ?_, ?_⟩
            · rw [← h1, hb, trim_snoc0]
            · rcases h2 with h2 | h2
              · rw [List.length_append, List.length_singleton] at h2
                exact .inl (by omega)
              · exfalso
                rw [hb, trim_snoc0] at h2
                have := trim_length l2
                rw [h2, List.length_append, List.length_singleton] at this
                omega
        · have hb : b ≠ 0 := of_decide_eq_false hb
          exact xs_next ⟨l2 ++ [b], .d (.int (i : Int)), rfl, h0, h1, .inr (trim_snoc hb l2)⟩
    · rintro δ1 ⟨l', a, rfl, h0, h1, h2⟩
      rw [rgN_length] at h2
      refine xs_ret (ev_var rfl) ?_
      have : trim l' = l' := by
        rcases h2 with h2 | h2
        · have : l' = [] := List.length_eq_zero_iff.mp (by omega)
          rw [this]
          rfl
        · exact h2
      rw [← h1, this]
def R_law_step (as : List Sl) (r : Sl) : Prop := ∃ (M : Mach) (q a : Nat) (t : Tp), M.Ok ∧ q < M.s ∧ a < M.m ∧ t.m = a ∧ t.l.length ≤ 60000 ∧ t.r.length ≤ 60000 ∧
  as = [.d (.list (M.rows.map orD)), .d (.int M.m), .d (upD q t)] ∧ r = .d (upO (stepM M q t))
theorem R_law_step_len (as : List Sl) (r : Sl) (h : R_law_step as r) : as.length = 3 := by obtain ⟨_, _, _, _, _, _, _, _, _, _, rfl, _⟩ := h; rfl
theorem ok_law_step (T : Txt K mg) : FnOk P w K mg base CX0 2 T.law_step.f T.law_step.fd P_law_step (spR R_law_step) := by
  refine T.law_step.F.ok sc_law_step (fun vs H Q E h => ?_) (fun cdv A outer s H vs Q E hr h => ?_)
  · exact spR_len (R_law_step_len) h
  · refine ⟨_, (pss_cons (ps_asg (pv 2) (k_pgT (K := K) (n := 4) rfl rfl (pgs_cons (pg_name (i := 4) sc_law_step.nd rfl (Or.inl rfl)) (pgs_cons (pg_name (i := 5) sc_law_step.nd rfl (Or.inl rfl)) (pgs_cons (pg_name (i := 6) sc_law_step.nd rfl (Or.inl rfl)) (pgs_cons (pg_name (i := 7) sc_law_step.nd rfl (Or.inl rfl)) pgs_nil))))))
    (pss_cons (ps_set (i := 3) sc_law_step.nd rfl (Or.inl rfl) (pe_ix (k_ix (K := K) rfl) (pv 0) (pe_op (k_add (K := K) rfl) (pe_op (op_mulG) (pv 4) (pv 1)) (pv 6)) (fun _ _ => rfl)))
    (pss_cons (ps_if (pt_cmpR (op_isG) (pv 3) pe_non (nomark _)) (pss_one (ps_ret pe_non)) pss_nil)
    (pss_cons (ps_if (pt_cmpR (k_eq (K := K) rfl hr.units) (pe_ix (k_ix (K := K) rfl) (pv 3) pe_int (fun _ _ => rfl)) pe_int (nomark _)) (pss_one (ps_ret (pe_tup (pa_cons (pe_ix (k_ix (K := K) rfl) (pv 3) pe_int (fun _ _ => rfl)) (pa_cons (pe_call (ok_law_trimmed T) (hr.mono (by decide)) (by rfl) T.law_trimmed.g T.law_trimmed.F.kp T.law_trimmed.b .nil pass0 (pa_cons (pe_op (k_add (K := K) rfl) (pe_tup (pa_cons (pe_ix (k_ix (K := K) rfl) (pv 3) pe_int (fun _ _ => rfl)) pa_nil)) (pv 5)) pa_nil)) (pa_cons (pe_ix (k_ix (K := K) rfl) (pe_op (k_add (K := K) rfl) (pv 7) (pe_tup (pa_cons pe_int pa_nil))) pe_int (fun _ _ => rfl)) (pa_cons (pe_slice (k_sl (K := K) rfl) (pv 7) (po_some pe_int) po_none) pa_nil))))))) pss_nil)
    (pss_one (ps_ret (pe_tup (pa_cons (pe_ix (k_ix (K := K) rfl) (pv 3) pe_int (fun _ _ => rfl)) (pa_cons (pe_slice (k_sl (K := K) rfl) (pv 5) (po_some pe_int) po_none) (pa_cons (pe_ix (k_ix (K := K) rfl) (pe_op (k_add (K := K) rfl) (pv 5) (pe_tup (pa_cons pe_int pa_nil))) pe_int (fun _ _ => rfl)) (pa_cons (pe_call (ok_law_trimmed T) (hr.mono (by decide)) (by rfl) T.law_trimmed.g T.law_trimmed.F.kp T.law_trimmed.b .nil pass0 (pa_cons (pe_op (k_add (K := K) rfl) (pe_tup (pa_cons (pe_ix (k_ix (K := K) rfl) (pv 3) pe_int (fun _ _ => rfl)) pa_nil)) (pv 7)) pa_nil)) pa_nil))))))))))), ?_⟩
    refine spR_run h (fun as r hR => ?_)
    obtain ⟨M, q, a, t, ok, hq, ha, hm, hl, hr', rfl, rfl⟩ := hR
    have m8 := ok.m8
    have s40 := ok.s40
    obtain ⟨tl, tm, tr⟩ := t
    have hm : tm = a := hm
    subst hm
    have hl : tl.length ≤ 60000 := hl
    have hr' : tr.length ≤ 60000 := hr'
    refine xs_giveG (ev_var rfl) (eg_tup (by rfl) (egs_cons eg_name (egs_cons eg_name (egs_cons eg_name (egs_cons eg_name egs_nil))))) ?_
    refine xs_give (ev_op (ev_var rfl) (ev_op (ev_op (ev_var rfl) (ev_var rfl) (rd_mul (cmul_s (by omega) (by omega)))) (ev_var rfl) rd_addI) (rd_ixL (d := orD (M.at_ q a)) (atI_ofNat (j := q * M.m + a) ?_ ?_))) ?_
    · rw [Int.natCast_add, Int.natCast_mul]
    · rw [List.getElem?_map, ok.at_mem hq ha]
      rfl
    have es : stepM M q ⟨tl, (a : Int), tr⟩ = match M.at_ q a with | none => none | some (b, d, z) => some (z, mv ⟨tl, b, tr⟩ d) := by
      unfold stepM
      rw [show ((⟨tl, (a : Int), tr⟩ : Tp).m.toNat) = a from Int.toNat_natCast a]
    rw [es]
    cases ho : M.at_ q a with
    | none => exact xs_seq (xs_if1 (et_tst (ev_op (ev_var rfl) ev_non rd_is) rfl) (xs_ret ev_non rfl))
    | some r =>
      obtain ⟨b, d, z⟩ := r
      have hrow := ok.row b d z (by
        have := ok.at_mem hq ha
        rw [ho] at this
        exact List.mem_of_getElem? this)
      obtain ⟨_, _, hd, _, _⟩ := hrow
      refine xs_skip (et_tst (ev_op (ev_var rfl) ev_non rd_is) rfl) ?_
      rcases hd with rfl | rfl
      · refine xs_skip (et_tst (ev_op (ev_op (ev_var rfl) ev_int (rd_ixT rfl)) ev_int rd_eqI) rfl) ?_
        refine xs_ret (ev_tup (ed_cons (ev_op (ev_var rfl) ev_int (rd_ixT rfl)) (ed_cons (ev_sl1 (ev_var rfl)) (ed_cons (ev_op (ev_op (ev_var rfl) (ev_tup (ed_cons ev_int ed_nil) (Nat.le_of_ble_eq_true rfl)) (rd_snocI (by omega))) ev_int rd_head0)
          (ed_cons (ev_call (ea_cons (ev_op (ev_tup (ed_cons (ev_op (ev_var rfl) ev_int (rd_ixT rfl)) ed_nil) (Nat.le_of_ble_eq_true rfl)) (ev_var rfl) (rd_consI (by omega))) ea_nil) ⟨_, rfl, by rw [List.length_cons]; omega, rfl⟩) ed_nil)))) (Nat.le_of_ble_eq_true rfl)) rfl
      · refine xs_seq (xs_if1 (et_tst (ev_op (ev_op (ev_var rfl) ev_int (rd_ixT rfl)) ev_int rd_eqI) rfl) ?_)
        refine xs_ret (ev_tup (ed_cons (ev_op (ev_var rfl) ev_int (rd_ixT rfl)) (ed_cons (ev_call (ea_cons (ev_op (ev_tup (ed_cons (ev_op (ev_var rfl) ev_int (rd_ixT rfl)) ed_nil) (Nat.le_of_ble_eq_true rfl)) (ev_var rfl) (rd_consI (by omega))) ea_nil) ⟨_, rfl, by rw [List.length_cons]; omega, rfl⟩)
          (ed_cons (ev_op (ev_op (ev_var rfl) (ev_tup (ed_cons ev_int ed_nil) (Nat.le_of_ble_eq_true rfl)) (rd_snocI (by omega))) ev_int rd_head0) (ed_cons (ev_sl1 (ev_var rfl)) ed_nil)))) (Nat.le_of_ble_eq_true rfl)) rfl
def R_law_notes (as : List Sl) (r : Sl) : Prop := ∃ k t s : Int, as = [.d (.int k), .d (.int t), .d (.int s)] ∧ 0 ≤ t ∧ t ≤ 10000 ∧ r = .d (.int (notesI k t s))
theorem R_law_notes_len (as : List Sl) (r : Sl) (h : R_law_notes as r) : as.length = 3 := by obtain ⟨_, _, _, rfl, _⟩ := h; rfl
theorem ok_law_notes (T : Txt K mg) : FnOk P w K mg base CX0 1 T.law_notes.f T.law_notes.fd P_law_notes (spR R_law_notes) := by
  refine T.law_notes.F.ok sc_law_notes (fun vs H Q E h => ?_) (fun cdv A outer s H vs Q E hr h => ?_)
  · exact spR_len (R_law_notes_len) h
  · refine ⟨_, (pss_cons (ps_if (pt_chain (op_lt') (op_lt') pe_int (pv 0) (pe_op (k_add (K := K) rfl) (pe_op (op_mulG) pe_int (pv 1)) pe_int)) (pss_one (ps_ret (pe_op (op_fdv) (pe_op (op_subG) (pv 0) pe_int) pe_int))) pss_nil)
    (pss_cons (ps_if (pt_chain (op_lt') (op_lt') (pe_op (k_add (K := K) rfl) (pe_op (op_mulG) pe_int (pv 1)) pe_int) (pv 0) (pe_op (op_subG) (pe_op (op_subG) (pv 2) pe_int) (pe_op (op_mulG) pe_int (pv 1)))) (pss_one (ps_ret (pe_op (k_add (K := K) rfl) (pv 1) pe_int))) pss_nil)
    (pss_cons (ps_if (pt_chain (op_lt') (op_lt') (pe_op (op_subG) (pe_op (op_subG) (pv 2) pe_int) (pe_op (op_mulG) pe_int (pv 1))) (pv 0) (pv 2)) (pss_one (ps_ret (pe_op (op_fdv) (pe_op (op_subG) (pe_op (op_subG) (pv 2) (pv 0)) pe_int) pe_int))) pss_nil)
    (pss_one (ps_ret pe_int))))), ?_⟩
    refine spR_run h (fun as r hR => ?_)
    obtain ⟨k, t, s, rfl, t0, t1, rfl⟩ := hR
    unfold notesI
    refine xs_seq (xs_if (et_test (ev_chain ev_int (ev_var rfl) (fun _ => ev_op (ev_op ev_int (ev_var rfl) (rd_mul (cmul_s (by omega) (by omega)))) ev_int rd_addI) rd_lt rd_lt)) (fun h => ?_) (fun h => ?_))
    · have h : 0 < k ∧ k < 4 * t + 3 := by simpa using h
      rw [if_pos h]
      exact xs_ret (ev_op (ev_op (ev_var rfl) ev_int rd_sub) ev_int (rd_fdv (by decide))) rfl
    have h : ¬ (0 < k ∧ k < 4 * t + 3) := fun z => by simp [z.1, z.2] at h
    rw [if_neg h]
    refine xs_next ?_
    refine xs_seq (xs_if (et_test (ev_chain (ev_op (ev_op ev_int (ev_var rfl) (rd_mul (cmul_s (by omega) (by omega)))) ev_int rd_addI) (ev_var rfl) (fun _ => ev_op (ev_op (ev_var rfl) ev_int rd_sub) (ev_op ev_int (ev_var rfl) (rd_mul (cmul_s (by omega) (by omega)))) rd_sub) rd_lt rd_lt)) (fun h => ?_) (fun h => ?_))
    · have h : 4 * t + 2 < k ∧ k < s - 2 - 4 * t := by simpa using h
      rw [if_pos h]
      exact xs_ret (ev_op (ev_var rfl) ev_int rd_addI) rfl
    have h : ¬ (4 * t + 2 < k ∧ k < s - 2 - 4 * t) := fun z => by simp [z.1, z.2] at h
    rw [if_neg h]
    refine xs_next ?_
    refine xs_seq (xs_if (et_test (ev_chain (ev_op (ev_op (ev_var rfl) ev_int rd_sub) (ev_op ev_int (ev_var rfl) (rd_mul (cmul_s (by omega) (by omega)))) rd_sub) (ev_var rfl) (fun _ => ev_var rfl) rd_lt rd_lt)) (fun h => ?_) (fun h => ?_))
    · have h : s - 3 - 4 * t < k ∧ k < s := by simpa using h
      rw [if_pos h]
      exact xs_ret (ev_op (ev_op (ev_op (ev_var rfl) (ev_var rfl) rd_sub) ev_int rd_sub) ev_int (rd_fdv (by decide))) rfl
    have h : ¬ (s - 3 - 4 * t < k ∧ k < s) := fun z => by simp [z.1, z.2] at h
    rw [if_neg h]
    exact xs_next (xs_ret ev_int rfl)
theorem tw_drop {row : List Int} {j : Nat} {a : Int} (h : row[j]? = some a) : row.take (j + 1) ++ (row.drop (j + 1)).takeWhile (fun a => !decide (a = 0)) = if a = 0 then row.take (j + 1) ++ (row.drop (j + 1)).takeWhile (fun a => !decide (a = 0)) else row.take j ++ (row.drop j).takeWhile (fun a => !decide (a = 0)) := by
  obtain ⟨hj, rfl⟩ := List.getElem?_eq_some_iff.mp h
  by_cases q : row[j] = 0
  · rw [if_pos q]
  · rw [if_neg q, List.drop_eq_getElem_cons hj, List.takeWhile_cons_of_pos (by simp [q]), List.take_succ_eq_append_getElem hj, List.append_assoc]
    rfl
def R_law_answer (as : List Sl) (r : Sl) : Prop := ∃ (q : Int) (t : Tp), as = [.d (upD q t)] ∧ t.r.length ≤ 10000 ∧ r = .d (ti (ansOf t))
theorem R_law_answer_len (as : List Sl) (r : Sl) (h : R_law_answer as r) : as.length = 1 := by obtain ⟨_, _, rfl, _⟩ := h; rfl
theorem ok_law_answer (T : Txt K mg) : FnOk P w K mg base CX0 1 T.law_answer.f T.law_answer.fd P_law_answer (spR R_law_answer) := by
  refine T.law_answer.F.ok sc_law_answer (fun vs H Q E h => ?_) (fun cdv A outer s H vs Q E hr h => ?_)
  · exact spR_len (R_law_answer_len) h
  · refine ⟨_, (pss_cons (ps_set (i := 1) sc_law_answer.nd rfl (Or.inl rfl) (pe_op (k_add (K := K) rfl) (pe_slice (k_sl (K := K) rfl) (pv 0) (po_some pe_int) (po_some pe_int)) (pe_ix (k_ix (K := K) rfl) (pv 0) pe_int (fun _ _ => rfl))))
    (pss_cons (ps_set (i := 2) sc_law_answer.nd rfl (Or.inl rfl) (pv 1))
    (pss_cons (ps_for PassesOwn.never rfl (pi_range1 rfl T.b_range (pa_cons (pe_callB (k_len (K := K) rfl) (by rfl) T.b_len (by decide +kernel) (pa_cons (pv 1) pa_nil)) pa_nil)) (pg_name (i := 3) sc_law_answer.nd rfl (Or.inl rfl)) (pss_one (ps_if (pt_cmpR (k_eq (K := K) rfl hr.units) (pe_ix (k_ix (K := K) rfl) (pv 1) (pe_op (op_subG) (pe_op (op_subG) (pe_callB (k_len (K := K) rfl) (by rfl) T.b_len (by decide +kernel) (pa_cons (pv 1) pa_nil)) pe_int) (pv 3)) (fun _ _ => rfl)) pe_int (nomark _)) (pss_one (ps_set (i := 2) sc_law_answer.nd rfl (Or.inl rfl) (pe_slice (k_sl (K := K) rfl) (pv 1) po_none (po_some (pe_op (op_subG) (pe_op (op_subG) (pe_callB (k_len (K := K) rfl) (by rfl) T.b_len (by decide +kernel) (pa_cons (pv 1) pa_nil)) pe_int) (pv 3)))))) pss_nil)))
    (pss_one (ps_ret (pv 2)))))), ?_⟩
    refine spR_run h (fun as r hR => ?_)
    obtain ⟨q, t, rfl, hl, rfl⟩ := hR
    refine xs_give (r := .d (ti (t.m :: t.r))) (ev_op (ev_dto (ev_sl (ev_var rfl) (eo_some ev_int) (eo_some ev_int)) (b := .tuple [.int t.m]) rfl) (ev_op (ev_var rfl) ev_int (rd_ixT rfl)) (rd_consI (by omega))) ?_
    refine xs_give (ev_var rfl) ?_
    have hn : (t.m :: t.r).length ≤ 10001 := by simp; omega
    show ExS _ [.d (upD q t), .d (ti (t.m :: t.r)), .d (ti (t.m :: t.r)), .no] _
    unfold ansOf
    generalize t.m :: t.r = row at hn
    have en : ((row.map PyData.int).length : Int) = (row.length : Int) := by rw [List.length_map]
    refine xs_seq (xs_for (ei_rngN (n := row.length) (ed_cons (ev_dto (ev_cb (ed_cons (ev_var rfl) ed_nil) rc_lenT) (congrArg PyData.int en)) ed_nil) (by omega)) (fun i δ => ∃ (a : Sl), δ = [.d (upD q t), .d (ti row), .d (ti (row.take (row.length - i) ++ (row.drop (row.length - i)).takeWhile (fun a => !decide (a = 0)))), a]) ⟨.no, ?_⟩ ?_ ?_)
    · simp
    · rintro i d δ1 hd ⟨a, rfl⟩
      obtain ⟨hi, rfl⟩ := rgN_get hd
      refine ⟨_, _, eg_name, ?_⟩
      have hj : row.length - (i + 1) < row.length := by omega
      have e1 : row.length - i = row.length - (i + 1) + 1 := by omega
      have ej : ((row.map PyData.int).length : Int) - 1 - (i : Int) = ((row.length - (i + 1) : Nat) : Int) := by rw [en]; omega
      obtain ⟨b, hb⟩ : ∃ b, row[row.length - (i + 1)]? = some b := ⟨_, List.getElem?_eq_getElem hj⟩
      have hx := tw_drop hb
      refine xs_if (b := decide (b = 0)) (et_test (ev_op (ev_op (ev_var rfl) (ev_op (ev_op (ev_cb (ed_cons (ev_var rfl) ed_nil) rc_lenT) ev_int rd_sub) (ev_var rfl) rd_sub) (rd_ixT (atI_ints ej hb))) ev_int rd_eqI)) (fun h => ?_) (fun h => ?_)
      · have h : b = 0 := of_decide_eq_true h
        refine xs_asg (ev_dto (ev_sl (ev_var rfl) eo_none (eo_some (ev_op (ev_op (ev_cb (ed_cons (ev_var rfl) ed_nil) rc_lenT) ev_int rd_sub) (ev_var rfl) rd_sub))) (b := ti (row.take (row.length - (i + 1)))) ?_) eg_name ⟨.d (.int (i : Int)), ?_⟩
        · rw [ej, cutD_take (by rw [List.length_map]; omega), ← List.map_take]
        · obtain ⟨_, hb2⟩ := List.getElem?_eq_some_iff.mp hb
          rw [List.drop_eq_getElem_cons hj, List.takeWhile_cons_of_neg (by rw [hb2]; simp [h]), List.append_nil]
          rfl
      · have h : b ≠ 0 := of_decide_eq_false h
        refine xs_next ⟨.d (.int (i : Int)), ?_⟩
        rw [if_neg h] at hx
        rw [e1, hx]
        rfl
    · rintro δ1 ⟨a, rfl⟩
      refine xs_ret (ev_var rfl) ?_
      rw [rgN_length]
      simp
end
end BK
set_option maxRecDepth 100000
set_option maxHeartbeats 4000000
namespace BK
open PySem L2 DL CM
local macro_rules | `(tactic| walk_at "rd") => `(tactic| first
  | with_reducible exact rd_addI
  | with_reducible exact rd_sub
  | with_reducible exact rd_lt
  | with_reducible exact rd_le
  | with_reducible exact rd_gt
  | with_reducible exact rd_ge
  | with_reducible exact rd_eqI
  | with_reducible exact rd_neI
  | with_reducible exact rd_is
  | with_reducible exact rd_isNot
  | exact rd_mul (cmul_s (by omega) (by omega))
  | exact rd_mod (by first | decide | omega)
  | exact rd_fdv (by first | decide | omega)
  | exact rd_consI (by first | omega | (simp; omega) | simp)
  | exact rd_snocI (by first | omega | (simp; omega) | simp)
  | exact rd_catI (by first | omega | (simp; omega) | simp)
  | with_reducible exact rd_head0
  | with_reducible exact rd_ww
  | with_reducible exact rd_mm
  | with_reducible exact rd_wm
  | with_reducible exact rd_mw
  | with_reducible exact rd_nww
  | exact rd_ixT rfl
  | exact rd_ixL rfl
  | exact rd_addT (by first | decide | simp))
local macro_rules | `(tactic| walk_at "R") => `(tactic| first
  | exact ⟨_, _, _, rfl, rfl⟩
  | exact ⟨_, rfl, (by first | omega | (simp; omega) | simp), rfl⟩)
local macro_rules | `(tactic| walk_at "rc") => `(tactic| first
  | with_reducible exact rc_int
  | with_reducible exact rc_intB
  | with_reducible exact rc_lenT
  | with_reducible exact rc_lenL
  | with_reducible exact rc_abs
  | with_reducible exact rc_tupL
  | with_reducible exact rc_tupT)
local macro_rules | `(tactic| walk_at "ev") => `(tactic| first
  | with_reducible exact ev_int
  | with_reducible exact ev_non
  | with_reducible exact ev_bl
  | with_reducible exact ev_str
  | exact ev_var rfl
  | exact ev_ob rfl
  | ((with_reducible refine' ev_isi ?k1 ?k2); (case k1 => walk_at "ev"); (case k2 => first | exact kit_ii | exact kit_ib | exact kit_tt | exact kit_it))
  | ((with_reducible refine' ev_op ?k1 ?k2 ?k3); (case k1 => walk_at "ev"); (case k2 => walk_at "ev"); (case k3 => walk_at "rd"))
  | ((with_reducible refine' ev_un ?k1 ?k2); (case k1 => walk_at "ev"); (case k2 => exact ru_neg))
  | ((with_reducible refine' ev_cb ?k1 ?k2); (case k1 => walk_at "ed"); (case k2 => walk_at "rc"))
  | ((with_reducible refine' ev_tup ?k1 ?k2); (case k1 => walk_at "ed"); (case k2 => exact Nat.le_of_ble_eq_true rfl))
  | ((with_reducible refine' ev_andV ?k1 ?k2); (case k1 => walk_at "ev"); (case k2 => (intro _; walk_at "ev")))
  | ((with_reducible refine' ev_orV ?k1 ?k2); (case k1 => walk_at "ev"); (case k2 => (intro _; walk_at "ev")))
  | ((with_reducible refine' ev_notV ?k1); (case k1 => walk_at "ev"))
  | ((with_reducible refine' ev_chain ?k1 ?k2 ?k3 ?k4 ?k5); (case k1 => walk_at "ev"); (case k2 => walk_at "ev"); (case k3 => (intro _; walk_at "ev")); (case k4 => walk_at "rd"); (case k5 => walk_at "rd"))
  | ((with_reducible refine' ev_fld ?k1 ?k2); (case k1 => walk_at "ev"); (case k2 => walk_at "F"))
  | ((with_reducible refine' ev_meth ?k1 ?k2 ?k3 ?k4); (case k1 => walk_at "ev"); (case k2 => walk_at "I"); (case k3 => walk_at "ea"); (case k4 => walk_at "R"))
  | ((with_reducible refine' ev_call ?k1 ?k2); (case k1 => walk_at "ea"); (case k2 => walk_at "R"))
  | ((with_reducible refine' ev_sl1 ?k1); (case k1 => walk_at "ev"))
  | ((with_reducible refine' ev_sl ?k1 ?k2 ?k3); (case k1 => walk_at "ev"); (case k2 => walk_at "eo"); (case k3 => walk_at "eo"))
  | ((with_reducible refine' ev_ofL (el_sl ?k1 ?k2 ?k3)); (case k1 => walk_at "ev"); (case k2 => walk_at "eo"); (case k3 => walk_at "eo")))
local macro_rules | `(tactic| walk_at "eo") => `(tactic| first
  | with_reducible exact eo_none
  | ((with_reducible refine' eo_some ?k1); (case k1 => walk_at "ev")))
local macro_rules | `(tactic| walk_at "ed") => `(tactic| first
  | with_reducible exact ed_nil
  | ((with_reducible refine' ed_cons ?k1 ?k2); (case k1 => walk_at "ev"); (case k2 => walk_at "ed")))
local macro_rules | `(tactic| walk_at "ea") => `(tactic| first
  | with_reducible exact ea_nil
  | ((with_reducible refine' ea_cons ?k1 ?k2); (case k1 => walk_at "ev"); (case k2 => walk_at "ea")))
local macro_rules | `(tactic| walk_at "et") => `(tactic| first
  | ((with_reducible refine' et_test ?k1); (case k1 => walk_at "ev"))
  | ((with_reducible refine' et_B ?k1); (case k1 => walk_at "ev"))
  | ((with_reducible refine' et_not ?k1); (case k1 => walk_at "et"))
  | ((with_reducible refine' et_and ?k1 ?k2); (case k1 => walk_at "et"); (case k2 => (intro _; walk_at "et")))
  | ((with_reducible refine' et_or ?k1 ?k2); (case k1 => walk_at "et"); (case k2 => (intro _; walk_at "et"))))
local macro_rules | `(tactic| walk_at "give") => `(tactic| ((with_reducible refine' xs_give ?k1 ?_); (case k1 => walk_at "ev")))
local macro_rules | `(tactic| walk_at "ret") => `(tactic| ((with_reducible refine' xs_ret ?k1 ?_); (case k1 => walk_at "ev")))
local macro_rules | `(tactic| walk_at "tst") => `(tactic| ((with_reducible refine' et_tst ?k1 ?_); (case k1 => walk_at "ev")))
local macro_rules | `(tactic| walk_at "etto") => `(tactic| ((with_reducible refine' et_to ?k1 ?_); (case k1 => walk_at "et")))
local macro_rules | `(tactic| walk_at "evto") => `(tactic| ((with_reducible refine' ev_dto ?k1 ?_); (case k1 => walk_at "ev")))

section
variable {P : Program} {w : World} {K : PySem.W.Frag} {mg : Str → Option Value} {base : Heap}
/-! WR: what the law makes of its numbers. -/
abbrev li (l : List Int) : PyData := .list (l.map PyData.int)
def dr (ds : List Int) (i : Nat) : Int := ds.getD i 0
theorem dr_at {ds : List Int} {i : Nat} {z : Int} (h : i < ds.length) (e : z = (i : Int)) : atI (ds.map PyData.int) z = some (.int (dr ds i)) := by
  refine atI_ints e ?_
  unfold dr
  rw [List.getD_eq_getElem?_getD, List.getElem?_eq_getElem h]
  rfl
def lftL (ds : List Int) (m : Int) : List Int := (List.range (dr ds 0 % 5).toNat).map fun k => dr ds (1 + k) % m
def rgtL (ds : List Int) (m : Int) : List Int := (List.range (dr ds 0 / 7 % 5).toNat).map fun k => dr ds (5 + k) % m
def cfT (ds : List Int) (m : Int) : Tp := ⟨trim (lftL ds m), dr ds 10 % m, trim (rgtL ds m)⟩
def rgN' (n : Nat) : List PyData := (List.range n).map fun (i : Nat) => PyData.int i
def lawRow (ds : List Int) (m s : Int) (k : Nat) : Option (Int × Int × Int) :=
  let d := dr ds (k % 40) + 977 * ((k / 40 : Nat) : Int)
  if d / 40 % 4 = 0 then none else some (d % m, (if d / 4 % 2 = 0 then -1 else 1), d / 8 % s)
def lawRows (ds : List Int) (m s : Nat) : List (Option (Int × Int × Int)) := (List.range (m * s)).map (lawRow ds m s)
/-- a new list, element by element, over range(n) -/
theorem el_rng {K : PySem.W.Frag} {δ : List Sl} {ta : TA} {te : TE} {v : Nat} {n : Nat} {z : Int} (f : Nat → Int) (ha : EvDA ta δ [.int z]) (hz : z = (n : Int)) (hn : n ≤ 40000)
    (hs : ∀ k, k < n → EvX te ((wipeD δ [v]).set v (.d (.int (k : Int)))) (.d (.int (f k)))) : EvL (tLc (iRng1 ta) (gName v) tYes te [v]) δ (((List.range n).map f).map PyData.int) := by
  subst hz
  have h := el_lc1 (te := te) (vs := [v]) (fun d => match d with | .int i => .int (f i.toNat) | _ => .none) (ei_rngN ha (by omega)) (by rw [rgN_length]; omega) fun d hd => by
    obtain ⟨k, hk, rfl⟩ := rgN_mem hd
    refine ⟨_, _, eg_name, fun i h => h, ?_⟩
    show EvX te _ (.d (.int (f ((k : Int)).toNat)))
    rw [Int.toNat_natCast]
    exact hs k hk
  refine el_to h ?_
  unfold rgN
  rw [List.map_map, List.map_map]
  refine List.map_congr_left fun k _ => ?_
  show PyData.int (f ((k : Int)).toNat) = .int (f k)
  rw [Int.toNat_natCast]
theorem wipe_at {δ : List Sl} {v i : Nat} {s : Sl} {r : Sl} (h : δ[i]? = some s) (hv : v ≠ i) : ((wipeD δ [v]).set v r)[i]? = some s := by
  rw [List.getElem?_set_ne hv]
  show (δ.set v .no)[i]? = some s
  rw [List.getElem?_set_ne hv]
  exact h
theorem wipe_self {δ : List Sl} {v : Nat} {r : Sl} (h : v < δ.length) : ((wipeD δ [v]).set v r)[v]? = some r := List.getElem?_set_self (by simp [wipeD]; exact h)
def R_law_configuration (as : List Sl) (r : Sl) : Prop := ∃ (ds : List Int) (m s : Nat), as = [.d (li ds), .d (.int m), .d (.int s), .d (.int 4)] ∧ 11 ≤ ds.length ∧ 1 ≤ m ∧ 1 ≤ s ∧ r = .d (upD (dr ds 9 % s) (cfT ds m))
theorem R_law_configuration_len (as : List Sl) (r : Sl) (h : R_law_configuration as r) : as.length = 4 := by obtain ⟨_, _, _, rfl, _⟩ := h; rfl
theorem ok_law_configuration (T : Txt K mg) : FnOk P w K mg base CX0 2 T.law_configuration.f T.law_configuration.fd P_law_configuration (spR R_law_configuration) := by
  refine T.law_configuration.F.ok sc_law_configuration (fun vs H Q E h => ?_) (fun cdv A outer s H vs Q E hr h => ?_)
  · exact spR_len (R_law_configuration_len) h
  · refine ⟨_, (pss_cons (ps_set (i := 4) sc_law_configuration.nd rfl (Or.inl rfl) (pe_callTy (k_tup (K := K) rfl) (by rfl) T.b_tuple (by decide +kernel) (pa_cons (pe_lc (own := [("_law_k", 6)]) rfl sc_law_configuration.nd (pi_range1 rfl T.b_range (pa_cons (pe_op (op_mod') (pe_callTy (call_intG) (by rfl) T.b_int (by decide +kernel) (pa_cons (pe_ix (k_ix (K := K) rfl) (pv 0) pe_int (fun _ _ => rfl)) pa_nil)) (pe_op (k_add (K := K) rfl) (pv 3) pe_int)) pa_nil)) (blkOk_by (own := [("_law_k", 6)]) (N := N_law_configuration) (sc := defScope s_law_configuration) (by decide +kernel)) (fun _ _ _ _ _ => (pg_name (i := 6) sc_law_configuration.nd rfl (Or.inl rfl))) (fun _ _ _ _ _ => pts_nil) (fun _ _ _ _ _ => (pe_op (op_mod') (pe_callTy (call_intG) (by rfl) T.b_int (by decide +kernel) (pa_cons (pe_ix (k_ix (K := K) rfl) (pv 0) (pe_op (k_add (K := K) rfl) pe_int (pv 6)) (fun _ _ => rfl)) pa_nil)) (pv 1)))) pa_nil)))
    (pss_cons (ps_set (i := 5) sc_law_configuration.nd rfl (Or.inl rfl) (pe_callTy (k_tup (K := K) rfl) (by rfl) T.b_tuple (by decide +kernel) (pa_cons (pe_lc (own := [("_law_k", 6)]) rfl sc_law_configuration.nd (pi_range1 rfl T.b_range (pa_cons (pe_op (op_mod') (pe_callTy (call_intG) (by rfl) T.b_int (by decide +kernel) (pa_cons (pe_op (op_fdv) (pe_ix (k_ix (K := K) rfl) (pv 0) pe_int (fun _ _ => rfl)) pe_int) pa_nil)) (pe_op (k_add (K := K) rfl) (pv 3) pe_int)) pa_nil)) (blkOk_by (own := [("_law_k", 6)]) (N := N_law_configuration) (sc := defScope s_law_configuration) (by decide +kernel)) (fun _ _ _ _ _ => (pg_name (i := 6) sc_law_configuration.nd rfl (Or.inl rfl))) (fun _ _ _ _ _ => pts_nil) (fun _ _ _ _ _ => (pe_op (op_mod') (pe_callTy (call_intG) (by rfl) T.b_int (by decide +kernel) (pa_cons (pe_ix (k_ix (K := K) rfl) (pv 0) (pe_op (k_add (K := K) rfl) pe_int (pv 6)) (fun _ _ => rfl)) pa_nil)) (pv 1)))) pa_nil)))
    (pss_one (ps_ret (pe_tup (pa_cons (pe_op (op_mod') (pe_callTy (call_intG) (by rfl) T.b_int (by decide +kernel) (pa_cons (pe_ix (k_ix (K := K) rfl) (pv 0) pe_int (fun _ _ => rfl)) pa_nil)) (pv 2)) (pa_cons (pe_call (ok_law_trimmed T) (hr.mono (by decide)) (by rfl) T.law_trimmed.g T.law_trimmed.F.kp T.law_trimmed.b .nil pass0 (pa_cons (pv 4) pa_nil)) (pa_cons (pe_op (op_mod') (pe_callTy (call_intG) (by rfl) T.b_int (by decide +kernel) (pa_cons (pe_ix (k_ix (K := K) rfl) (pv 0) pe_int (fun _ _ => rfl)) pa_nil)) (pv 1)) (pa_cons (pe_call (ok_law_trimmed T) (hr.mono (by decide)) (by rfl) T.law_trimmed.g T.law_trimmed.F.kp T.law_trimmed.b .nil pass0 (pa_cons (pv 5) pa_nil)) pa_nil))))))))), ?_⟩
    refine spR_run h (fun as r hR => ?_)
    obtain ⟨ds, m, s, rfl, hl, m1, s1, rfl⟩ := hR
    have b5 : ∀ z : Int, (z % 5).toNat ≤ 4 := fun z => by omega
    have c5 : ∀ z : Int, z % 5 = ((z % 5).toNat : Int) := fun z => by omega
    have hll : (lftL ds m).length ≤ 4 := by unfold lftL; simp; omega
    have hlr : (rgtL ds m).length ≤ 4 := by unfold rgtL; simp; omega
    refine xs_give (ev_cb (ed_cons (ev_ofL (el_rng (K := K) (fun k => dr ds (1 + k) % m) (ed_cons (ev_op (ev_cb (ed_cons (ev_op (ev_var rfl) ev_int (rd_ixL (dr_at (i := 0) (by omega) rfl))) ed_nil) rc_int) (ev_op (ev_var rfl) ev_int rd_addI) (rd_mod (by decide))) ed_nil) (c5 _) (by have := b5 (dr ds 0); omega) fun k hk => ?_)) ed_nil) rc_tupL) ?_
    · have := b5 (dr ds 0)
      exact ev_op (ev_cb (ed_cons (ev_op (ev_var rfl) (ev_op ev_int (ev_var rfl) rd_addI) (rd_ixL (dr_at (i := 1 + k) (by omega) (by omega)))) ed_nil) rc_int) (ev_var rfl) (rd_mod (by omega))
    refine xs_give (ev_cb (ed_cons (ev_ofL (el_rng (K := K) (fun k => dr ds (5 + k) % m) (ed_cons (ev_op (ev_cb (ed_cons (ev_op (ev_op (ev_var rfl) ev_int (rd_ixL (dr_at (i := 0) (by omega) rfl))) ev_int (rd_fdv (by decide))) ed_nil) rc_int) (ev_op (ev_var rfl) ev_int rd_addI) (rd_mod (by decide))) ed_nil) (c5 _) (by have := b5 (dr ds 0 / 7); omega) fun k hk => ?_)) ed_nil) rc_tupL) ?_
    · have := b5 (dr ds 0 / 7)
      exact ev_op (ev_cb (ed_cons (ev_op (ev_var rfl) (ev_op ev_int (ev_var rfl) rd_addI) (rd_ixL (dr_at (i := 5 + k) (by omega) (by omega)))) ed_nil) rc_int) (ev_var rfl) (rd_mod (by omega))
    exact xs_ret (ev_tup (ed_cons (ev_op (ev_cb (ed_cons (ev_op (ev_var rfl) ev_int (rd_ixL (dr_at (i := 9) (by omega) rfl))) ed_nil) rc_int) (ev_var rfl) (rd_mod (by omega)))
      (ed_cons (ev_call (ea_cons (ev_var rfl) ea_nil) ⟨lftL ds m, rfl, by omega, rfl⟩)
      (ed_cons (ev_op (ev_cb (ed_cons (ev_op (ev_var rfl) ev_int (rd_ixL (dr_at (i := 10) (by omega) rfl))) ed_nil) rc_int) (ev_var rfl) (rd_mod (by omega)))
      (ed_cons (ev_call (ea_cons (ev_var rfl) ea_nil) ⟨rgtL ds m, rfl, by omega, rfl⟩) ed_nil)))) (Nat.le_of_ble_eq_true rfl)) rfl
def R_law_machine (as : List Sl) (r : Sl) : Prop := ∃ (ds : List Int) (m s : Nat), as = [.d (li ds), .d (.int m), .d (.int s)] ∧ 40 ≤ ds.length ∧ 1 ≤ m ∧ m ≤ 8 ∧ 1 ≤ s ∧ s ≤ 40 ∧ r = .d (.list ((lawRows ds m s).map orD))
theorem R_law_machine_len (as : List Sl) (r : Sl) (h : R_law_machine as r) : as.length = 3 := by obtain ⟨_, _, _, rfl, _⟩ := h; rfl
theorem ok_law_machine (T : Txt K mg) : FnOk P w K mg base CX0 1 T.law_machine.f T.law_machine.fd P_law_machine (spR R_law_machine) := by
  refine T.law_machine.F.ok sc_law_machine (fun vs H Q E h => ?_) (fun cdv A outer s H vs Q E hr h => ?_)
  · exact spR_len (R_law_machine_len) h
  · refine ⟨_, (pss_cons (ps_set (i := 3) sc_law_machine.nd rfl (Or.inl rfl) (pe_lst pa_nil))
    (pss_cons (ps_for PassesOwn.never rfl (pi_range1 rfl T.b_range (pa_cons (pe_op (op_mulG) (pv 1) (pv 2)) pa_nil)) (pg_name (i := 4) sc_law_machine.nd rfl (Or.inl rfl)) (pss_cons (ps_set (i := 5) sc_law_machine.nd rfl (Or.inl rfl) (pe_op (k_add (K := K) rfl) (pe_ix (k_ix (K := K) rfl) (pv 0) (pe_op (op_mod') (pe_callTy (call_intG) (by rfl) T.b_int (by decide +kernel) (pa_cons (pv 4) pa_nil)) pe_int) (fun _ _ => rfl)) (pe_op (op_mulG) pe_int (pe_op (op_fdv) (pv 4) pe_int))))
      (pss_cons (ps_set (i := 6) sc_law_machine.nd rfl (Or.inl rfl) (pe_tup (pa_cons (pe_op (op_mod') (pe_callTy (call_intG) (by rfl) T.b_int (by decide +kernel) (pa_cons (pv 5) pa_nil)) (pv 1)) (pa_cons (pe_ix (k_ix (K := K) rfl) (pe_lst (pa_cons (pe_un un_negG pe_int) (pa_cons pe_int pa_nil))) (pe_op (op_mod') (pe_callTy (call_intG) (by rfl) T.b_int (by decide +kernel) (pa_cons (pe_op (op_fdv) (pv 5) pe_int) pa_nil)) pe_int) (fun _ _ => rfl)) (pa_cons (pe_op (op_mod') (pe_callTy (call_intG) (by rfl) T.b_int (by decide +kernel) (pa_cons (pe_op (op_fdv) (pv 5) pe_int) pa_nil)) (pv 2)) pa_nil)))))
      (pss_one (ps_expr (k_app (K := K) rfl (pv 3) (pa_cons (pe_ix (k_ix (K := K) rfl) (pe_lst (pa_cons (pv 6) (pa_cons pe_non pa_nil))) (pe_callTy (call_intG) (by rfl) T.b_int (by decide +kernel) (pa_cons (pe_cmpR (k_eq (K := K) rfl hr.units) (pe_op (op_mod') (pe_callTy (call_intG) (by rfl) T.b_int (by decide +kernel) (pa_cons (pe_op (op_fdv) (pv 5) pe_int) pa_nil)) pe_int) pe_int (nomark _)) pa_nil)) (fun _ _ => rfl)) pa_nil)))))))
    (pss_one (ps_ret (pv 3))))), ?_⟩
    refine spR_run h (fun as r hR => ?_)
    obtain ⟨ds, m, s, rfl, hl, m1, m8, s1, s40, rfl⟩ := hR
    have hms : m * s ≤ 320 := by
      have : m * s ≤ 8 * s := Nat.mul_le_mul_right _ m8
      omega
    refine xs_giveL (el_lst ed_nil (Nat.zero_le _)) ?_
    refine xs_seq (xs_for (ei_rngN (n := m * s) (ed_cons (ev_dto (ev_op (ev_var rfl) (ev_var rfl) (rd_mul (cmul_s (by omega) (by omega)))) (congrArg PyData.int (Int.natCast_mul m s).symm)) ed_nil) (by omega)) (fun i δ => ∃ a b c : Sl, δ = [.d (li ds), .d (.int m), .d (.int s), .own (((List.range i).map (lawRow ds m s)).map orD), a, b, c]) ⟨_, _, _, rfl⟩ ?_ ?_)
    · rintro i d δ1 hd ⟨a, b, c, rfl⟩
      obtain ⟨hi, rfl⟩ := rgN_get hd
      refine ⟨_, _, eg_name, ?_⟩
      refine xs_give (r := .d (.int (dr ds (i % 40) + 977 * ((i / 40 : Nat) : Int)))) (ev_op (ev_op (ev_var rfl) (ev_op (ev_cb (ed_cons (ev_var rfl) ed_nil) rc_int) ev_int (rd_mod (by decide))) (rd_ixL (dr_at (i := i % 40) (by omega) (by omega)))) (ev_op ev_int (ev_op (ev_var rfl) ev_int (rd_fdv (by decide))) (rd_mul (cmul_s (by omega) (by omega)))) rd_addI) ?_
      have eL : lawRow ds m s i = (let d := dr ds (i % 40) + 977 * ((i / 40 : Nat) : Int); if d / 40 % 4 = 0 then none else some (d % m, (if d / 4 % 2 = 0 then -1 else 1), d / 8 % s)) := rfl
      rw [List.range_succ, List.map_append, List.map_append, List.map_singleton, List.map_singleton, eL]
      generalize dr ds (i % 40) + 977 * ((i / 40 : Nat) : Int) = d
      refine xs_give (r := .d (orD (some (d % m, (if d / 4 % 2 = 0 then -1 else 1), d / 8 % s)))) (ev_tup (ed_cons (ev_op (ev_cb (ed_cons (ev_var rfl) ed_nil) rc_int) (ev_var rfl) (rd_mod (by omega))) (ed_cons (ev_op (ev_ofL (el_lst (ed_cons (ev_un ev_int ru_neg) (ed_cons ev_int ed_nil)) (Nat.le_of_ble_eq_true rfl))) (ev_op (ev_cb (ed_cons (ev_op (ev_var rfl) ev_int (rd_fdv (by decide))) ed_nil) rc_int) ev_int (rd_mod (by decide))) (rd_ixL ?_))
        (ed_cons (ev_op (ev_cb (ed_cons (ev_op (ev_var rfl) ev_int (rd_fdv (by decide))) ed_nil) rc_int) (ev_var rfl) (rd_mod (by omega))) ed_nil))) (Nat.le_of_ble_eq_true rfl)) ?_
      · by_cases q : d / 4 % 2 = 0
        · rw [q, if_pos rfl]
          rfl
        · have q : d / 4 % 2 = 1 := by omega
          rw [q, if_neg (by decide)]
          rfl
      refine xs_app rfl (ev_op (ev_ofL (el_lst (ed_cons (ev_var rfl) (ed_cons ev_non ed_nil)) (Nat.le_of_ble_eq_true rfl))) (ev_cb (ed_cons (ev_op (ev_op (ev_cb (ed_cons (ev_op (ev_var rfl) ev_int (rd_fdv (by decide))) ed_nil) rc_int) ev_int (rd_mod (by decide))) ev_int rd_eqI) ed_nil) rc_intB) (rd_ixL (d := orD (if d / 40 % 4 = 0 then none else some (d % m, (if d / 4 % 2 = 0 then -1 else 1), d / 8 % s))) ?_)) (by simp; omega) ⟨_, _, _, rfl⟩
      by_cases q : d / 40 % 4 = 0
      · rw [if_pos q, q]
        rfl
      · rw [if_neg q, decide_eq_false q]
        rfl
    · rintro δ1 ⟨a, b, c, rfl⟩
      rw [rgN_length]
      exact xs_frz (i := 3) rfl (xs_ret (ev_var rfl) rfl)
end
end BK
set_option maxRecDepth 100000
set_option maxHeartbeats 4000000
namespace BK
open PySem L2 DL CM
local macro_rules | `(tactic| walk_at "rd") => `(tactic| first
  | with_reducible exact rd_addI
  | with_reducible exact rd_sub
  | with_reducible exact rd_lt
  | with_reducible exact rd_le
  | with_reducible exact rd_gt
  | with_reducible exact rd_ge
  | with_reducible exact rd_eqI
  | with_reducible exact rd_neI
  | with_reducible exact rd_is
  | with_reducible exact rd_isNot
  | exact rd_mul (cmul_s (by omega) (by omega))
  | exact rd_mod (by first | decide | omega)
  | exact rd_fdv (by first | decide | omega)
  | exact rd_consI (by first | omega | (simp; omega) | simp)
  | exact rd_snocI (by first | omega | (simp; omega) | simp)
  | exact rd_catI (by first | omega | (simp; omega) | simp)
  | with_reducible exact rd_head0
  | with_reducible exact rd_ww
  | with_reducible exact rd_mm
  | with_reducible exact rd_wm
  | with_reducible exact rd_mw
  | with_reducible exact rd_nww
  | exact rd_ixT rfl
  | exact rd_ixL rfl
  | exact rd_addT (by first | decide | simp))
local macro_rules | `(tactic| walk_at "R") => `(tactic| first
  | exact ⟨_, _, _, rfl, rfl⟩
  | exact ⟨_, rfl, (by first | omega | (simp; omega) | simp), rfl⟩)
local macro_rules | `(tactic| walk_at "rc") => `(tactic| first
  | with_reducible exact rc_int
  | with_reducible exact rc_intB
  | with_reducible exact rc_lenT
  | with_reducible exact rc_lenL
  | with_reducible exact rc_abs
  | with_reducible exact rc_tupL
  | with_reducible exact rc_tupT)
local macro_rules | `(tactic| walk_at "ev") => `(tactic| first
  | with_reducible exact ev_int
  | with_reducible exact ev_non
  | with_reducible exact ev_bl
  | with_reducible exact ev_str
  | exact ev_var rfl
  | exact ev_ob rfl
  | ((with_reducible refine' ev_isi ?k1 ?k2); (case k1 => walk_at "ev"); (case k2 => first | exact kit_ii | exact kit_ib | exact kit_tt | exact kit_it))
  | ((with_reducible refine' ev_op ?k1 ?k2 ?k3); (case k1 => walk_at "ev"); (case k2 => walk_at "ev"); (case k3 => walk_at "rd"))
  | ((with_reducible refine' ev_un ?k1 ?k2); (case k1 => walk_at "ev"); (case k2 => exact ru_neg))
  | ((with_reducible refine' ev_cb ?k1 ?k2); (case k1 => walk_at "ed"); (case k2 => walk_at "rc"))
  | ((with_reducible refine' ev_tup ?k1 ?k2); (case k1 => walk_at "ed"); (case k2 => exact Nat.le_of_ble_eq_true rfl))
  | ((with_reducible refine' ev_andV ?k1 ?k2); (case k1 => walk_at "ev"); (case k2 => (intro _; walk_at "ev")))
  | ((with_reducible refine' ev_orV ?k1 ?k2); (case k1 => walk_at "ev"); (case k2 => (intro _; walk_at "ev")))
  | ((with_reducible refine' ev_notV ?k1); (case k1 => walk_at "ev"))
  | ((with_reducible refine' ev_chain ?k1 ?k2 ?k3 ?k4 ?k5); (case k1 => walk_at "ev"); (case k2 => walk_at "ev"); (case k3 => (intro _; walk_at "ev")); (case k4 => walk_at "rd"); (case k5 => walk_at "rd"))
  | ((with_reducible refine' ev_fld ?k1 ?k2); (case k1 => walk_at "ev"); (case k2 => walk_at "F"))
  | ((with_reducible refine' ev_meth ?k1 ?k2 ?k3 ?k4); (case k1 => walk_at "ev"); (case k2 => walk_at "I"); (case k3 => walk_at "ea"); (case k4 => walk_at "R"))
  | ((with_reducible refine' ev_call ?k1 ?k2); (case k1 => walk_at "ea"); (case k2 => walk_at "R"))
  | ((with_reducible refine' ev_sl1 ?k1); (case k1 => walk_at "ev"))
  | ((with_reducible refine' ev_sl ?k1 ?k2 ?k3); (case k1 => walk_at "ev"); (case k2 => walk_at "eo"); (case k3 => walk_at "eo"))
  | ((with_reducible refine' ev_ofL (el_sl ?k1 ?k2 ?k3)); (case k1 => walk_at "ev"); (case k2 => walk_at "eo"); (case k3 => walk_at "eo")))
local macro_rules | `(tactic| walk_at "eo") => `(tactic| first
  | with_reducible exact eo_none
  | ((with_reducible refine' eo_some ?k1); (case k1 => walk_at "ev")))
local macro_rules | `(tactic| walk_at "ed") => `(tactic| first
  | with_reducible exact ed_nil
  | ((with_reducible refine' ed_cons ?k1 ?k2); (case k1 => walk_at "ev"); (case k2 => walk_at "ed")))
local macro_rules | `(tactic| walk_at "ea") => `(tactic| first
  | with_reducible exact ea_nil
  | ((with_reducible refine' ea_cons ?k1 ?k2); (case k1 => walk_at "ev"); (case k2 => walk_at "ea")))
local macro_rules | `(tactic| walk_at "et") => `(tactic| first
  | ((with_reducible refine' et_test ?k1); (case k1 => walk_at "ev"))
  | ((with_reducible refine' et_B ?k1); (case k1 => walk_at "ev"))
  | ((with_reducible refine' et_not ?k1); (case k1 => walk_at "et"))
  | ((with_reducible refine' et_and ?k1 ?k2); (case k1 => walk_at "et"); (case k2 => (intro _; walk_at "et")))
  | ((with_reducible refine' et_or ?k1 ?k2); (case k1 => walk_at "et"); (case k2 => (intro _; walk_at "et"))))
local macro_rules | `(tactic| walk_at "give") => `(tactic| ((with_reducible refine' xs_give ?k1 ?_); (case k1 => walk_at "ev")))
local macro_rules | `(tactic| walk_at "ret") => `(tactic| ((with_reducible refine' xs_ret ?k1 ?_); (case k1 => walk_at "ev")))
local macro_rules | `(tactic| walk_at "tst") => `(tactic| ((with_reducible refine' et_tst ?k1 ?_); (case k1 => walk_at "ev")))
local macro_rules | `(tactic| walk_at "etto") => `(tactic| ((with_reducible refine' et_to ?k1 ?_); (case k1 => walk_at "et")))
local macro_rules | `(tactic| walk_at "evto") => `(tactic| ((with_reducible refine' ev_dto ?k1 ?_); (case k1 => walk_at "ev")))

section
variable {P : Program} {w : World} {K : PySem.W.Frag} {mg : Str → Option Value} {base : Heap}
/-! WS: the law's draws. -/
def ScrAt (K : PySem.W.Frag) (ns : List Int) (B : Hp) (v : V) : Prop := ∃ a, v = .ref a ∧ SqL K B a (ns.map V.int)
theorem ScrAt.mono {K : PySem.W.Frag} {ns : List Int} : Mono (ScrAt K ns) := fun B B' v e ⟨a, h1, h2⟩ => ⟨a, h1, Evl.ex_l e h2⟩
/-- data of a kind -/
def ExD (P : PyData → Prop) (B : Hp) (v : V) : Prop := ∃ d, P d ∧ DD B v d
theorem ExD.mono {P : PyData → Prop} : Mono (ExD P) := fun B B' v e ⟨d, h1, h2⟩ => ⟨d, h1, h2.mono e⟩
theorem ev_ex {P : PyData → Prop} {δ : List Sl} {te : TE} {d : PyData} (h : EvX te δ (.d d)) (hp : P d) : EvX te δ (.ob (ExD P)) := fun B0 H0 B H σ e Q k =>
  h _ _ _ _ _ e _ fun v B1 H1 g1 hv => k v B1 H1 g1 ⟨ExD.mono, d, hp, hv⟩
theorem slok_know {B0 H0 B H : Hp} {σ : Ss} {δ : List Sl} (e : EnvOk B0 H0 B H σ δ) {i : Nat} {P : PyData → Prop} (h : δ[i]? = some (.ob (ExD P))) : ∃ d, P d ∧ EnvOk B0 H0 B H σ (δ.set i (.d d)) := by
  obtain ⟨v, q1, _, d, hp, hd⟩ := e.at_ i _ h
  refine ⟨d, hp, e.gr, by rw [List.length_set, e.len], fun j s hj => ?_, fun j k l ds es hjk h1 h2 h3 => ?_⟩
  · rcases get_set hj with ⟨rfl, rfl, _⟩ | ⟨hn, hj⟩
    · exact ⟨v, q1, hd⟩
    · exact e.at_ j s hj
  · rcases get_set h1 with ⟨rfl, q, _⟩ | ⟨hn, h1⟩
    · cases q
    · rcases get_set h2 with ⟨rfl, q, _⟩ | ⟨hn2, h2⟩
      · cases q
      · exact e.sep j k l ds es hjk h1 h2 h3
theorem xs_open {δ : List Sl} {O : Out} {t : TS} {i : Nat} {P : PyData → Prop} (h : δ[i]? = some (.ob (ExD P))) (k : ∀ d, P d → ExS t (δ.set i (.d d)) O) : ExS t δ O := fun B0 H0 B H σ e D q => by
  obtain ⟨d, hp, e2⟩ := slok_know e h
  exact k d hp _ _ _ _ _ e2 D q
theorem cmul_b {i j : Int} (hi : 0 ≤ i ∧ i ≤ 1000000000000) (hj : 0 ≤ j ∧ j ≤ 1000000000000) : CMulW i j :=
  cmul_small (Nat.lt_of_le_of_lt (show i.natAbs ≤ 1000000000000 by omega) (by decide)) (Nat.lt_of_le_of_lt (show j.natAbs ≤ 1000000000000 by omega) (by decide))
theorem el_scr {δ : List Sl} {i : Nat} {ns : List Int} (h : δ[i]? = some (.ob (ScrAt K ns))) : EvL (tSl (rSlG K) (tVar i) tNoPart (tPart (tC (.int 63)))) δ ((ns.take 63).map PyData.int) := fun B0 H0 B H σ e Q k => by
  obtain ⟨v, q1, _, a, rfl, hs⟩ := e.at_ i _ h
  refine ⟨_, q1, 63, rfl, .inl ⟨a, _, rfl, Evl.ex_l e.gr.sub hs, fun p hp => ?_⟩⟩
  have ec : cutV (ns.map V.int) none (some 63) = (ns.take 63).map V.int := by
    unfold cutV
    have : HT.sIx (ns.map V.int).length (ns.map V.int).length (some 63) = min 63 (ns.map V.int).length := HT.sIx_nat _ _ 63
    rw [HT.sIx_none, this, List.drop_zero, Nat.sub_zero, List.map_take, List.length_map]
    rw [List.take_eq_take_iff, List.length_map]
    omega
  rw [ec]
  exact k p _ B _ (Grow.new0 e.gr.sub hp) hp (ex_none e.gr.sub hp) upd_same (dds_ints _)
def DrawOk (d : PyData) : Prop := ∃ ds : List Int, ds.length = 70 ∧ (∀ a ∈ ds, 0 ≤ a) ∧ d = li ds
def R_law_draws (K : PySem.W.Frag) (as : List Sl) (r : Sl) : Prop := ∃ (ns : List Int), as = [.ob (ScrAt K ns), .d (.int 70)] ∧ r = .ob (ExD DrawOk)
theorem R_law_draws_len (K : PySem.W.Frag) (as : List Sl) (r : Sl) (h : R_law_draws K as r) : as.length = 2 := by obtain ⟨_, rfl, _⟩ := h; rfl
theorem app_int {ds : List Int} {a : Int} : ds.map PyData.int ++ [.int a] = (ds ++ [a]).map PyData.int := by simp
theorem nn_app {ds : List Int} {a : Int} (h : ∀ x ∈ ds, 0 ≤ x) (ha : 0 ≤ a) : ∀ x ∈ ds ++ [a], 0 ≤ x := fun x hx => by
  rcases List.mem_append.mp hx with hx | hx
  · exact h x hx
  · rw [List.mem_singleton] at hx
    rw [hx]
    exact ha
theorem ok_law_draws (T : Txt K mg) : FnOk P w K mg base CX0 1 T.law_draws.f T.law_draws.fd P_law_draws (spR (R_law_draws K)) := by
  refine T.law_draws.F.ok sc_law_draws (fun vs H Q E h => ?_) (fun cdv A outer s H vs Q E hr h => ?_)
  · exact spR_len (R_law_draws_len K) h
  · refine ⟨_, (pss_cons (ps_set (i := 2) sc_law_draws.nd rfl (Or.inl rfl) (pe_lst pa_nil))
    (pss_cons (ps_set (i := 3) sc_law_draws.nd rfl (Or.inl rfl) pe_int)
    (pss_cons (ps_for PassesOwn.never rfl (k_piL (K := K) rfl (pe_slice (k_sl (K := K) rfl) (pv 0) po_none (po_some pe_int))) (pg_name (i := 4) sc_law_draws.nd rfl (Or.inl rfl)) (pss_cons (ps_set (i := 6) sc_law_draws.nd rfl (Or.inl rfl) (pe_callB (call_absG) (by rfl) T.b_abs (by decide +kernel) (pa_cons (pv 4) pa_nil)))
      (pss_cons (ps_set (i := 3) sc_law_draws.nd rfl (Or.inl rfl) (pe_op (op_mod') (pe_callTy (call_intG) (by rfl) T.b_int (by decide +kernel) (pa_cons (pe_op (k_add (K := K) rfl) (pe_op (k_add (K := K) rfl) (pe_op (op_mulG) (pv 3) pe_int) (pv 6)) pe_int) pa_nil)) pe_int))
      (pss_one (ps_if (pt_cmpR (op_ge') (pv 6) (pe_op (op_pow') pe_int pe_int) (nomark _)) (pss_one (ps_for PassesOwn.never rfl (pi_range1 rfl T.b_range (pa_cons pe_int pa_nil)) (pg_name (i := 5) sc_law_draws.nd rfl (Or.inl rfl)) (pss_one (ps_if (pt_cmpR (op_gt') (pv 6) pe_int (nomark _)) (pss_cons (ps_expr (k_app (K := K) rfl (pv 2) (pa_cons (pe_op (op_mod') (pe_callTy (call_intG) (by rfl) T.b_int (by decide +kernel) (pa_cons (pv 6) pa_nil)) pe_int) pa_nil)))
            (pss_one (ps_set (i := 6) sc_law_draws.nd rfl (Or.inl rfl) (pe_op (op_fdv) (pv 6) pe_int)))) pss_nil)))) (pss_one (ps_expr (k_app (K := K) rfl (pv 2) (pa_cons (pe_op (op_mod') (pe_op (op_fdv) (pe_callTy (call_intG) (by rfl) T.b_int (by decide +kernel) (pa_cons (pe_op (k_add (K := K) rfl) (pe_op (op_mulG) (pv 3) pe_int) pe_int) pa_nil)) pe_int) pe_int) pa_nil)))))))))
    (pss_cons (ps_for PassesOwn.never rfl (pi_range1 rfl T.b_range (pa_cons (pv 1) pa_nil)) (pg_name (i := 5) sc_law_draws.nd rfl (Or.inl rfl)) (pss_one (ps_if (pt_cmpR (op_lt') (pe_callB (k_len (K := K) rfl) (by rfl) T.b_len (by decide +kernel) (pa_cons (pv 2) pa_nil)) (pv 1) (nomark _)) (pss_cons (ps_set (i := 3) sc_law_draws.nd rfl (Or.inl rfl) (pe_op (op_mod') (pe_callTy (call_intG) (by rfl) T.b_int (by decide +kernel) (pa_cons (pe_op (k_add (K := K) rfl) (pe_op (k_add (K := K) rfl) (pe_op (op_mulG) (pv 3) pe_int) (pv 5)) pe_int) pa_nil)) pe_int))
        (pss_one (ps_expr (k_app (K := K) rfl (pv 2) (pa_cons (pe_op (op_mod') (pe_op (op_fdv) (pe_callTy (call_intG) (by rfl) T.b_int (by decide +kernel) (pa_cons (pv 3) pa_nil)) pe_int) pe_int) pa_nil))))) pss_nil)))
    (pss_one (ps_ret (pe_slice (k_sl (K := K) rfl) (pv 2) po_none (po_some (pv 1))))))))), ?_⟩
    refine spR_run h (fun as r hR => ?_)
    obtain ⟨ns, rfl, rfl⟩ := hR
    refine xs_giveL (el_lst ed_nil (Nat.zero_le _)) ?_
    refine xs_give ev_int ?_
    have hn63 : (ns.take 63).length ≤ 63 := by rw [List.length_take]; omega
    refine xs_seq (xs_for (ei_list (ev_ofL (el_scr (i := 0) rfl))) (fun i δ => ∃ (ds : List Int) (seed : Int) (a b c : Sl), δ = [.ob (ScrAt K ns), .d (.int 70), .own (ds.map PyData.int), .d (.int seed), a, b, c] ∧ ds.length ≤ 60 * i ∧ 0 ≤ seed ∧ seed < 2147483647 ∧ ∀ a ∈ ds, 0 ≤ a) ⟨[], 7, .no, .no, .no, rfl, Nat.le_refl _, by decide, by decide, fun a h => (nomatch h)⟩ ?_ ?_)
    · rintro i d δ1 hd ⟨ds, seed, a, b, c, rfl, hl, s0, s1, h0⟩
      obtain ⟨cell, hc, rfl⟩ : ∃ z : Int, (ns.take 63)[i]? = some z ∧ d = .int z := by
        rw [List.getElem?_map] at hd
        cases q : (ns.take 63)[i]? with
        | none => rw [q] at hd; cases hd
        | some z => rw [q] at hd; exact ⟨z, rfl, (Option.some.inj hd).symm⟩
      have hi : i < 63 := by
        have := (List.getElem?_eq_some_iff.mp hc).1
        omega
      refine ⟨_, _, eg_name, ?_⟩
      refine xs_give (ev_cb (ed_cons (ev_var rfl) ed_nil) rc_abs) ?_
      have hz : 0 ≤ (if cell < 0 then -cell else cell) := by split <;> omega
      generalize (if cell < 0 then -cell else cell) = num at hz
      refine xs_give (ev_op (ev_cb (ed_cons (ev_op (ev_op (ev_op (ev_var rfl) ev_int (rd_mul (cmul_b (by omega) (by decide)))) (ev_var rfl) rd_addI) ev_int rd_addI) ed_nil) rc_int) ev_int (rd_mod (by decide))) ?_
      have t0 : 0 ≤ (seed * 48271 + num + 11) % 2147483647 := Int.emod_nonneg _ (by decide)
      have t1 : (seed * 48271 + num + 11) % 2147483647 < 2147483647 := Int.emod_lt_of_pos _ (by decide)
      generalize (seed * 48271 + num + 11) % 2147483647 = seed2 at t0 t1
      refine xs_if (et_test (ev_op (ev_var rfl) (ev_op ev_int ev_int (rd_pow ⟨by decide, by decide, by decide⟩)) rd_ge)) (fun _ => ?_) (fun _ => ?_)
      · refine xs_for (ei_rngN (n := 60) (ed_cons ev_int ed_nil) (by decide)) (fun j δ => ∃ (ds : List Int) (num : Int) (a b : Sl), δ = [.ob (ScrAt K ns), .d (.int 70), .own (ds.map PyData.int), .d (.int seed2), a, b, .d (.int num)] ∧ ds.length ≤ 60 * i + j ∧ 0 ≤ num ∧ ∀ a ∈ ds, 0 ≤ a) ⟨ds, num, _, _, rfl, hl, hz, h0⟩ ?_ ?_
        · rintro j d δ1 hd ⟨ds, num, a, b, rfl, hl, hz, h0⟩
          obtain ⟨hj, rfl⟩ := rgN_get hd
          refine ⟨_, _, eg_name, ?_⟩
          refine xs_if (et_test (ev_op (ev_var rfl) ev_int rd_gt)) (fun _ => ?_) (fun _ => ?_)
          · refine xs_seq (xs_app (i := 2) rfl (ev_op (ev_cb (ed_cons (ev_var rfl) ed_nil) rc_int) ev_int (rd_mod (by decide))) (by rw [List.length_map]; omega) ?_)
            refine xs_asg (ev_op (ev_var rfl) ev_int (rd_fdv (by decide))) eg_name ⟨ds ++ [num % 1009], num / 1009, a, .d (.int (j : Int)), ?_, ?_, ?_, nn_app h0 (Int.emod_nonneg _ (by decide))⟩
            · rw [app_int]
              rfl
            · rw [List.length_append, List.length_singleton]
              omega
            · omega
          · exact xs_next ⟨ds, num, a, .d (.int (j : Int)), rfl, by omega, hz, h0⟩
        · rintro δ1 ⟨ds, num, a, b, rfl, hl, hz, h0⟩
          rw [rgN_length] at hl
          exact ⟨ds, seed2, a, b, .d (.int num), rfl, by omega, t0, t1, h0⟩
      · refine xs_app (i := 2) rfl (ev_op (ev_op (ev_cb (ed_cons (ev_op (ev_op (ev_var rfl) ev_int (rd_mul (cmul_b (by omega) (by decide)))) ev_int rd_addI) ed_nil) rc_int) ev_int (rd_fdv (by decide))) ev_int (rd_mod (by decide))) (by rw [List.length_map]; omega) ⟨ds ++ [(seed2 * 16807 + 5) / 3 % 65521], seed2, .d (.int cell), b, .d (.int num), ?_, ?_, t0, t1, nn_app h0 (Int.emod_nonneg _ (by decide))⟩
        · rw [app_int]
          rfl
        · rw [List.length_append, List.length_singleton]
          omega
    · rintro δ1 ⟨ds, seed, a, b, c, rfl, hl, s0, s1, h0⟩
      rw [List.length_map] at hl
      refine xs_seq (xs_for (ei_rngN (n := 70) (ed_cons (ev_var rfl) ed_nil) (by decide)) (fun j δ => ∃ (ds : List Int) (seed : Int) (a b c : Sl), δ = [.ob (ScrAt K ns), .d (.int 70), .own (ds.map PyData.int), .d (.int seed), a, b, c] ∧ ds.length ≤ 3780 + j ∧ (70 ≤ ds.length ∨ j ≤ ds.length) ∧ 0 ≤ seed ∧ seed < 2147483647 ∧ ∀ a ∈ ds, 0 ≤ a) ⟨ds, seed, a, b, c, rfl, by omega, .inr (Nat.zero_le _), s0, s1, h0⟩ ?_ ?_)
      · rintro j d δ1 hd ⟨ds, seed, a, b, c, rfl, hl, hj2, s0, s1, h0⟩
        obtain ⟨hj, rfl⟩ := rgN_get hd
        refine ⟨_, _, eg_name, ?_⟩
        refine xs_if (et_test (ev_op (ev_lenO (i := 2) rfl) (ev_var rfl) rd_lt)) (fun h => ?_) (fun h => ?_)
        · refine xs_give (ev_op (ev_cb (ed_cons (ev_op (ev_op (ev_op (ev_var rfl) ev_int (rd_mul (cmul_b (by omega) (by decide)))) (ev_var rfl) rd_addI) ev_int rd_addI) ed_nil) rc_int) ev_int (rd_mod (by decide))) ?_
          have t0 : 0 ≤ (seed * 69621 + (j : Int) + 1) % 2147483647 := Int.emod_nonneg _ (by decide)
          have t1 : (seed * 69621 + (j : Int) + 1) % 2147483647 < 2147483647 := Int.emod_lt_of_pos _ (by decide)
          generalize (seed * 69621 + (j : Int) + 1) % 2147483647 = seed2 at t0 t1
          refine xs_app (i := 2) rfl (ev_op (ev_op (ev_cb (ed_cons (ev_var rfl) ed_nil) rc_int) ev_int (rd_fdv (by decide))) ev_int (rd_mod (by decide))) (by rw [List.length_map]; omega) ⟨ds ++ [seed2 / 7 % 65521], seed2, a, .d (.int (j : Int)), c, ?_, ?_, ?_, t0, t1, nn_app h0 (Int.emod_nonneg _ (by decide))⟩
          · rw [app_int]
            rfl
          · rw [List.length_append, List.length_singleton]
            omega
          · rw [List.length_append, List.length_singleton]
            omega
        · have h := of_decide_eq_false h
          rw [List.length_map] at h
          exact xs_next ⟨ds, seed, a, .d (.int (j : Int)), c, rfl, by omega, .inl (by omega), s0, s1, h0⟩
      · rintro δ1 ⟨ds, seed, a, b, c, rfl, hl, hj2, s0, s1, h0⟩
        rw [rgN_length] at hj2
        have h70 : 70 ≤ ds.length := by omega
        refine xs_frz (i := 2) rfl (xs_ret (ev_ex (ev_ofL (el_to (el_sl (lo := none) (hi := some 70) (ev_var rfl) eo_none (eo_some (ev_var rfl))) (r' := (ds.take 70).map PyData.int) ?_)) ⟨ds.take 70, by rw [List.length_take]; omega, fun a ha => h0 a (List.mem_of_mem_take ha), rfl⟩) rfl)
        have z := cutD_take (ds := ds.map PyData.int) (n := 70) (by rw [List.length_map]; exact h70)
        rw [List.map_take]
        exact z
end
end BK
set_option maxRecDepth 100000
set_option maxHeartbeats 4000000
namespace BK
open PySem L2 DL CM
local macro_rules | `(tactic| walk_at "rd") => `(tactic| first
  | with_reducible exact rd_addI
  | with_reducible exact rd_sub
  | with_reducible exact rd_lt
  | with_reducible exact rd_le
  | with_reducible exact rd_gt
  | with_reducible exact rd_ge
  | with_reducible exact rd_eqI
  | with_reducible exact rd_neI
  | with_reducible exact rd_is
  | with_reducible exact rd_isNot
  | exact rd_mul (cmul_s (by omega) (by omega))
  | exact rd_mod (by first | decide | omega)
  | exact rd_fdv (by first | decide | omega)
  | exact rd_consI (by first | omega | (simp; omega) | simp)
  | exact rd_snocI (by first | omega | (simp; omega) | simp)
  | exact rd_catI (by first | omega | (simp; omega) | simp)
  | with_reducible exact rd_head0
  | with_reducible exact rd_ww
  | with_reducible exact rd_mm
  | with_reducible exact rd_wm
  | with_reducible exact rd_mw
  | with_reducible exact rd_nww
  | exact rd_ixT rfl
  | exact rd_ixL rfl
  | exact rd_addT (by first | decide | simp))
local macro_rules | `(tactic| walk_at "R") => `(tactic| first
  | exact ⟨_, _, _, rfl, rfl⟩
  | exact ⟨_, rfl, (by first | omega | (simp; omega) | simp), rfl⟩)
local macro_rules | `(tactic| walk_at "rc") => `(tactic| first
  | with_reducible exact rc_int
  | with_reducible exact rc_intB
  | with_reducible exact rc_lenT
  | with_reducible exact rc_lenL
  | with_reducible exact rc_abs
  | with_reducible exact rc_tupL
  | with_reducible exact rc_tupT)
local macro_rules | `(tactic| walk_at "ev") => `(tactic| first
  | with_reducible exact ev_int
  | with_reducible exact ev_non
  | with_reducible exact ev_bl
  | with_reducible exact ev_str
  | exact ev_var rfl
  | exact ev_ob rfl
  | ((with_reducible refine' ev_isi ?k1 ?k2); (case k1 => walk_at "ev"); (case k2 => first | exact kit_ii | exact kit_ib | exact kit_tt | exact kit_it))
  | ((with_reducible refine' ev_op ?k1 ?k2 ?k3); (case k1 => walk_at "ev"); (case k2 => walk_at "ev"); (case k3 => walk_at "rd"))
  | ((with_reducible refine' ev_un ?k1 ?k2); (case k1 => walk_at "ev"); (case k2 => exact ru_neg))
  | ((with_reducible refine' ev_cb ?k1 ?k2); (case k1 => walk_at "ed"); (case k2 => walk_at "rc"))
  | ((with_reducible refine' ev_tup ?k1 ?k2); (case k1 => walk_at "ed"); (case k2 => exact Nat.le_of_ble_eq_true rfl))
  | ((with_reducible refine' ev_andV ?k1 ?k2); (case k1 => walk_at "ev"); (case k2 => (intro _; walk_at "ev")))
  | ((with_reducible refine' ev_orV ?k1 ?k2); (case k1 => walk_at "ev"); (case k2 => (intro _; walk_at "ev")))
  | ((with_reducible refine' ev_notV ?k1); (case k1 => walk_at "ev"))
  | ((with_reducible refine' ev_chain ?k1 ?k2 ?k3 ?k4 ?k5); (case k1 => walk_at "ev"); (case k2 => walk_at "ev"); (case k3 => (intro _; walk_at "ev")); (case k4 => walk_at "rd"); (case k5 => walk_at "rd"))
  | ((with_reducible refine' ev_fld ?k1 ?k2); (case k1 => walk_at "ev"); (case k2 => walk_at "F"))
  | ((with_reducible refine' ev_meth ?k1 ?k2 ?k3 ?k4); (case k1 => walk_at "ev"); (case k2 => walk_at "I"); (case k3 => walk_at "ea"); (case k4 => walk_at "R"))
  | ((with_reducible refine' ev_call ?k1 ?k2); (case k1 => walk_at "ea"); (case k2 => walk_at "R"))
  | ((with_reducible refine' ev_sl1 ?k1); (case k1 => walk_at "ev"))
  | ((with_reducible refine' ev_sl ?k1 ?k2 ?k3); (case k1 => walk_at "ev"); (case k2 => walk_at "eo"); (case k3 => walk_at "eo"))
  | ((with_reducible refine' ev_ofL (el_sl ?k1 ?k2 ?k3)); (case k1 => walk_at "ev"); (case k2 => walk_at "eo"); (case k3 => walk_at "eo")))
local macro_rules | `(tactic| walk_at "eo") => `(tactic| first
  | with_reducible exact eo_none
  | ((with_reducible refine' eo_some ?k1); (case k1 => walk_at "ev")))
local macro_rules | `(tactic| walk_at "ed") => `(tactic| first
  | with_reducible exact ed_nil
  | ((with_reducible refine' ed_cons ?k1 ?k2); (case k1 => walk_at "ev"); (case k2 => walk_at "ed")))
local macro_rules | `(tactic| walk_at "ea") => `(tactic| first
  | with_reducible exact ea_nil
  | ((with_reducible refine' ea_cons ?k1 ?k2); (case k1 => walk_at "ev"); (case k2 => walk_at "ea")))
local macro_rules | `(tactic| walk_at "et") => `(tactic| first
  | ((with_reducible refine' et_test ?k1); (case k1 => walk_at "ev"))
  | ((with_reducible refine' et_B ?k1); (case k1 => walk_at "ev"))
  | ((with_reducible refine' et_not ?k1); (case k1 => walk_at "et"))
  | ((with_reducible refine' et_and ?k1 ?k2); (case k1 => walk_at "et"); (case k2 => (intro _; walk_at "et")))
  | ((with_reducible refine' et_or ?k1 ?k2); (case k1 => walk_at "et"); (case k2 => (intro _; walk_at "et"))))
local macro_rules | `(tactic| walk_at "give") => `(tactic| ((with_reducible refine' xs_give ?k1 ?_); (case k1 => walk_at "ev")))
local macro_rules | `(tactic| walk_at "ret") => `(tactic| ((with_reducible refine' xs_ret ?k1 ?_); (case k1 => walk_at "ev")))
local macro_rules | `(tactic| walk_at "tst") => `(tactic| ((with_reducible refine' et_tst ?k1 ?_); (case k1 => walk_at "ev")))
local macro_rules | `(tactic| walk_at "etto") => `(tactic| ((with_reducible refine' et_to ?k1 ?_); (case k1 => walk_at "et")))
local macro_rules | `(tactic| walk_at "evto") => `(tactic| ((with_reducible refine' ev_dto ?k1 ?_); (case k1 => walk_at "ev")))

section
variable {P : Program} {w : World} {K : PySem.W.Frag} {mg : Str → Option Value} {base : Heap}
/-! WT: comparisons; the law off the run. -/
def Shp (n : Nat) (d : PyData) : Prop := d.canLay0 = true ∧ d.depth ≤ n
theorem shp_all {n : Nat} : ∀ {ds : List PyData}, (∀ d ∈ ds, Shp n d) → PyData.canLayAll0 ds = true ∧ PyData.depthAll ds ≤ n
  | [], _ => ⟨by simp [PyData.canLayAll0], by simp [PyData.depthAll]⟩
  | d :: ds, h => by
    obtain ⟨a, b⟩ := shp_all (ds := ds) fun x hx => h x (List.mem_cons_of_mem _ hx)
    obtain ⟨c, e⟩ := h d List.mem_cons_self
    refine ⟨by simp [PyData.canLayAll0, a, c], ?_⟩
    simp only [PyData.depthAll]
    omega
theorem Shp.tup {n : Nat} {ds : List PyData} (h : ∀ d ∈ ds, Shp n d) : Shp (n + 1) (.tuple ds) := by
  obtain ⟨a, b⟩ := shp_all h
  refine ⟨by simpa [PyData.canLay0] using a, ?_⟩
  simp only [PyData.depth]
  omega
theorem Shp.lst {n : Nat} {ds : List PyData} (h : ∀ d ∈ ds, Shp n d) : Shp (n + 1) (.list ds) := by
  obtain ⟨a, b⟩ := shp_all h
  refine ⟨by simpa [PyData.canLay0] using a, ?_⟩
  simp only [PyData.depth]
  omega
theorem Shp.int {n : Nat} (i : Int) : Shp (n + 1) (.int i) := ⟨by simp [PyData.canLay0], by simp [PyData.depth]⟩
theorem Shp.non {n : Nat} : Shp (n + 1) .none := ⟨by simp [PyData.canLay0], by simp [PyData.depth]⟩
theorem Shp.str {n : Nat} {x : Str} (h : PyData.canLay0 (.str x) = true) : Shp (n + 1) (.str x) := ⟨h, by simp [PyData.depth]⟩
theorem Shp.mono {n m : Nat} {d : PyData} (h : Shp n d) (k : n ≤ m) : Shp m d := ⟨h.1, Nat.le_trans h.2 k⟩
theorem Shp.ti (l : List Int) : Shp 2 (ti l) := .tup fun d hd => by
  obtain ⟨a, _, rfl⟩ := List.mem_map.mp hd
  exact .int a
theorem mem_2 {a b d : PyData} (h : d ∈ [a, b]) : d = a ∨ d = b := by simpa using h
theorem mem_3 {a b c d : PyData} (h : d ∈ [a, b, c]) : d = a ∨ d = b ∨ d = c := by simpa using h
theorem mem_4 {a b c e d : PyData} (h : d ∈ [a, b, c, e]) : d = a ∨ d = b ∨ d = c ∨ d = e := by simpa using h
theorem Shp.tp (t : Tp) : Shp 3 (tpD t) := .tup fun d hd => by
  rcases mem_3 hd with rfl | rfl | rfl
  · exact .ti _
  · exact .int _
  · exact .ti _
theorem Shp.cf (c : Cf) : Shp 5 (cfD c) := .tup fun d hd => by
  rcases mem_2 hd with rfl | rfl
  · exact .int _
  · exact .tup fun d hd => by
      rcases mem_3 hd with rfl | rfl | rfl <;> exact .tp _
theorem Shp.up (q : Int) (t : Tp) : Shp 3 (upD q t) := .tup fun d hd => by
  rcases mem_4 hd with rfl | rfl | rfl | rfl
  · exact .int _
  · exact .ti _
  · exact .int _
  · exact .ti _
theorem Shp.shown (M : Mach) (c : Cf) : Shp 5 (shownD M c) := by
  unfold shownD
  split
  · exact .tup fun d hd => by
      rcases mem_2 hd with rfl | rfl
      · exact .str (by decide +kernel)
      · exact (Shp.up _ _).mono (by decide)
  · split
    · exact .tup fun d hd => by
        rcases mem_2 hd with rfl | rfl
        · exact .str (by decide +kernel)
        · exact (Shp.up _ _).mono (by decide)
    · exact .non
theorem Shp.or (o : Option (Int × Int × Int)) : Shp 2 (orD o) := by
  cases o with
  | none => exact .non
  | some r =>
    obtain ⟨b, d, t⟩ := r
    exact .tup fun d hd => by
      rcases mem_3 hd with rfl | rfl | rfl <;> exact .int _
theorem Shp.ok {n : Nat} {d : PyData} (h : Shp n d) (hn : n ≤ 64) : SeqAt.shaped d = true := by
  have := h.2
  simp [SeqAt.shaped, h.1]
  omega
theorem rd_eqS {n : Nat} {a : PyData} (h : Shp n a) (hn : n ≤ 64) : RD (rEqD K) a a (.bool true) := by
  have z := rd_eq (K := K) (h.ok hn) (h.ok hn)
  rw [SeqAt.eqv_refl a h.1] at z
  exact z
theorem rd_neS {n : Nat} {a : PyData} (h : Shp n a) (hn : n ≤ 64) : RD (rNeD K) a a (.bool false) := by
  have z := rd_ne (K := K) (h.ok hn) (h.ok hn)
  rw [SeqAt.eqv_refl a h.1] at z
  exact z
end
end BK
set_option maxRecDepth 100000
set_option maxHeartbeats 4000000
namespace BK
open PySem L2 DL CM
local macro_rules | `(tactic| walk_at "rd") => `(tactic| first
  | with_reducible exact rd_addI
  | with_reducible exact rd_sub
  | with_reducible exact rd_lt
  | with_reducible exact rd_le
  | with_reducible exact rd_gt
  | with_reducible exact rd_ge
  | with_reducible exact rd_eqI
  | with_reducible exact rd_neI
  | with_reducible exact rd_is
  | with_reducible exact rd_isNot
  | exact rd_mul (cmul_s (by omega) (by omega))
  | exact rd_mod (by first | decide | omega)
  | exact rd_fdv (by first | decide | omega)
  | exact rd_consI (by first | omega | (simp; omega) | simp)
  | exact rd_snocI (by first | omega | (simp; omega) | simp)
  | exact rd_catI (by first | omega | (simp; omega) | simp)
  | with_reducible exact rd_head0
  | with_reducible exact rd_ww
  | with_reducible exact rd_mm
  | with_reducible exact rd_wm
  | with_reducible exact rd_mw
  | with_reducible exact rd_nww
  | exact rd_ixT rfl
  | exact rd_ixL rfl
  | exact rd_addT (by first | decide | simp))
local macro_rules | `(tactic| walk_at "R") => `(tactic| first
  | exact ⟨_, _, _, rfl, rfl⟩
  | exact ⟨_, rfl, (by first | omega | (simp; omega) | simp), rfl⟩)
local macro_rules | `(tactic| walk_at "rc") => `(tactic| first
  | with_reducible exact rc_int
  | with_reducible exact rc_intB
  | with_reducible exact rc_lenT
  | with_reducible exact rc_lenL
  | with_reducible exact rc_abs
  | with_reducible exact rc_tupL
  | with_reducible exact rc_tupT)
local macro_rules | `(tactic| walk_at "ev") => `(tactic| first
  | with_reducible exact ev_int
  | with_reducible exact ev_non
  | with_reducible exact ev_bl
  | with_reducible exact ev_str
  | exact ev_var rfl
  | exact ev_ob rfl
  | ((with_reducible refine' ev_isi ?k1 ?k2); (case k1 => walk_at "ev"); (case k2 => first | exact kit_ii | exact kit_ib | exact kit_tt | exact kit_it))
  | ((with_reducible refine' ev_op ?k1 ?k2 ?k3); (case k1 => walk_at "ev"); (case k2 => walk_at "ev"); (case k3 => walk_at "rd"))
  | ((with_reducible refine' ev_un ?k1 ?k2); (case k1 => walk_at "ev"); (case k2 => exact ru_neg))
  | ((with_reducible refine' ev_cb ?k1 ?k2); (case k1 => walk_at "ed"); (case k2 => walk_at "rc"))
  | ((with_reducible refine' ev_tup ?k1 ?k2); (case k1 => walk_at "ed"); (case k2 => exact Nat.le_of_ble_eq_true rfl))
  | ((with_reducible refine' ev_andV ?k1 ?k2); (case k1 => walk_at "ev"); (case k2 => (intro _; walk_at "ev")))
  | ((with_reducible refine' ev_orV ?k1 ?k2); (case k1 => walk_at "ev"); (case k2 => (intro _; walk_at "ev")))
  | ((with_reducible refine' ev_notV ?k1); (case k1 => walk_at "ev"))
  | ((with_reducible refine' ev_chain ?k1 ?k2 ?k3 ?k4 ?k5); (case k1 => walk_at "ev"); (case k2 => walk_at "ev"); (case k3 => (intro _; walk_at "ev")); (case k4 => walk_at "rd"); (case k5 => walk_at "rd"))
  | ((with_reducible refine' ev_fld ?k1 ?k2); (case k1 => walk_at "ev"); (case k2 => walk_at "F"))
  | ((with_reducible refine' ev_meth ?k1 ?k2 ?k3 ?k4); (case k1 => walk_at "ev"); (case k2 => walk_at "I"); (case k3 => walk_at "ea"); (case k4 => walk_at "R"))
  | ((with_reducible refine' ev_call ?k1 ?k2); (case k1 => walk_at "ea"); (case k2 => walk_at "R"))
  | ((with_reducible refine' ev_sl1 ?k1); (case k1 => walk_at "ev"))
  | ((with_reducible refine' ev_sl ?k1 ?k2 ?k3); (case k1 => walk_at "ev"); (case k2 => walk_at "eo"); (case k3 => walk_at "eo"))
  | ((with_reducible refine' ev_ofL (el_sl ?k1 ?k2 ?k3)); (case k1 => walk_at "ev"); (case k2 => walk_at "eo"); (case k3 => walk_at "eo")))
local macro_rules | `(tactic| walk_at "eo") => `(tactic| first
  | with_reducible exact eo_none
  | ((with_reducible refine' eo_some ?k1); (case k1 => walk_at "ev")))
local macro_rules | `(tactic| walk_at "ed") => `(tactic| first
  | with_reducible exact ed_nil
  | ((with_reducible refine' ed_cons ?k1 ?k2); (case k1 => walk_at "ev"); (case k2 => walk_at "ed")))
local macro_rules | `(tactic| walk_at "ea") => `(tactic| first
  | with_reducible exact ea_nil
  | ((with_reducible refine' ea_cons ?k1 ?k2); (case k1 => walk_at "ev"); (case k2 => walk_at "ea")))
local macro_rules | `(tactic| walk_at "et") => `(tactic| first
  | ((with_reducible refine' et_test ?k1); (case k1 => walk_at "ev"))
  | ((with_reducible refine' et_B ?k1); (case k1 => walk_at "ev"))
  | ((with_reducible refine' et_not ?k1); (case k1 => walk_at "et"))
  | ((with_reducible refine' et_and ?k1 ?k2); (case k1 => walk_at "et"); (case k2 => (intro _; walk_at "et")))
  | ((with_reducible refine' et_or ?k1 ?k2); (case k1 => walk_at "et"); (case k2 => (intro _; walk_at "et"))))
local macro_rules | `(tactic| walk_at "give") => `(tactic| ((with_reducible refine' xs_give ?k1 ?_); (case k1 => walk_at "ev")))
local macro_rules | `(tactic| walk_at "ret") => `(tactic| ((with_reducible refine' xs_ret ?k1 ?_); (case k1 => walk_at "ev")))
local macro_rules | `(tactic| walk_at "tst") => `(tactic| ((with_reducible refine' et_tst ?k1 ?_); (case k1 => walk_at "ev")))
local macro_rules | `(tactic| walk_at "etto") => `(tactic| ((with_reducible refine' et_to ?k1 ?_); (case k1 => walk_at "et")))
local macro_rules | `(tactic| walk_at "evto") => `(tactic| ((with_reducible refine' ev_dto ?k1 ?_); (case k1 => walk_at "ev")))

section
variable {P : Program} {w : World} {K : PySem.W.Frag} {mg : Str → Option Value} {base : Heap}
/-! WU: the law off the run. -/
def offF (ds : List Int) (m : Int) (k j : Nat) : Int := dr ds (2 + 6 * k + j) % m
def offT (ds : List Int) (m : Int) (k : Nat) : Tp := ⟨trim [offF ds m k 0, offF ds m k 1], offF ds m k 2, trim [offF ds m k 3, offF ds m k 4, offF ds m k 5]⟩
theorem shown_eq (M : Mach) (c : Cf) : shownD M c = if 1 + (M.s : Int) ≤ c.st ∧ c.st < 1 + 2 * (M.s : Int) then .tuple [.str "forth", upD (c.st - 1 - M.s) c.t0]
    else if 0 ≤ c.st - 13 - 2 * (M.s : Int) - 2 * (M.m : Int) * M.s ∧ c.st - 13 - 2 * (M.s : Int) - 2 * (M.m : Int) * M.s < M.s then .tuple [.str "back", upD (c.st - 13 - 2 * (M.s : Int) - 2 * (M.m : Int) * M.s) c.t0] else .none := by
  unfold shownD
  have e1 : M.at' 0 = 1 + M.s := by unfold Mach.at'; omega
  have e2 : M.at' M.s = 1 + 2 * M.s := by unfold Mach.at'; omega
  have e3 : M.bat 0 = 13 + 2 * M.s + 2 * (M.m : Int) * M.s := by
    unfold Mach.bat Mach.undo Mach.halt Mach.pairs
    rw [Int.mul_assoc]
    omega
  have e4 : M.bat M.s = 13 + 2 * M.s + 2 * (M.m : Int) * M.s + M.s := by
    unfold Mach.bat Mach.undo Mach.halt Mach.pairs
    rw [Int.mul_assoc]
    omega
  rw [e1, e2, e3, e4]
  have e5 : c.st - (1 + (M.s : Int)) = c.st - 1 - M.s := by omega
  have e6 : c.st - (13 + 2 * (M.s : Int) + 2 * (M.m : Int) * M.s) = c.st - 13 - 2 * (M.s : Int) - 2 * (M.m : Int) * M.s := by omega
  rw [e5, e6]
  by_cases h : 1 + (M.s : Int) ≤ c.st ∧ c.st < 1 + 2 * (M.s : Int)
  · rw [if_pos h, if_pos h]
  · rw [if_neg h, if_neg h]
    generalize 2 * (M.m : Int) * M.s = P
    by_cases h2 : 13 + 2 * (M.s : Int) + P ≤ c.st ∧ c.st < 13 + 2 * (M.s : Int) + P + M.s
    · rw [if_pos h2, if_pos (by omega)]
    · rw [if_neg h2, if_neg (by omega)]
/-- a statement, then the rest, by what is known between them -/
theorem xs_mid {O : Out} {t u : TS} {δ : List Sl} (S : List Sl → Prop) (h : ExS t δ { O with nx := S }) (k : ∀ δ', S δ' → ExS u δ' O) : ExS (tSeq t u) δ O := fun B0 H0 B H σ e D q =>
  h _ _ _ _ _ e _ ⟨fun σ' B' H' δ' a b s => k δ' s _ _ _ _ _ a D (q.mono b), q.rt, q.bk, q.ct⟩
def posD : PyData → Bool
  | .int i => decide (0 < i)
  | _ => false
def R_law_off_the_run (T : Txt K mg) (as : List Sl) (r : Sl) : Prop := ∃ (M : Mach) (ds : List Int), M.Ok ∧ as = [.ob (TapeAt T.C_Tape M), .d (li ds), .d (.int M.m), .d (.int M.s)] ∧ 20 ≤ ds.length ∧ r = .d (.bool true)
theorem R_law_off_the_run_len (T : Txt K mg) (as : List Sl) (r : Sl) (h : R_law_off_the_run T as r) : as.length = 4 := by obtain ⟨_, _, _, rfl, _⟩ := h; rfl
theorem ok_law_off_the_run (T : Txt K mg) : FnOk P w K mg base CX0 4 T.law_off_the_run.f T.law_off_the_run.fd P_law_off_the_run (spR (R_law_off_the_run T)) := by
  refine T.law_off_the_run.F.ok sc_law_off_the_run (fun vs H Q E h => ?_) (fun cdv A outer s H vs Q E hr h => ?_)
  · exact spR_len (R_law_off_the_run_len T) h
  · refine ⟨_, (pss_cons (ps_set (i := 4) sc_law_off_the_run.nd rfl (Or.inl rfl) (pe_op (k_add (K := K) rfl) (pe_op (k_add (K := K) rfl) pe_int (pe_op (op_mulG) pe_int (pv 3))) (pe_op (op_mulG) (pe_op (op_mulG) pe_int (pv 2)) (pv 3))))
    (pss_cons (ps_set (i := 5) sc_law_off_the_run.nd rfl (Or.inl rfl) (pe_op (op_mod') (pe_callTy (call_intG) (by rfl) T.b_int (by decide +kernel) (pa_cons (pe_ix (k_ix (K := K) rfl) (pv 1) pe_int (fun _ _ => rfl)) pa_nil)) (pe_op (k_add (K := K) rfl) (pv 4) pe_int)))
    (pss_cons (ps_if (pt_cmpR (op_gt') (pe_op (op_mod') (pe_callTy (call_intG) (by rfl) T.b_int (by decide +kernel) (pa_cons (pe_ix (k_ix (K := K) rfl) (pv 1) pe_int (fun _ _ => rfl)) pa_nil)) pe_int) pe_int (nomark _)) (pss_one (ps_set (i := 5) sc_law_off_the_run.nd rfl (Or.inl rfl) (pe_op (k_add (K := K) rfl) (pe_ix (k_ix (K := K) rfl) (pe_lst (pa_cons (pe_op (k_add (K := K) rfl) pe_int (pv 3)) (pa_cons (pe_op (k_add (K := K) rfl) (pe_op (k_add (K := K) rfl) pe_int (pe_op (op_mulG) pe_int (pv 3))) (pe_op (op_mulG) (pe_op (op_mulG) pe_int (pv 2)) (pv 3))) pa_nil))) (pe_op (op_mod') (pe_callTy (call_intG) (by rfl) T.b_int (by decide +kernel) (pa_cons (pe_ix (k_ix (K := K) rfl) (pv 1) pe_int (fun _ _ => rfl)) pa_nil)) pe_int) (fun _ _ => rfl)) (pe_op (op_mod') (pe_callTy (call_intG) (by rfl) T.b_int (by decide +kernel) (pa_cons (pe_ix (k_ix (K := K) rfl) (pv 1) pe_int (fun _ _ => rfl)) pa_nil)) (pv 3))))) pss_nil)
    (pss_cons (ps_set (i := 6) sc_law_off_the_run.nd rfl (Or.inl rfl) (pe_lst pa_nil))
    (pss_cons (ps_for PassesOwn.never rfl (pi_range1 rfl T.b_range (pa_cons pe_int pa_nil)) (pg_name (i := 7) sc_law_off_the_run.nd rfl (Or.inr rfl)) (pss_cons (ps_setLc (i := 12) (own := [("_law_j", 13)]) rfl sc_law_off_the_run.nd rfl rfl (sw_true rfl rfl rfl (by decide +kernel)) (pi_range1 rfl T.b_range (pa_cons pe_int pa_nil)) (blkOk_by (own := [("_law_j", 13)]) (N := N_law_off_the_run) (sc := defScope s_law_off_the_run) (by decide +kernel)) (fun _ _ _ _ _ => (pg_name (i := 13) sc_law_off_the_run.nd rfl (Or.inl rfl))) (fun _ _ _ _ _ => pts_nil) (fun _ _ _ _ _ => (pe_op (op_mod') (pe_callTy (call_intG) (by rfl) T.b_int (by decide +kernel) (pa_cons (pe_ix (k_ix (K := K) rfl) (pv 1) (pe_op (k_add (K := K) rfl) (pe_op (k_add (K := K) rfl) pe_int (pe_op (op_mulG) pe_int (pv 7))) (pv 13)) (fun _ _ => rfl)) pa_nil)) (pv 2))))
      (pss_one (ps_expr (k_app (K := K) rfl (pv 6) (pa_cons (pe_tup (pa_cons (pe_call (ok_law_trimmed T) (hr.mono (by decide)) (by rfl) T.law_trimmed.g T.law_trimmed.F.kp T.law_trimmed.b .nil pass0 (pa_cons (pe_callTy (k_tup (K := K) rfl) (by rfl) T.b_tuple (by decide +kernel) (pa_cons (pe_slice (k_sl (K := K) rfl) (pv 12) po_none (po_some pe_int)) pa_nil)) pa_nil)) (pa_cons (pe_ix (k_ix (K := K) rfl) (pv 12) pe_int (fun _ _ => rfl)) (pa_cons (pe_call (ok_law_trimmed T) (hr.mono (by decide)) (by rfl) T.law_trimmed.g T.law_trimmed.F.kp T.law_trimmed.b .nil pass0 (pa_cons (pe_callTy (k_tup (K := K) rfl) (by rfl) T.b_tuple (by decide +kernel) (pa_cons (pe_slice (k_sl (K := K) rfl) (pv 12) (po_some pe_int) po_none) pa_nil)) pa_nil)) pa_nil)))) pa_nil))))))
    (pss_cons (ps_set (i := 8) sc_law_off_the_run.nd rfl (Or.inl rfl) pe_non)
    (pss_cons (ps_if (pt_chain (op_le') (op_lt') (pe_op (k_add (K := K) rfl) pe_int (pv 3)) (pv 5) (pe_op (k_add (K := K) rfl) pe_int (pe_op (op_mulG) pe_int (pv 3)))) (pss_one (ps_set (i := 8) sc_law_off_the_run.nd rfl (Or.inl rfl) (pe_tup (pa_cons pe_str (pa_cons (pe_op (k_add (K := K) rfl) (pe_tup (pa_cons (pe_op (op_subG) (pe_op (op_subG) (pv 5) pe_int) (pv 3)) pa_nil)) (pe_ix (k_ix (K := K) rfl) (pv 6) pe_int (fun _ _ => rfl))) pa_nil))))) pss_nil)
    (pss_cons (ps_if (pt_chain (op_le') (op_lt') pe_int (pe_op (op_subG) (pe_op (op_subG) (pe_op (op_subG) (pv 5) pe_int) (pe_op (op_mulG) pe_int (pv 3))) (pe_op (op_mulG) (pe_op (op_mulG) pe_int (pv 2)) (pv 3))) (pv 3)) (pss_one (ps_set (i := 8) sc_law_off_the_run.nd rfl (Or.inl rfl) (pe_tup (pa_cons pe_str (pa_cons (pe_op (k_add (K := K) rfl) (pe_tup (pa_cons (pe_op (op_subG) (pe_op (op_subG) (pe_op (op_subG) (pv 5) pe_int) (pe_op (op_mulG) pe_int (pv 3))) (pe_op (op_mulG) (pe_op (op_mulG) pe_int (pv 2)) (pv 3))) pa_nil)) (pe_ix (k_ix (K := K) rfl) (pv 6) pe_int (fun _ _ => rfl))) pa_nil))))) pss_nil)
    (pss_cons (ps_set (i := 9) sc_law_off_the_run.nd rfl (Or.inl rfl) (pe_tup (pa_cons (pv 5) (pa_cons (pe_callTy (k_tup (K := K) rfl) (by rfl) T.b_tuple (by decide +kernel) (pa_cons (pv 6) pa_nil)) pa_nil))))
    (pss_cons (ps_set (i := 10) sc_law_off_the_run.nd rfl (Or.inl rfl) (pe_call (ok_lent T) (hr.mono (by decide)) (by rfl) T.lent.g T.lent.F.kp T.lent.b .nil pass0 (pa_cons (pv 9) pa_nil)))
    (pss_cons (ps_set (i := 11) sc_law_off_the_run.nd rfl (Or.inl rfl) (pe_op (k_add (K := K) rfl) (pe_op (k_add (K := K) rfl) (pe_ix (k_ix (K := K) rfl) (pe_ix (k_ix (K := K) rfl) (pv 6) pe_int (fun _ _ => rfl)) pe_int (fun _ _ => rfl)) (pe_tup (pa_cons (pe_ix (k_ix (K := K) rfl) (pe_ix (k_ix (K := K) rfl) (pv 6) pe_int (fun _ _ => rfl)) pe_int (fun _ _ => rfl)) pa_nil))) (pe_ix (k_ix (K := K) rfl) (pe_ix (k_ix (K := K) rfl) (pv 6) pe_int (fun _ _ => rfl)) pe_int (fun _ _ => rfl))))
    (pss_cons (ps_if (PW.pt (pw_or (pt_val (pe_callB (k_isi (K := K) rfl) (by rfl) T.b_isinstance (by decide +kernel) (pa_cons (pv 10) (pa_cons (pe_bltn (v := .ty "bool") (by rfl) T.b_bool (by decide +kernel) rfl) pa_nil)))) (pw_or1 (pt_cmpR (k_ne (K := K) rfl hr.units) (pv 10) (pe_callB (k_len (K := K) rfl) (by rfl) T.b_len (by decide +kernel) (pa_cons (pe_lc (own := [("_law_one", 14)]) rfl sc_law_off_the_run.nd (k_piT (K := K) rfl (pv 11)) (blkOk_by (own := [("_law_one", 14)]) (N := N_law_off_the_run) (sc := defScope s_law_off_the_run) (by decide +kernel)) (fun _ _ _ _ _ => (pg_name (i := 14) sc_law_off_the_run.nd rfl (Or.inl rfl))) (fun _ _ _ _ _ => (pts_one (pt_cmpR (op_gt') (pv 14) pe_int (nomark _)))) (fun _ _ _ _ _ => (pv 14))) pa_nil)) (nomark _))))) (pss_one (ps_ret pe_bl)) pss_nil)
    (pss_one (ps_ret (pe_cmpR (k_eq (K := K) rfl hr.units) (pe_call (ok_shown T) (hr.mono (by decide)) (by rfl) T.shown.g T.shown.F.kp T.shown.b .nil pass0 (pa_cons (pv 0) (pa_cons (pv 9) pa_nil))) (pv 8) (nomark _)))))))))))))))), ?_⟩
    refine spR_run h (fun as r hR => ?_)
    obtain ⟨M, ds, ok, rfl, hl, rfl⟩ := hR
    have m2 := ok.m2
    have m8 := ok.m8
    have s1 := ok.s1
    have s40 := ok.s40
    have p4 : 0 ≤ 4 * (M.m : Int) * M.s := Int.mul_nonneg (by omega) (by omega)
    have p2 : 0 ≤ 2 * (M.m : Int) * M.s := Int.mul_nonneg (by omega) (by omega)
    refine xs_give (ev_op (ev_op ev_int (ev_op ev_int (ev_var rfl) (rd_mul (cmul_s (by decide) (by omega)))) rd_addI) (ev_op (ev_op ev_int (ev_var rfl) (rd_mul (cmul_s (by decide) (by omega)))) (ev_var rfl) (rd_mul (cmul_s (by omega) (by omega)))) rd_addI) ?_
    refine xs_give (ev_op (ev_cb (ed_cons (ev_op (ev_var rfl) ev_int (rd_ixL (dr_at (i := 0) (by omega) rfl))) ed_nil) rc_int) (ev_op (ev_var rfl) ev_int rd_addI) (rd_mod (by omega))) ?_
    refine xs_mid (fun δ' => ∃ E st : Int, δ' = [.ob (TapeAt T.C_Tape M), .d (li ds), .d (.int M.m), .d (.int M.s), .d (.int E), .d (.int st), .no, .no, .no, .no, .no, .no, .no, .no, .no]) (xs_if (et_test (ev_op (ev_op (ev_cb (ed_cons (ev_op (ev_var rfl) ev_int (rd_ixL (dr_at (i := 1) (by omega) rfl))) ed_nil) rc_int) ev_int (rd_mod (by decide))) ev_int rd_gt)) (fun _ => ?_) (fun _ => xs_next ⟨_, _, rfl⟩)) ?_
    · refine xs_asg (ev_op (ev_op (ev_ofL (el_lst (ed_cons (ev_op ev_int (ev_var rfl) rd_addI) (ed_cons (ev_op (ev_op ev_int (ev_op ev_int (ev_var rfl) (rd_mul (cmul_s (by decide) (by omega)))) rd_addI) (ev_op (ev_op ev_int (ev_var rfl) (rd_mul (cmul_s (by decide) (by omega)))) (ev_var rfl) (rd_mul (cmul_s (by omega) (by omega)))) rd_addI) ed_nil)) (Nat.le_of_ble_eq_true rfl)))
        (ev_op (ev_cb (ed_cons (ev_op (ev_var rfl) ev_int (rd_ixL (dr_at (i := 1) (by omega) rfl))) ed_nil) rc_int) ev_int (rd_mod (by decide))) (rd_ixL (d := .int (if dr ds 1 % 2 = 0 then 1 + (M.s : Int) else 13 + 2 * (M.s : Int) + 2 * (M.m : Int) * M.s)) ?_))
        (ev_op (ev_cb (ed_cons (ev_op (ev_var rfl) ev_int (rd_ixL (dr_at (i := 0) (by omega) rfl))) ed_nil) rc_int) (ev_var rfl) (rd_mod (by omega))) rd_addI) eg_name ⟨_, _, rfl⟩
      by_cases q : dr ds 1 % 2 = 0
      · rw [q, if_pos rfl]
        rfl
      · have q : dr ds 1 % 2 = 1 := by omega
        rw [q, if_neg (by decide)]
        rfl
    rintro _ ⟨E, st, rfl⟩
    refine xs_giveL (el_lst ed_nil (Nat.zero_le _)) ?_
    refine xs_seq (xs_for (ei_rngN (n := 3) (ed_cons ev_int ed_nil) (by decide)) (fun i δ => ∃ a b c : Sl, δ = [.ob (TapeAt T.C_Tape M), .d (li ds), .d (.int M.m), .d (.int M.s), .d (.int E), .d (.int st), .own ((List.range i).map fun k => tpD (offT ds M.m k)), a, .no, .no, .no, .no, b, c, .no]) ⟨_, _, _, rfl⟩ ?_ ?_)
    · rintro i d δ1 hd ⟨a, b, c, rfl⟩
      obtain ⟨hi, rfl⟩ := rgN_get hd
      refine ⟨_, _, eg_name, ?_⟩
      refine xs_give (ev_dto (ev_ofL (el_rng (K := K) (n := 6) (offF ds M.m i) (ed_cons ev_int ed_nil) rfl (by decide) fun j hj => ev_op (ev_cb (ed_cons (ev_op (ev_var rfl) (ev_op (ev_op ev_int (ev_op ev_int (ev_var rfl) (rd_mul (cmul_s (by decide) (by omega)))) rd_addI) (ev_var rfl) rd_addI) (rd_ixL (dr_at (i := 2 + 6 * i + j) (by omega) (by omega)))) ed_nil) rc_int) (ev_var rfl) (rd_mod (by omega))))
        (b := .list [.int (offF ds M.m i 0), .int (offF ds M.m i 1), .int (offF ds M.m i 2), .int (offF ds M.m i 3), .int (offF ds M.m i 4), .int (offF ds M.m i 5)]) rfl) ?_
      refine xs_app (i := 6) (d := tpD (offT ds M.m i)) rfl (ev_tup (ed_cons (ev_call (ea_cons (ev_cb (ed_cons (ev_dto (ev_ofL (el_sl (ev_var rfl) eo_none (eo_some ev_int))) (b := .list [.int (offF ds M.m i 0), .int (offF ds M.m i 1)]) rfl) ed_nil) rc_tupL) ea_nil) ⟨[offF ds M.m i 0, offF ds M.m i 1], rfl, Nat.le_of_ble_eq_true rfl, rfl⟩)
        (ed_cons (ev_op (ev_var rfl) ev_int (rd_ixL rfl)) (ed_cons (ev_call (ea_cons (ev_cb (ed_cons (ev_dto (ev_ofL (el_sl (ev_var rfl) (eo_some ev_int) eo_none)) (b := .list [.int (offF ds M.m i 3), .int (offF ds M.m i 4), .int (offF ds M.m i 5)]) rfl) ed_nil) rc_tupL) ea_nil) ⟨[offF ds M.m i 3, offF ds M.m i 4, offF ds M.m i 5], rfl, Nat.le_of_ble_eq_true rfl, rfl⟩) ed_nil))) (Nat.le_of_ble_eq_true rfl)) (by simp; omega) ⟨.d (.int (i : Int)), .d (.list [.int (offF ds M.m i 0), .int (offF ds M.m i 1), .int (offF ds M.m i 2), .int (offF ds M.m i 3), .int (offF ds M.m i 4), .int (offF ds M.m i 5)]), c, ?_⟩
      rw [List.range_succ, List.map_append]
      rfl
    rintro δ1 ⟨a, b, c0, rfl⟩
    refine xs_frz (i := 6) (ds := [tpD (offT ds M.m 0), tpD (offT ds M.m 1), tpD (offT ds M.m 2)]) rfl ?_
    refine xs_give ev_non ?_
    let c : Cf := ⟨st, offT ds M.m 0, offT ds M.m 1, offT ds M.m 2⟩
    have hs := shown_eq M c
    refine xs_mid (fun δ' => δ' = [.ob (TapeAt T.C_Tape M), .d (li ds), .d (.int M.m), .d (.int M.s), .d (.int E), .d (.int st), .d (.list [tpD (offT ds M.m 0), tpD (offT ds M.m 1), tpD (offT ds M.m 2)]), a, .d (if 1 + (M.s : Int) ≤ st ∧ st < 1 + 2 * (M.s : Int) then .tuple [.str "forth", upD (st - 1 - M.s) c.t0] else .none), .no, .no, .no, b, c0, .no]) (xs_if (et_test (ev_chain (ev_op ev_int (ev_var rfl) rd_addI) (ev_var rfl) (fun _ => ev_op ev_int (ev_op ev_int (ev_var rfl) (rd_mul (cmul_s (by decide) (by omega)))) rd_addI) rd_le rd_lt)) (fun h => ?_) (fun h => ?_)) ?_
    · have h : 1 + (M.s : Int) ≤ st ∧ st < 1 + 2 * (M.s : Int) := by simpa using h
      refine xs_asg (ev_tup (ed_cons ev_str (ed_cons (ev_op (ev_tup (ed_cons (ev_op (ev_op (ev_var rfl) ev_int rd_sub) (ev_var rfl) rd_sub) ed_nil) (Nat.le_of_ble_eq_true rfl)) (ev_op (ev_var rfl) ev_int (rd_ixL rfl)) (rd_addT (Nat.le_of_ble_eq_true rfl))) ed_nil)) (Nat.le_of_ble_eq_true rfl)) eg_name ?_
      rw [if_pos h]
      rfl
    · have h : ¬ (1 + (M.s : Int) ≤ st ∧ st < 1 + 2 * (M.s : Int)) := fun z => by simp [z.1, z.2] at h
      refine xs_next ?_
      rw [if_neg h]
      rfl
    rintro _ rfl
    refine xs_mid (fun δ' => δ' = [.ob (TapeAt T.C_Tape M), .d (li ds), .d (.int M.m), .d (.int M.s), .d (.int E), .d (.int st), .d (.list [tpD (offT ds M.m 0), tpD (offT ds M.m 1), tpD (offT ds M.m 2)]), a, .d (shownD M c), .no, .no, .no, b, c0, .no]) (xs_if (et_test (ev_chain ev_int (ev_op (ev_op (ev_op (ev_var rfl) ev_int rd_sub) (ev_op ev_int (ev_var rfl) (rd_mul (cmul_s (by decide) (by omega)))) rd_sub) (ev_op (ev_op ev_int (ev_var rfl) (rd_mul (cmul_s (by decide) (by omega)))) (ev_var rfl) (rd_mul (cmul_s (by omega) (by omega)))) rd_sub) (fun _ => ev_var rfl) rd_le rd_lt)) (fun h2 => ?_) (fun h2 => ?_)) ?_
    · have h2 : 0 ≤ st - 13 - 2 * (M.s : Int) - 2 * (M.m : Int) * M.s ∧ st - 13 - 2 * (M.s : Int) - 2 * (M.m : Int) * M.s < M.s := by simpa using h2
      refine xs_asg (ev_tup (ed_cons ev_str (ed_cons (ev_op (ev_tup (ed_cons (ev_op (ev_op (ev_op (ev_var rfl) ev_int rd_sub) (ev_op ev_int (ev_var rfl) (rd_mul (cmul_s (by decide) (by omega)))) rd_sub) (ev_op (ev_op ev_int (ev_var rfl) (rd_mul (cmul_s (by decide) (by omega)))) (ev_var rfl) (rd_mul (cmul_s (by omega) (by omega)))) rd_sub) ed_nil) (Nat.le_of_ble_eq_true rfl)) (ev_op (ev_var rfl) ev_int (rd_ixL rfl)) (rd_addT (Nat.le_of_ble_eq_true rfl))) ed_nil)) (Nat.le_of_ble_eq_true rfl)) eg_name ?_
      rw [hs, if_neg (show ¬ (1 + (M.s : Int) ≤ st ∧ st < 1 + 2 * (M.s : Int)) by omega), if_pos (show 0 ≤ st - 13 - 2 * (M.s : Int) - 2 * (M.m : Int) * M.s ∧ st - 13 - 2 * (M.s : Int) - 2 * (M.m : Int) * M.s < M.s from h2)]
      rfl
    · have h2 : ¬ (0 ≤ st - 13 - 2 * (M.s : Int) - 2 * (M.m : Int) * M.s ∧ st - 13 - 2 * (M.s : Int) - 2 * (M.m : Int) * M.s < M.s) := fun z => by
        rw [decide_eq_true z.1, decide_eq_true z.2] at h2
        cases h2
      refine xs_next ?_
      rw [hs, if_neg (show ¬ (0 ≤ c.st - 13 - 2 * (M.s : Int) - 2 * (M.m : Int) * M.s ∧ c.st - 13 - 2 * (M.s : Int) - 2 * (M.m : Int) * M.s < M.s) from h2)]
    rintro _ rfl
    have lt : ∀ k, (offT ds M.m k).l.length ≤ 2 ∧ (offT ds M.m k).r.length ≤ 3 := fun k => ⟨trim_length _, trim_length _⟩
    refine xs_give (r := .d (cfD c)) (ev_tup (ed_cons (ev_var rfl) (ed_cons (ev_cb (ed_cons (ev_var rfl) ed_nil) rc_tupL) ed_nil)) (Nat.le_of_ble_eq_true rfl)) ?_
    refine xs_give (ev_call (ea_cons (ev_var rfl) ea_nil) ⟨c, rfl, Nat.le_trans (lt 1).1 (by decide), Nat.le_trans (lt 1).2 (by decide), rfl⟩) ?_
    refine xs_give (r := .d (ti (c.t1.l ++ [c.t1.m] ++ c.t1.r))) (ev_op (ev_op (ev_op (ev_op (ev_var rfl) ev_int (rd_ixL rfl)) ev_int (rd_ixT rfl)) (ev_tup (ed_cons (ev_op (ev_op (ev_var rfl) ev_int (rd_ixL rfl)) ev_int (rd_ixT rfl)) ed_nil) (Nat.le_of_ble_eq_true rfl)) (rd_snocI (by have := (lt 1).1; omega))) (ev_op (ev_op (ev_var rfl) ev_int (rd_ixL rfl)) ev_int (rd_ixT rfl)) (rd_catI (by have := (lt 1).1; have := (lt 1).2; rw [List.length_append, List.length_singleton]; omega))) ?_
    refine xs_skip (et_or0 (et_tsB (ev_isi (ev_var rfl) kit_ib) rfl) (et_tst (ev_op (ev_var rfl) (ev_cb (ed_cons (ev_ofL (el_lc posD (fun d => d) (ei_tup (ev_var rfl)) ?_ fun d hd => ?_)) ed_nil) rc_lenL) rd_neI) ?_)) ?_
    · have : c.t1.l.length ≤ 2 := (lt 1).1
      have : c.t1.r.length ≤ 3 := (lt 1).2
      simp only [List.length_map, List.length_append, List.length_singleton]
      omega
    · obtain ⟨z, _, rfl⟩ := List.mem_map.mp hd
      exact ⟨_, _, eg_name, fun i h => h, et_test (ev_op (ev_var rfl) ev_int rd_gt), fun _ => ev_var rfl⟩
    · have e1 : ((((c.t1.l ++ [c.t1.m] ++ c.t1.r).map PyData.int).filter posD).map fun d => d).length = cnt c.t1 := by
        rw [List.length_map]
        unfold cnt
        have : ∀ l : List Int, (∀ a ∈ l, 0 ≤ a) → ((l.map PyData.int).filter posD).length = (l.filter fun a => decide (a ≠ 0)).length := fun l h => by
          rw [List.filter_map, List.length_map]
          congr 1
          refine List.filter_congr fun a ha => ?_
          have := h a ha
          show decide (0 < a) = decide (a ≠ 0)
          by_cases q : a = 0
          · rw [q]
            rfl
          · rw [decide_eq_true q, decide_eq_true (by omega)]
        refine this _ fun a ha => ?_
        have nn : ∀ k j, 0 ≤ offF ds M.m k j := fun k j => Int.emod_nonneg _ (by omega)
        rcases List.mem_append.mp ha with ha | ha
        · rcases List.mem_append.mp ha with ha | ha
          · have := trim_mem ha
            simp only [List.mem_cons, List.not_mem_nil, or_false] at this
            rcases this with rfl | rfl <;> exact nn _ _
          · rw [List.mem_singleton] at ha
            rw [ha]
            exact nn _ _
        · have := trim_mem ha
          simp only [List.mem_cons, List.not_mem_nil, or_false] at this
          rcases this with rfl | rfl | rfl <;> exact nn _ _
      rw [e1]
      simp
    · exact xs_ret (ev_op (ev_call (ea_cons (ev_ob rfl) (ea_cons (ev_var rfl) ea_nil)) ⟨M, c, ok, rfl, rfl⟩) (ev_var rfl) (rd_eqS (Shp.shown M c) (by decide))) rfl
end
end BK
set_option maxRecDepth 100000
set_option maxHeartbeats 4000000
namespace BK
open PySem L2 DL CM
local macro_rules | `(tactic| walk_at "rd") => `(tactic| first
  | with_reducible exact rd_addI
  | with_reducible exact rd_sub
  | with_reducible exact rd_lt
  | with_reducible exact rd_le
  | with_reducible exact rd_gt
  | with_reducible exact rd_ge
  | with_reducible exact rd_eqI
  | with_reducible exact rd_neI
  | with_reducible exact rd_is
  | with_reducible exact rd_isNot
  | exact rd_mul (cmul_s (by omega) (by omega))
  | exact rd_mod (by first | decide | omega)
  | exact rd_fdv (by first | decide | omega)
  | exact rd_consI (by first | omega | (simp; omega) | simp)
  | exact rd_snocI (by first | omega | (simp; omega) | simp)
  | exact rd_catI (by first | omega | (simp; omega) | simp)
  | with_reducible exact rd_head0
  | with_reducible exact rd_ww
  | with_reducible exact rd_mm
  | with_reducible exact rd_wm
  | with_reducible exact rd_mw
  | with_reducible exact rd_nww
  | exact rd_ixT rfl
  | exact rd_ixL rfl
  | exact rd_addT (by first | decide | simp))
local macro_rules | `(tactic| walk_at "R") => `(tactic| first
  | exact ⟨_, _, _, rfl, rfl⟩
  | exact ⟨_, rfl, (by first | omega | (simp; omega) | simp), rfl⟩)
local macro_rules | `(tactic| walk_at "rc") => `(tactic| first
  | with_reducible exact rc_int
  | with_reducible exact rc_intB
  | with_reducible exact rc_lenT
  | with_reducible exact rc_lenL
  | with_reducible exact rc_abs
  | with_reducible exact rc_tupL
  | with_reducible exact rc_tupT)
local macro_rules | `(tactic| walk_at "ev") => `(tactic| first
  | with_reducible exact ev_int
  | with_reducible exact ev_non
  | with_reducible exact ev_bl
  | with_reducible exact ev_str
  | exact ev_var rfl
  | exact ev_ob rfl
  | ((with_reducible refine' ev_isi ?k1 ?k2); (case k1 => walk_at "ev"); (case k2 => first | exact kit_ii | exact kit_ib | exact kit_tt | exact kit_it))
  | ((with_reducible refine' ev_op ?k1 ?k2 ?k3); (case k1 => walk_at "ev"); (case k2 => walk_at "ev"); (case k3 => walk_at "rd"))
  | ((with_reducible refine' ev_un ?k1 ?k2); (case k1 => walk_at "ev"); (case k2 => exact ru_neg))
  | ((with_reducible refine' ev_cb ?k1 ?k2); (case k1 => walk_at "ed"); (case k2 => walk_at "rc"))
  | ((with_reducible refine' ev_tup ?k1 ?k2); (case k1 => walk_at "ed"); (case k2 => exact Nat.le_of_ble_eq_true rfl))
  | ((with_reducible refine' ev_andV ?k1 ?k2); (case k1 => walk_at "ev"); (case k2 => (intro _; walk_at "ev")))
  | ((with_reducible refine' ev_orV ?k1 ?k2); (case k1 => walk_at "ev"); (case k2 => (intro _; walk_at "ev")))
  | ((with_reducible refine' ev_notV ?k1); (case k1 => walk_at "ev"))
  | ((with_reducible refine' ev_chain ?k1 ?k2 ?k3 ?k4 ?k5); (case k1 => walk_at "ev"); (case k2 => walk_at "ev"); (case k3 => (intro _; walk_at "ev")); (case k4 => walk_at "rd"); (case k5 => walk_at "rd"))
  | ((with_reducible refine' ev_fld ?k1 ?k2); (case k1 => walk_at "ev"); (case k2 => walk_at "F"))
  | ((with_reducible refine' ev_meth ?k1 ?k2 ?k3 ?k4); (case k1 => walk_at "ev"); (case k2 => walk_at "I"); (case k3 => walk_at "ea"); (case k4 => walk_at "R"))
  | ((with_reducible refine' ev_call ?k1 ?k2); (case k1 => walk_at "ea"); (case k2 => walk_at "R"))
  | ((with_reducible refine' ev_sl1 ?k1); (case k1 => walk_at "ev"))
  | ((with_reducible refine' ev_sl ?k1 ?k2 ?k3); (case k1 => walk_at "ev"); (case k2 => walk_at "eo"); (case k3 => walk_at "eo"))
  | ((with_reducible refine' ev_ofL (el_sl ?k1 ?k2 ?k3)); (case k1 => walk_at "ev"); (case k2 => walk_at "eo"); (case k3 => walk_at "eo")))
local macro_rules | `(tactic| walk_at "eo") => `(tactic| first
  | with_reducible exact eo_none
  | ((with_reducible refine' eo_some ?k1); (case k1 => walk_at "ev")))
local macro_rules | `(tactic| walk_at "ed") => `(tactic| first
  | with_reducible exact ed_nil
  | ((with_reducible refine' ed_cons ?k1 ?k2); (case k1 => walk_at "ev"); (case k2 => walk_at "ed")))
local macro_rules | `(tactic| walk_at "ea") => `(tactic| first
  | with_reducible exact ea_nil
  | ((with_reducible refine' ea_cons ?k1 ?k2); (case k1 => walk_at "ev"); (case k2 => walk_at "ea")))
local macro_rules | `(tactic| walk_at "et") => `(tactic| first
  | ((with_reducible refine' et_test ?k1); (case k1 => walk_at "ev"))
  | ((with_reducible refine' et_B ?k1); (case k1 => walk_at "ev"))
  | ((with_reducible refine' et_not ?k1); (case k1 => walk_at "et"))
  | ((with_reducible refine' et_and ?k1 ?k2); (case k1 => walk_at "et"); (case k2 => (intro _; walk_at "et")))
  | ((with_reducible refine' et_or ?k1 ?k2); (case k1 => walk_at "et"); (case k2 => (intro _; walk_at "et"))))
local macro_rules | `(tactic| walk_at "give") => `(tactic| ((with_reducible refine' xs_give ?k1 ?_); (case k1 => walk_at "ev")))
local macro_rules | `(tactic| walk_at "ret") => `(tactic| ((with_reducible refine' xs_ret ?k1 ?_); (case k1 => walk_at "ev")))
local macro_rules | `(tactic| walk_at "tst") => `(tactic| ((with_reducible refine' et_tst ?k1 ?_); (case k1 => walk_at "ev")))
local macro_rules | `(tactic| walk_at "etto") => `(tactic| ((with_reducible refine' et_to ?k1 ?_); (case k1 => walk_at "et")))
local macro_rules | `(tactic| walk_at "evto") => `(tactic| ((with_reducible refine' ev_dto ?k1 ?_); (case k1 => walk_at "ev")))

section
variable {P : Program} {w : World} {K : PySem.W.Frag} {mg : Str → Option Value} {base : Heap}
/-! WV: answer_of. -/
def tw (l : List Int) : List Int := l.takeWhile fun a => !decide (a = 0)
theorem tw_no : ∀ {l : List Int}, (l.any fun n => decide (n = 0)) = false → tw l = l
  | [], _ => rfl
  | a :: l, h => by
    rw [List.any_cons, Bool.or_eq_false_iff] at h
    unfold tw
    rw [List.takeWhile_cons_of_pos (by rw [h.1]; rfl)]
    exact congrArg (a :: ·) (tw_no h.2)
theorem tw_ix : ∀ {l : List Int}, (l.any fun n => decide (n = 0)) = true → l[(tw l).length]? = some 0 ∧ (∀ m, m < (tw l).length → l[m]? ≠ some 0) ∧ l.take (tw l).length = tw l ∧ (tw l).length < l.length
  | [], h => by cases h
  | a :: l, h => by
    by_cases q : a = 0
    · have e : tw (a :: l) = [] := List.takeWhile_cons_of_neg (by simp [q])
      rw [e]
      exact ⟨by simp [q], fun m hm => absurd hm (by simp), rfl, by simp⟩
    · have e : tw (a :: l) = a :: tw l := List.takeWhile_cons_of_pos (by simp [q])
      have h2 : (l.any fun n => decide (n = 0)) = true := by simpa [q] using h
      obtain ⟨h3, h4, h5, h6⟩ := tw_ix h2
      rw [e]
      refine ⟨by simpa using h3, fun m hm => ?_, by simp [h5], by simpa using h6⟩
      cases m with
      | zero => simp [q]
      | succ m =>
        rw [List.getElem?_cons_succ]
        exact h4 m (by simpa using hm)
def RowAt (l : List Int) (B : Hp) (v : V) : Prop := ∃ p, v = .ref p ∧ Tk B p (l.map V.int)
theorem RowAt.mono {l : List Int} : Mono (RowAt l) := fun B B' v e ⟨p, h1, h2⟩ => ⟨p, h1, h2.mono e⟩
/-- it compares as the tuple of these -/
def AnsAt (K : PySem.W.Frag) (l : List Int) (B : Hp) (v : V) : Prop := ∀ H, Ex B H → Dp K H v (ti l)
theorem AnsAt.mono {l : List Int} : Mono (AnsAt K l) := fun B B' v e h H e2 => h H (e.trans e2)
section
variable {δ : List Sl} {i : Nat} {l : List Int} {te : TE}
theorem ev_catF {j : Nat} {a : Int} (hi : δ[i]? = some (.d (.int a))) (hj : δ[j]? = some (.d (ti l))) (hl : l.length ≤ 90000) : EvX (tOp (rCatF K) (tTupF (tCons (tVar i) tNil)) (tVar j)) δ (.ob (RowAt (a :: l))) := fun B0 H0 B H σ e Q k => by
  refine ev_var hi _ _ _ _ _ e _ fun v B1 H1 g1 hv => ?_
  cases hv
  refine ⟨Evl.sz_of (Nat.le_of_ble_eq_true rfl), fun p o hp hc hd => ?_⟩
  have gT : Grow B1 H1 (upd B1 p (.frz o (.tup [.int a]))) (upd H1 p (.frz o (.tup [.int a]))) := Grow.new g1.sub hp
  have g2 := g1.trans gT
  refine ev_var hj _ _ _ _ _ (e.grow g2) _ fun w B3 H3 g3 hw => ?_
  cases hw with
  | tup h1 h2 =>
    have e1 := dds_ints_inv h2
    subst e1
    have g4 := g2.trans g3
    have tk : Tk B3 p [.int a] := ⟨o, g3.b _ _ upd_same, hc, hd⟩
    refine ⟨p, _, _, _, rfl, rfl, (tk.mono g3.sub).sq, SqT.of (g3.sub _ _ h1), by simp, Evl.sz_of (by simp; omega), fun h0 => ?_, fun h0 q o2 hq hc2 hd2 => ?_⟩
    · have h0 : l = [] := by simpa using h0
      subst h0
      exact k _ B3 H3 g4 ⟨RowAt.mono, p, rfl, tk⟩
    · have gq : Grow B3 H3 (upd B3 q (.frz o2 (.tup ([.int a] ++ l.map V.int)))) (upd H3 q (.frz o2 (.tup ([.int a] ++ l.map V.int)))) := Grow.new g3.sub hq
      exact k _ _ _ (g4.trans gq) ⟨RowAt.mono, q, rfl, o2, upd_same, hc2, hd2⟩
theorem ev_inRow (hi : δ[i]? = some (.ob (RowAt l))) : EvX (tOp (rIn K false) (tC (.int 0)) (tVar i)) δ (.d (.bool (l.any fun n => decide (n = 0)))) := fun B0 H0 B H σ e Q k => by
  obtain ⟨v, q1, _, p, rfl, tk⟩ := e.at_ i _ hi
  refine ⟨_, q1, p, _, rfl, .inr (tk.mono e.gr.sub).sq, rfl, flat_ints _, ?_⟩
  have e2 : inV (.int 0) (l.map V.int) = l.any fun n => decide (n = 0) := by
    unfold inV
    rw [List.any_map]
    apply congrArg (fun g => l.any g)
    funext n
    show (n == 0) = decide (n = 0)
    exact Bool.beq_eq_decide_eq n 0
  show Q (.bl (inV (.int 0) (l.map V.int))) H
  rw [e2]
  exact k _ B H (Grow.refl e.gr.sub) (.bl _)
theorem ev_cutRow (hi : δ[i]? = some (.ob (RowAt l))) (h : (l.any fun n => decide (n = 0)) = true) : EvX (tSl (rSlG K) (tVar i) tNoPart (tPart (tIdxI (tVar i) (tCons (tC (.int 0)) tNil)))) δ (.d (ti (tw l))) := fun B0 H0 B H σ e Q k => by
  obtain ⟨v, q1, _, p, rfl, tk⟩ := e.at_ i _ hi
  obtain ⟨h3, h4, h5, h6⟩ := tw_ix h
  have tkH := tk.mono e.gr.sub
  refine ⟨_, q1, _, q1, p, _, rfl, tkH, l, 0, (tw l).length, rfl, tkH, h3, h4, _, rfl, .inr ⟨p, _, rfl, tkH.sq, fun hw => ?_, fun _ q hq => ?_⟩⟩
  · exfalso
    have := hw.2
    rw [HT.sIx_nat, List.length_map] at this
    omega
  · have ec : cutV (l.map V.int) none (some ((tw l).length : Int)) = (tw l).map V.int := by
      unfold cutV
      rw [HT.sIx_none, HT.sIx_nat, List.drop_zero, Nat.sub_zero, List.length_map, Nat.min_eq_left (by omega), ← List.map_take, h5]
    rw [ec]
    exact k _ (upd B q (.tup _)) _ (Grow.new e.gr.sub hq) (DD.tup upd_same (dds_ints _))
theorem ev_ansD (h : EvX te δ (.d (ti l))) : EvX te δ (.ob (AnsAt K l)) := fun B0 H0 B H σ e Q k =>
  h _ _ _ _ _ e _ fun v B1 H1 g1 hv => k v B1 H1 g1 ⟨AnsAt.mono, fun H e2 => (DD.mono hv e2).dp⟩
theorem ev_ansR (hi : δ[i]? = some (.ob (RowAt l))) : EvX (tVar i) δ (.ob (AnsAt K l)) := fun B0 H0 B H σ e Q k => by
  obtain ⟨v, q1, _, p, rfl, tk⟩ := e.at_ i _ hi
  exact ⟨_, q1, k _ B H (Grow.refl e.gr.sub) ⟨AnsAt.mono, fun H e2 => .tup (tk.mono e2).sq (dds_dp _ _ (dds_ints l))⟩⟩
end
def R_answer_of (K : PySem.W.Frag) (as : List Sl) (r : Sl) : Prop := ∃ (q : Int) (t : Tp), as = [.d (upD q t)] ∧ t.r.length ≤ 10000 ∧ r = .ob (AnsAt K (ansOf t))
theorem R_answer_of_len (K : PySem.W.Frag) (as : List Sl) (r : Sl) (h : R_answer_of K as r) : as.length = 1 := by obtain ⟨_, _, rfl, _⟩ := h; rfl
theorem ok_answer_of (T : Txt K mg) : FnOk P w K mg base CX0 1 T.answer_of.f T.answer_of.fd P_answer_of (spR (R_answer_of K)) := by
  refine T.answer_of.F.ok sc_answer_of (fun vs H Q E h => ?_) (fun cdv A outer s H vs Q E hr h => ?_)
  · exact spR_len (R_answer_of_len K) h
  · refine ⟨_, (pss_cons (ps_asg (pv 0) (k_pgT (K := K) (n := 4) rfl rfl (pgs_cons (pg_name (i := 2) sc_answer_of.nd rfl (Or.inl rfl)) (pgs_cons (pg_name (i := 2) sc_answer_of.nd rfl (Or.inl rfl)) (pgs_cons (pg_name (i := 3) sc_answer_of.nd rfl (Or.inl rfl)) (pgs_cons (pg_name (i := 4) sc_answer_of.nd rfl (Or.inl rfl)) pgs_nil))))))
    (pss_cons (ps_set (i := 1) sc_answer_of.nd rfl (Or.inl rfl) (pe_op (k_catF (K := K) rfl) (pe_tupF (pa_cons (pv 3) pa_nil)) (pv 4)))
    (pss_one (ps_ret (pe_ifExp (pt_cmpR (k_in (K := K) rfl) pe_int (pv 1) (by rfl)) (pe_slice (k_sl (K := K) rfl) (pv 1) po_none (po_some (k_idx (pv 1) (pa_cons pe_int pa_nil)))) (pv 1)))))), ?_⟩
    refine spR_run h (fun as r hR => ?_)
    obtain ⟨q, t, rfl, hl, rfl⟩ := hR
    refine xs_giveG (ev_var rfl) (eg_tup (by rfl) (egs_cons eg_name (egs_cons eg_name (egs_cons eg_name (egs_cons eg_name egs_nil))))) ?_
    refine xs_give (ev_catF rfl rfl (by omega)) ?_
    refine xs_ret (r := .ob (AnsAt K (ansOf t))) (ev_if (et_test (ev_inRow rfl)) (fun h => ev_ansD (ev_cutRow rfl h)) (fun h => ?_)) rfl
    have e : tw (t.m :: t.r) = t.m :: t.r := tw_no h
    rw [show ansOf t = t.m :: t.r from e]
    exact ev_ansR rfl
end
end BK
/-! M3: the rows of the clean machine: in range, no two clash, forwards and backwards. -/
namespace CM
theorem Rw.ok_st {r r' : Rw} (h : r.st ≠ r'.st) : Rw.ok r r' := by
  cases r with
  | m _ _ _ _ _ => cases r' <;> exact h
  | w _ _ _ _ _ _ _ _ =>
    cases r' with
    | m _ _ _ _ _ => exact h
    | w _ _ _ _ _ _ _ _ => exact fun e => absurd e h
theorem Rw.ok_rd {r r' : Rw} (h1 : r.isW = true) (h2 : r'.isW = true) (h : r.rd ≠ r'.rd) : Rw.ok r r' := by
  cases r with
  | m _ _ _ _ _ => cases h1
  | w _ _ _ _ _ _ _ _ =>
    cases r' with
    | m _ _ _ _ _ => cases h2
    | w _ _ _ _ _ _ _ _ =>
      intro _ e
      apply h
      simp only [Rw.rd]
      rw [e.1, e.2.1, e.2.2]
/-- images that do not clash, all of a kind -/
def Dj (g : Rw → Rw) (P : Rw → Prop) (l : List Rw) : Prop := (l.map g).Pairwise Rw.ok ∧ ∀ r ∈ l, P (g r)
section
variable {g : Rw → Rw} {P Q : Rw → Prop} {l l1 l2 : List Rw}
theorem Dj.app (h1 : Dj g P l1) (h2 : Dj g Q l2) (hd : ∀ x y, P x → Q y → Rw.ok x y) : Dj g (fun r => P r ∨ Q r) (l1 ++ l2) := by
  refine ⟨?_, fun r hr => ?_⟩
  · rw [List.map_append]
    refine List.pairwise_append.mpr ⟨h1.1, h2.1, fun a ha b hb => ?_⟩
    obtain ⟨x, hx, rfl⟩ := List.mem_map.mp ha
    obtain ⟨y, hy, rfl⟩ := List.mem_map.mp hb
    exact hd _ _ (h1.2 x hx) (h2.2 y hy)
  · rcases List.mem_append.mp hr with hr | hr
    · exact .inl (h1.2 r hr)
    · exact .inr (h2.2 r hr)
theorem Dj.weak (h : Dj g P l) (k : ∀ r, P r → Q r) : Dj g Q l := ⟨h.1, fun r hr => k _ (h.2 r hr)⟩
theorem Dj.one {r : Rw} (h : P (g r)) : Dj g P [r] := ⟨by simp, fun x hx => by rw [List.mem_singleton] at hx; rw [hx]; exact h⟩
theorem Dj.nil : Dj g P [] := ⟨by simp, fun x hx => by cases hx⟩
theorem pw_of {α : Type} {l : List α} {R : α → α → Prop} (hl : l.Nodup) (h : ∀ x ∈ l, ∀ y ∈ l, x ≠ y → R x y) : l.Pairwise R := List.Pairwise.imp_of_mem (fun {a b} ha hb hab => h a ha b hb hab) hl
theorem Dj.map {α : Type} {l : List α} (hl : l.Nodup) (f : α → Rw) (hP : ∀ x ∈ l, P (g (f x))) (hi : ∀ x ∈ l, ∀ y ∈ l, x ≠ y → Rw.ok (g (f x)) (g (f y))) : Dj g P (l.map f) := by
  refine ⟨?_, fun r hr => ?_⟩
  · rw [List.map_map]
    exact List.pairwise_map.mpr (pw_of hl hi)
  · obtain ⟨x, hx, rfl⟩ := List.mem_map.mp hr
    exact hP x hx
theorem Dj.flat {α : Type} {l : List α} (hl : l.Nodup) (f : α → List Rw) (h : ∀ x ∈ l, Dj g P (f x)) (hi : ∀ x ∈ l, ∀ y ∈ l, x ≠ y → ∀ a ∈ f x, ∀ b ∈ f y, Rw.ok (g a) (g b)) : Dj g P (l.flatMap f) := by
  refine ⟨?_, fun r hr => ?_⟩
  · rw [List.map_flatMap]
    refine List.pairwise_flatMap.mpr ⟨fun a ha => (h a ha).1, pw_of hl fun x hx y hy hxy a ha b hb => ?_⟩
    obtain ⟨u, hu, rfl⟩ := List.mem_map.mp ha
    obtain ⟨v, hv, rfl⟩ := List.mem_map.mp hb
    exact hi x hx y hy hxy u hu v hv
  · obtain ⟨x, hx, hr⟩ := List.mem_flatMap.mp hr
    exact (h x hx).2 r hr
/-- two indexes -/
theorem Dj.two {l1 l2 : List Int} (h1 : l1.Nodup) (h2 : l2.Nodup) (f : Int → Int → Rw) (hP : ∀ x ∈ l1, ∀ y ∈ l2, P (g (f x y))) (hi : ∀ x ∈ l1, ∀ y ∈ l2, ∀ x' ∈ l1, ∀ y' ∈ l2, (x ≠ x' ∨ y ≠ y') → Rw.ok (g (f x y)) (g (f x' y'))) :
    Dj g P (l1.flatMap fun x => l2.map fun y => f x y) := by
  refine Dj.flat h1 _ (fun x hx => Dj.map h2 _ (fun y hy => hP x hx y hy) fun y hy y' hy' hne => hi x hx y hy x hx y' hy' (.inr hne)) fun x hx x' hx' hne a ha b hb => ?_
  obtain ⟨y, hy, rfl⟩ := List.mem_map.mp ha
  obtain ⟨y', hy', rfl⟩ := List.mem_map.mp hb
  exact hi x hx y hy x' hx' y' hy' (.inl hne)
end
/-! the marks -/
theorem ns_mem {n : Nat} {x : Int} (h : x ∈ ns n) : 0 ≤ x ∧ x < n := by
  obtain ⟨i, hi, rfl⟩ := List.mem_map.mp h
  have := List.mem_range.mp hi
  omega
theorem mem_ns {n : Nat} {x : Int} (h0 : 0 ≤ x) (h1 : x < n) : x ∈ ns n := List.mem_map.mpr ⟨x.toNat, List.mem_range.mpr (by omega), by omega⟩
theorem ns_nodup (n : Nat) : (ns n).Nodup := List.pairwise_map.mpr (pw_of List.nodup_range fun x _ y _ h => by omega)
theorem ns_succ (n : Nat) : ns (n + 1) = 0 :: (List.range n).map fun (i : Nat) => ((i + 1 : Nat) : Int) := by
  unfold ns
  rw [List.range_succ_eq_map, List.map_cons, List.map_map]
  rfl
theorem some_mem {n : Nat} {x : Int} (h : x ∈ (ns n).tail) : 1 ≤ x ∧ x < n := by
  cases n with
  | zero => cases h
  | succ n =>
    rw [ns_succ] at h
    obtain ⟨i, hi, rfl⟩ := List.mem_map.mp h
    have := List.mem_range.mp hi
    omega
theorem mem_some {n : Nat} {x : Int} (h0 : 1 ≤ x) (h1 : x < n) : x ∈ (ns n).tail := by
  cases n with
  | zero => omega
  | succ n =>
    rw [ns_succ]
    exact List.mem_map.mpr ⟨(x - 1).toNat, List.mem_range.mpr (by omega), by omega⟩
theorem some_nodup (n : Nat) : (ns n).tail.Nodup := (ns_nodup n).sublist (List.tail_sublist _)
/-! the pairs -/
section
variable {M : Mach}
theorem p_lt {q a : Nat} (hq : q < M.s) (ha : a < M.m) : 0 ≤ M.p q a ∧ M.p q a < M.pairs := by
  unfold Mach.p Mach.pairs
  have h : M.m * q + M.m ≤ M.m * M.s := by
    rw [← Nat.mul_succ]
    exact Nat.mul_le_mul_left _ hq
  have h2 : ((M.m * q + M.m : Nat) : Int) ≤ ((M.m * M.s : Nat) : Int) := by omega
  rw [Int.natCast_add, Int.natCast_mul, Int.natCast_mul] at h2
  have h3 : (0 : Int) ≤ M.m * q := Int.mul_nonneg (by omega) (by omega)
  omega
theorem p_inj {q a q' a' : Nat} (ha : a < M.m) (ha' : a' < M.m) (h : M.p q a = M.p q' a') : q = q' ∧ a = a' := by
  unfold Mach.p at h
  have h1 : M.m * q + a = M.m * q' + a' := by
    have : ((M.m * q + a : Nat) : Int) = ((M.m * q' + a' : Nat) : Int) := by
      rw [Int.natCast_add, Int.natCast_add, Int.natCast_mul, Int.natCast_mul]
      exact h
    omega
  rcases Nat.lt_trichotomy q q' with hlt | rfl | hlt
  · have : M.m * q + M.m ≤ M.m * q' := by
      rw [← Nat.mul_succ]
      exact Nat.mul_le_mul_left _ hlt
    omega
  · exact ⟨rfl, by omega⟩
  · have : M.m * q' + M.m ≤ M.m * q := by
      rw [← Nat.mul_succ]
      exact Nat.mul_le_mul_left _ hlt
    omega
theorem pairs_nn : 0 ≤ M.pairs := by
  unfold Mach.pairs
  exact Int.mul_nonneg (by omega) (by omega)
end
end CM
set_option maxHeartbeats 2000000
/-! M4: no two rows of the clean machine clash, forwards and backwards. -/
namespace CM
section
variable {M : Mach} {g : Rw → Rw} {P : Rw → Prop}
theorem Dj.pairs (f : Nat → Nat → List Rw) (h : ∀ q < M.s, ∀ a < M.m, Dj g P (f q a)) (hi : ∀ q < M.s, ∀ a < M.m, ∀ q' < M.s, ∀ a' < M.m, (q ≠ q' ∨ a ≠ a') → ∀ x ∈ f q a, ∀ y ∈ f q' a', Rw.ok (g x) (g y)) :
    Dj g P ((List.range M.s).flatMap fun q => (List.range M.m).flatMap fun a => f q a) := by
  refine Dj.flat List.nodup_range _ (fun q hq => Dj.flat List.nodup_range _ (fun a ha => h q (List.mem_range.mp hq) a (List.mem_range.mp ha)) fun a ha a' ha' hne x hx y hy => hi q (List.mem_range.mp hq) a (List.mem_range.mp ha) q (List.mem_range.mp hq) a' (List.mem_range.mp ha') (.inr hne) x hx y hy) fun q hq q' hq' hne x hx y hy => ?_
  obtain ⟨a, ha, hx⟩ := List.mem_flatMap.mp hx
  obtain ⟨a', ha', hy⟩ := List.mem_flatMap.mp hy
  exact hi q (List.mem_range.mp hq) a (List.mem_range.mp ha) q' (List.mem_range.mp hq') a' (List.mem_range.mp ha') (.inl hne) x hx y hy
theorem at_row (ok : M.Ok) {q a : Nat} (hq : q < M.s) (ha : a < M.m) {b d t : Int} (h : M.at_ q a = some (b, d, t)) : 0 ≤ b ∧ b < M.m ∧ (d = -1 ∨ d = 1) ∧ 0 ≤ t ∧ t < M.s := by
  refine ok.row b d t ?_
  have z := ok.at_mem hq ha
  rw [h] at z
  exact List.mem_of_getElem? z
/-- the kinds of rows of a pair -/
theorem pair_cases (ok : M.Ok) {q a : Nat} (hq : q < M.s) (ha : a < M.m) {x : Rw} (h : x ∈ M.pairRows q a) :
    (M.at_ q a = none ∧ x = .w (M.at' q) a 0 0 a (M.p q a + 1) 0 M.halt) ∨ ∃ b d t, M.at_ q a = some (b, d, t) ∧ (0 ≤ b ∧ b < M.m ∧ (d = -1 ∨ d = 1) ∧ 0 ≤ t ∧ t < M.s) ∧
      (x = .w (M.at' q) a 0 0 b 0 0 (M.go (M.p q a)) ∨ x = .m (M.go (M.p q a)) d 0 0 (M.note (M.p q a)) ∨ ∃ c : Int, 0 ≤ c ∧ c < M.m ∧ x = .w (M.note (M.p q a)) c 0 0 c (M.p q a + 1) 0 (M.enter t)) := by
  unfold Mach.pairRows at h
  cases hr : M.at_ q a with
  | none =>
    rw [hr] at h
    exact .inl ⟨rfl, List.mem_singleton.mp h⟩
  | some r =>
    obtain ⟨b, d, t⟩ := r
    rw [hr] at h
    refine .inr ⟨b, d, t, rfl, at_row ok hq ha hr, ?_⟩
    rcases List.mem_append.mp h with h | h
    · rcases List.mem_cons.mp h with h | h
      · exact .inl h
      · exact .inr (.inl (List.mem_singleton.mp h))
    · obtain ⟨c, hc, rfl⟩ := List.mem_map.mp h
      have := ns_mem hc
      exact .inr (.inr ⟨c, this.1, this.2, rfl⟩)
theorem back_cases (ok : M.Ok) {q a : Nat} (hq : q < M.s) (ha : a < M.m) {x : Rw} (h : x ∈ M.backRows q a) :
    ∃ b d t, M.at_ q a = some (b, d, t) ∧ (0 ≤ b ∧ b < M.m ∧ (d = -1 ∨ d = 1) ∧ 0 ≤ t ∧ t < M.s) ∧
      ((∃ c : Int, 0 ≤ c ∧ c < M.m ∧ x = .w (M.benter t) c (M.p q a + 1) 0 c 0 0 (M.bnote (M.p q a))) ∨ x = .m (M.bnote (M.p q a)) (-d) 0 0 (M.bgo (M.p q a)) ∨ x = .w (M.bgo (M.p q a)) b 0 0 a 0 0 (M.bat q)) := by
  unfold Mach.backRows at h
  cases hr : M.at_ q a with
  | none =>
    rw [hr] at h
    cases h
  | some r =>
    obtain ⟨b, d, t⟩ := r
    rw [hr] at h
    refine ⟨b, d, t, rfl, at_row ok hq ha hr, ?_⟩
    rcases List.mem_append.mp h with h | h
    · obtain ⟨c, hc, rfl⟩ := List.mem_map.mp h
      have := ns_mem hc
      exact .inl ⟨c, this.1, this.2, rfl⟩
    · rcases List.mem_cons.mp h with h | h
      · exact .inr (.inl h)
      · exact .inr (.inr (List.mem_singleton.mp h))
theorem undo_cases {q a : Nat} {x : Rw} (h : x ∈ M.undoRows q a) : M.at_ q a = none ∧ x = .w M.undo a (M.p q a + 1) 0 a 0 0 (M.bat q) := by
  unfold Mach.undoRows at h
  cases hr : M.at_ q a with
  | none =>
    rw [hr] at h
    exact ⟨rfl, List.mem_singleton.mp h⟩
  | some r =>
    rw [hr] at h
    cases h
/-! the numbers -/
local macro_rules | `(tactic| walk_at "nums") => `(tactic| (simp only [Rw.st, Rw.bw, Rw.isW, Rw.rd, Rw.nx, id, Mach.at', Mach.go, Mach.note, Mach.enter, Mach.halt, Mach.undo, Mach.end_, Mach.bat, Mach.benter, Mach.bnote, Mach.bgo] at *))
theorem rd_ne0 {a b c a' b' c' : Int} (h : a ≠ a' ∨ b ≠ b' ∨ c ≠ c') : ([a, b, c] : List Int) ≠ [a', b', c'] := fun e => by
  simp at e
  omega
/-! forwards -/
theorem forth_pairs (ok : M.Ok) : Dj id (fun r => 1 + (M.s : Int) ≤ r.st ∧ r.st < M.halt) ((List.range M.s).flatMap fun q => (List.range M.m).flatMap fun a => M.pairRows q a) := by
  have np := pairs_nn (M := M)
  refine Dj.pairs _ (fun q hq a ha => ?_) fun q hq a ha q' hq' a' ha' hne x hx y hy => ?_
  · have hp := p_lt hq ha
    refine ⟨?_, fun r hr => ?_⟩
    · rw [List.map_id]
      unfold Mach.pairRows
      cases hr : M.at_ q a with
      | none => exact List.pairwise_singleton _ _
      | some r =>
        obtain ⟨b, d, t⟩ := r
        refine List.pairwise_append.mpr ⟨List.pairwise_pair.mpr (Rw.ok_st (by walk_at "nums"; omega)), List.pairwise_map.mpr (pw_of (ns_nodup _) fun c _ c' _ h => Rw.ok_rd rfl rfl (rd_ne0 (.inl h))), fun x hx y hy => ?_⟩
        obtain ⟨c, hc, rfl⟩ := List.mem_map.mp hy
        rcases List.mem_cons.mp hx with rfl | hx
        · exact Rw.ok_st (by walk_at "nums"; omega)
        · rw [List.mem_singleton.mp hx]
          exact Rw.ok_st (by walk_at "nums"; omega)
    · rcases pair_cases ok hq ha hr with ⟨_, rfl⟩ | ⟨b, d, t, _, hb, rfl | rfl | ⟨c, _, _, rfl⟩⟩ <;> (walk_at "nums"; omega)
  · have hp := p_lt hq ha
    have hp' := p_lt hq' ha'
    have hpp : M.p q a ≠ M.p q' a' := fun e => by
      obtain ⟨e1, e2⟩ := p_inj ha ha' e
      rcases hne with h | h
      · exact h e1
      · exact h e2
    have kk : ∀ {q a : Nat} {x : Rw}, q < M.s → a < M.m → x ∈ M.pairRows q a → (x.st = M.at' q ∧ x.isW = true ∧ x.rd = [(a : Int), 0, 0]) ∨ x.st = M.go (M.p q a) ∨ x.st = M.note (M.p q a) := fun {q a x} hq ha hx => by
      rcases pair_cases ok hq ha hx with ⟨_, rfl⟩ | ⟨b, d, t, _, hb, rfl | rfl | ⟨c, _, _, rfl⟩⟩
      · exact .inl ⟨rfl, rfl, rfl⟩
      · exact .inl ⟨rfl, rfl, rfl⟩
      · exact .inr (.inl rfl)
      · exact .inr (.inr rfl)
    have z1 := kk hq ha hx
    have z2 := kk hq' ha' hy
    show Rw.ok x y
    rcases z1 with ⟨e1, w1, r1⟩ | e1 | e1 <;> rcases z2 with ⟨e2, w2, r2⟩ | e2 | e2
    · by_cases hqq : q = q'
      · subst hqq
        exact Rw.ok_rd w1 w2 (by rw [r1, r2]; exact rd_ne0 (.inl (by omega)))
      · exact Rw.ok_st (by rw [e1, e2]; simp only [Mach.at']; omega)
    all_goals exact Rw.ok_st (by rw [e1, e2]; simp only [Mach.at', Mach.go, Mach.note]; omega)
theorem dj_forth (ok : M.Ok) : Dj id (fun r => 0 ≤ r.st ∧ r.st < M.halt) M.forth := by
  have np := pairs_nn (M := M)
  have s1 := ok.s1
  refine ((Dj.map (g := id) (P := fun r => r.st = 0) (ns_nodup M.m) (fun a => .w 0 a 0 0 a 0 0 (M.enter 0)) (fun x hx => rfl) fun x hx y hy h => Rw.ok_rd rfl rfl (rd_ne0 (.inl h))).app (forth_pairs ok) (fun x y hx hy => Rw.ok_st (by omega))).app
    (Dj.map (g := id) (P := fun r => 1 ≤ r.st ∧ r.st < 1 + M.s) List.nodup_range _ (fun q hq => ?_) fun x hx y hy h => Rw.ok_st (by walk_at "nums"; omega)) (fun x y hx hy => Rw.ok_st (by omega)) |>.weak fun r h => ?_
  · have := List.mem_range.mp hq
    walk_at "nums"
    omega
  · walk_at "nums"
    omega
end
end CM
set_option maxHeartbeats 4000000
/-! M5: .. the copying, the way back. -/
namespace CM
section
variable {M : Mach} {g : Rw → Rw} {P Q R : Rw → Prop} {l1 l2 : List Rw}
theorem Dj.appw (h1 : Dj g P l1) (h2 : Dj g Q l2) (hd : ∀ x y, P x → Q y → Rw.ok x y) (hw : ∀ r, P r ∨ Q r → R r) : Dj g R (l1 ++ l2) := (h1.app h2 hd).weak hw
theorem rd_h {r r' : Rw} (h1 : r.isW = true) (h2 : r'.isW = true) (h : r.rd.headD 0 ≠ r'.rd.headD 0) : Rw.ok r r' := Rw.ok_rd h1 h2 fun e => h (by rw [e])
theorem rd_t {r r' : Rw} (n : Nat) (h1 : r.isW = true) (h2 : r'.isW = true) (h : r.rd.getD n 0 ≠ r'.rd.getD n 0) : Rw.ok r r' := Rw.ok_rd h1 h2 fun e => h (by rw [e])
local macro_rules | `(tactic| walk_at "nums") => `(tactic| (simp only [Rw.st, Rw.bw, Rw.isW, Rw.rd, Rw.nx, id, Mach.at', Mach.go, Mach.note, Mach.enter, Mach.halt, Mach.undo, Mach.end_, Mach.bat, Mach.benter, Mach.bnote, Mach.bgo] at *))
theorem dj_copying : Dj id (fun r => M.halt ≤ r.st ∧ r.st < M.undo) M.copying := by
  unfold Mach.copying Mach.undo Mach.mks Mach.some_
  generalize M.halt = h
  have n1 := ns_nodup M.m
  have n2 := some_nodup M.m
  have c0 : Dj id (fun r => h ≤ r.st ∧ r.st ≤ h) [.m h 0 1 0 (h + 1)] := Dj.one ⟨Int.le_refl _, Int.le_refl _⟩
  have c1 := Dj.map (g := id) (P := fun r => r.st = h + 1) n1 (fun a => .w (h + 1) a 0 0 a 0 0 (h + 2)) (fun x hx => rfl) fun x hx y hy e => Rw.ok_rd rfl rfl (rd_ne0 (.inl e))
  have c2 := Dj.two (g := id) (P := fun r => r.st = h + 2 ∧ r.isW = true ∧ r.rd.headD 0 ≠ 0) n2 n1 (fun b x => .w (h + 2) b 0 x b 0 x (h + 3)) (fun b hb x hx => ⟨rfl, rfl, by have := some_mem hb; show b ≠ 0; omega⟩)
    fun b hb x hx b' hb' x' hx' e => Rw.ok_rd rfl rfl (rd_ne0 (e.elim .inl fun e => .inr (.inr e)))
  have c3 := Dj.map (g := id) (P := fun r => r.st = h + 2 ∧ r.isW = true ∧ r.rd.headD 0 = 0) n1 (fun x => .w (h + 2) 0 0 x 0 0 x (h + 7)) (fun x hx => ⟨rfl, rfl, rfl⟩) fun x hx y hy e => Rw.ok_rd rfl rfl (rd_ne0 (.inr (.inr e)))
  have c4 : Dj id (fun r => r.st = h + 3) [.m (h + 3) 0 0 1 (h + 4)] := Dj.one rfl
  have c5 := Dj.map (g := id) (P := fun r => r.st = h + 4) n2 (fun b => .w (h + 4) b 0 0 b 0 b (h + 5)) (fun x hx => rfl) fun x hx y hy e => Rw.ok_rd rfl rfl (rd_ne0 (.inl e))
  have c6 : Dj id (fun r => r.st = h + 5) [.m (h + 5) 1 0 0 (h + 6)] := Dj.one rfl
  have c7 := Dj.two (g := id) (P := fun r => r.st = h + 6) n1 n2 (fun a b => .w (h + 6) a 0 b a 0 b (h + 2)) (fun b hb x hx => rfl) fun b hb x hx b' hb' x' hx' e => Rw.ok_rd rfl rfl (rd_ne0 (e.elim .inl fun e => .inr (.inr e)))
  have c8 := Dj.two (g := id) (P := fun r => r.st = h + 7 ∧ r.isW = true ∧ r.rd.getD 2 0 ≠ 0) n1 n2 (fun a b => .w (h + 7) a 0 b a 0 b (h + 8)) (fun b hb x hx => ⟨rfl, rfl, by have := some_mem hx; show x ≠ 0; omega⟩)
    fun b hb x hx b' hb' x' hx' e => Rw.ok_rd rfl rfl (rd_ne0 (e.elim .inl fun e => .inr (.inr e)))
  have c9 := Dj.map (g := id) (P := fun r => r.st = h + 7 ∧ r.isW = true ∧ r.rd.getD 2 0 = 0) n1 (fun a => .w (h + 7) a 0 0 a 0 0 (h + 10)) (fun x hx => ⟨rfl, rfl, rfl⟩) fun x hx y hy e => Rw.ok_rd rfl rfl (rd_ne0 (.inl e))
  have c10 : Dj id (fun r => r.st = h + 8) [.m (h + 8) (-1) 0 (-1) (h + 9)] := Dj.one rfl
  have c11 := Dj.two (g := id) (P := fun r => r.st = h + 9) n2 n1 (fun b x => .w (h + 9) b 0 x b 0 x (h + 7)) (fun b hb x hx => rfl) fun b hb x hx b' hb' x' hx' e => Rw.ok_rd rfl rfl (rd_ne0 (e.elim .inl fun e => .inr (.inr e)))
  have c12 : Dj id (fun r => r.st = h + 10) [.m (h + 10) 0 (-1) 0 (h + 11)] := Dj.one rfl
  have d1 := c0.appw c1 (R := fun r => h ≤ r.st ∧ r.st ≤ h + 1) (fun x y hx hy => Rw.ok_st (by omega)) (fun r hr => by omega)
  have d2 := d1.appw c2 (R := fun r => h ≤ r.st ∧ r.st ≤ h + 2 ∧ (r.st = h + 2 → r.isW = true ∧ r.rd.headD 0 ≠ 0)) (fun x y hx hy => Rw.ok_st (by omega)) (fun r hr => by
    rcases hr with hr | ⟨a, b, c⟩
    · exact ⟨by omega, by omega, fun z => by omega⟩
    · exact ⟨by omega, by omega, fun _ => ⟨b, c⟩⟩)
  have d3 := d2.appw c3 (R := fun r => h ≤ r.st ∧ r.st ≤ h + 2) (fun x y hx hy => by
    by_cases q : x.st = h + 2
    · exact rd_h (hx.2.2 q).1 hy.2.1 (by rw [hy.2.2]; exact (hx.2.2 q).2)
    · exact Rw.ok_st (by omega)) (fun r hr => by
    rcases hr with ⟨a, b, _⟩ | ⟨a, _⟩ <;> omega)
  have d4 := d3.appw c4 (R := fun r => h ≤ r.st ∧ r.st ≤ h + 3) (fun x y hx hy => Rw.ok_st (by omega)) (fun r hr => by omega)
  have d5 := d4.appw c5 (R := fun r => h ≤ r.st ∧ r.st ≤ h + 4) (fun x y hx hy => Rw.ok_st (by omega)) (fun r hr => by omega)
  have d6 := d5.appw c6 (R := fun r => h ≤ r.st ∧ r.st ≤ h + 5) (fun x y hx hy => Rw.ok_st (by omega)) (fun r hr => by omega)
  have d7 := d6.appw c7 (R := fun r => h ≤ r.st ∧ r.st ≤ h + 6) (fun x y hx hy => Rw.ok_st (by omega)) (fun r hr => by omega)
  have d8 := d7.appw c8 (R := fun r => h ≤ r.st ∧ r.st ≤ h + 7 ∧ (r.st = h + 7 → r.isW = true ∧ r.rd.getD 2 0 ≠ 0)) (fun x y hx hy => Rw.ok_st (by omega)) (fun r hr => by
    rcases hr with hr | ⟨a, b, c⟩
    · exact ⟨by omega, by omega, fun z => by omega⟩
    · exact ⟨by omega, by omega, fun _ => ⟨b, c⟩⟩)
  have d9 := d8.appw c9 (R := fun r => h ≤ r.st ∧ r.st ≤ h + 7) (fun x y hx hy => by
    by_cases q : x.st = h + 7
    · exact rd_t 2 (hx.2.2 q).1 hy.2.1 (by rw [hy.2.2]; exact (hx.2.2 q).2)
    · exact Rw.ok_st (by omega)) (fun r hr => by
    rcases hr with ⟨a, b, _⟩ | ⟨a, _⟩ <;> omega)
  have d10 := d9.appw c10 (R := fun r => h ≤ r.st ∧ r.st ≤ h + 8) (fun x y hx hy => Rw.ok_st (by omega)) (fun r hr => by omega)
  have d11 := d10.appw c11 (R := fun r => h ≤ r.st ∧ r.st ≤ h + 9) (fun x y hx hy => Rw.ok_st (by omega)) (fun r hr => by omega)
  have d12 := d11.appw c12 (R := fun r => h ≤ r.st ∧ r.st < h + 11) (fun x y hx hy => Rw.ok_st (by omega)) (fun r hr => by omega)
  exact d12
theorem dj_copyingB : Dj Rw.bw (fun r => M.halt < r.st ∧ r.st ≤ M.undo) M.copying := by
  unfold Mach.copying Mach.undo Mach.mks Mach.some_
  generalize M.halt = h
  have n1 := ns_nodup M.m
  have n2 := some_nodup M.m
  have c0 : Dj Rw.bw (fun r => r.st = h + 1) [.m h 0 1 0 (h + 1)] := Dj.one rfl
  have c1 := Dj.map (g := Rw.bw) (P := fun r => r.st = h + 2 ∧ r.isW = true ∧ r.rd.getD 2 0 = 0) n1 (fun a => .w (h + 1) a 0 0 a 0 0 (h + 2)) (fun x hx => ⟨rfl, rfl, rfl⟩) fun x hx y hy e => Rw.ok_rd rfl rfl (rd_ne0 (.inl e))
  have c2 := Dj.two (g := Rw.bw) (P := fun r => r.st = h + 3) n2 n1 (fun b x => .w (h + 2) b 0 x b 0 x (h + 3)) (fun b hb x hx => rfl) fun b hb x hx b' hb' x' hx' e => Rw.ok_rd rfl rfl (rd_ne0 (e.elim .inl fun e => .inr (.inr e)))
  have c3 := Dj.map (g := Rw.bw) (P := fun r => r.st = h + 7 ∧ r.isW = true ∧ r.rd.headD 0 = 0) n1 (fun x => .w (h + 2) 0 0 x 0 0 x (h + 7)) (fun x hx => ⟨rfl, rfl, rfl⟩) fun x hx y hy e => Rw.ok_rd rfl rfl (rd_ne0 (.inr (.inr e)))
  have c4 : Dj Rw.bw (fun r => r.st = h + 4) [.m (h + 3) 0 0 1 (h + 4)] := Dj.one rfl
  have c5 := Dj.map (g := Rw.bw) (P := fun r => r.st = h + 5) n2 (fun b => .w (h + 4) b 0 0 b 0 b (h + 5)) (fun x hx => rfl) fun x hx y hy e => Rw.ok_rd rfl rfl (rd_ne0 (.inl e))
  have c6 : Dj Rw.bw (fun r => r.st = h + 6) [.m (h + 5) 1 0 0 (h + 6)] := Dj.one rfl
  have c7 := Dj.two (g := Rw.bw) (P := fun r => r.st = h + 2 ∧ r.isW = true ∧ r.rd.getD 2 0 ≠ 0) n1 n2 (fun a b => .w (h + 6) a 0 b a 0 b (h + 2)) (fun b hb x hx => ⟨rfl, rfl, by have := some_mem hx; show x ≠ 0; omega⟩) fun b hb x hx b' hb' x' hx' e => Rw.ok_rd rfl rfl (rd_ne0 (e.elim .inl fun e => .inr (.inr e)))
  have c8 := Dj.two (g := Rw.bw) (P := fun r => r.st = h + 8) n1 n2 (fun a b => .w (h + 7) a 0 b a 0 b (h + 8)) (fun b hb x hx => rfl) fun b hb x hx b' hb' x' hx' e => Rw.ok_rd rfl rfl (rd_ne0 (e.elim .inl fun e => .inr (.inr e)))
  have c9 := Dj.map (g := Rw.bw) (P := fun r => r.st = h + 10) n1 (fun a => .w (h + 7) a 0 0 a 0 0 (h + 10)) (fun x hx => rfl) fun x hx y hy e => Rw.ok_rd rfl rfl (rd_ne0 (.inl e))
  have c10 : Dj Rw.bw (fun r => r.st = h + 9) [.m (h + 8) (-1) 0 (-1) (h + 9)] := Dj.one rfl
  have c11 := Dj.two (g := Rw.bw) (P := fun r => r.st = h + 7 ∧ r.isW = true ∧ r.rd.headD 0 ≠ 0) n2 n1 (fun b x => .w (h + 9) b 0 x b 0 x (h + 7)) (fun b hb x hx => ⟨rfl, rfl, by have := some_mem hb; show b ≠ 0; omega⟩) fun b hb x hx b' hb' x' hx' e => Rw.ok_rd rfl rfl (rd_ne0 (e.elim .inl fun e => .inr (.inr e)))
  have c12 : Dj Rw.bw (fun r => r.st = h + 11) [.m (h + 10) 0 (-1) 0 (h + 11)] := Dj.one rfl
  have d1 := c0.appw c1 (R := fun r => (r.st = h + 1 ∨ r.st = h + 2) ∧ (r.st = h + 2 → r.isW = true ∧ r.rd.getD 2 0 = 0)) (fun x y hx hy => Rw.ok_st (by omega)) (fun r hr => by
    rcases hr with hr | ⟨a, b, c⟩
    · exact ⟨by omega, fun z => by omega⟩
    · exact ⟨by omega, fun _ => ⟨b, c⟩⟩)
  have d2 := d1.appw c2 (R := fun r => (r.st = h + 1 ∨ r.st = h + 2 ∨ r.st = h + 3) ∧ (r.st = h + 2 → r.isW = true ∧ r.rd.getD 2 0 = 0)) (fun x y hx hy => Rw.ok_st (by have := hx.1; omega)) (fun r hr => by
    rcases hr with ⟨a, b⟩ | a
    · exact ⟨by omega, b⟩
    · exact ⟨by omega, fun z => by omega⟩)
  have d3 := d2.appw c3 (R := fun r => (r.st = h + 1 ∨ r.st = h + 2 ∨ r.st = h + 3 ∨ r.st = h + 7) ∧ (r.st = h + 2 → r.isW = true ∧ r.rd.getD 2 0 = 0) ∧ (r.st = h + 7 → r.isW = true ∧ r.rd.headD 0 = 0)) (fun x y hx hy => Rw.ok_st (by have := hx.1; have := hy.1; omega)) (fun r hr => by
    rcases hr with ⟨a, b⟩ | ⟨a, b, c⟩
    · exact ⟨by omega, b, fun z => by omega⟩
    · exact ⟨by omega, fun z => by omega, fun _ => ⟨b, c⟩⟩)
  have add : ∀ {l l' : List Rw} {n : Int} {S : Int → Prop}, Dj Rw.bw (fun r => S r.st ∧ (r.st = h + 2 → r.isW = true ∧ r.rd.getD 2 0 = 0) ∧ (r.st = h + 7 → r.isW = true ∧ r.rd.headD 0 = 0)) l → Dj Rw.bw (fun r => r.st = h + n) l' → n ≠ 2 → n ≠ 7 → (∀ z, S z → z ≠ h + n) →
      Dj Rw.bw (fun r => (S r.st ∨ r.st = h + n) ∧ (r.st = h + 2 → r.isW = true ∧ r.rd.getD 2 0 = 0) ∧ (r.st = h + 7 → r.isW = true ∧ r.rd.headD 0 = 0)) (l ++ l') := fun {l l' n S} h1 h2 a2 a7 hs =>
    h1.appw h2 (fun x y hx hy => Rw.ok_st (by rw [hy]; exact hs _ hx.1)) (fun r hr => by
      rcases hr with ⟨a, b, c⟩ | a
      · exact ⟨.inl a, b, c⟩
      · exact ⟨.inr a, fun z => by omega, fun z => by omega⟩)
  have d4 := add (S := fun z => z = h + 1 ∨ z = h + 2 ∨ z = h + 3 ∨ z = h + 7) d3 c4 (by decide) (by decide) (fun z hz => by omega)
  have d5 := add (S := fun z => (z = h + 1 ∨ z = h + 2 ∨ z = h + 3 ∨ z = h + 7) ∨ z = h + 4) d4 c5 (by decide) (by decide) (fun z hz => by omega)
  have d6 := add (S := fun z => ((z = h + 1 ∨ z = h + 2 ∨ z = h + 3 ∨ z = h + 7) ∨ z = h + 4) ∨ z = h + 5) d5 c6 (by decide) (by decide) (fun z hz => by omega)
  have d7 := d6.appw c7 (R := fun r => (r.st = h + 1 ∨ r.st = h + 2 ∨ r.st = h + 3 ∨ r.st = h + 7 ∨ r.st = h + 4 ∨ r.st = h + 5 ∨ r.st = h + 6) ∧ (r.st = h + 7 → r.isW = true ∧ r.rd.headD 0 = 0)) (fun x y hx hy => by
    by_cases q : x.st = h + 2
    · exact rd_t 2 (hx.2.1 q).1 hy.2.1 (by rw [(hx.2.1 q).2]; exact fun e => hy.2.2 e.symm)
    · exact Rw.ok_st (by rw [hy.1]; exact q)) (fun r hr => by
    rcases hr with ⟨a, b, c⟩ | ⟨a, b, c⟩
    · exact ⟨by omega, c⟩
    · exact ⟨by omega, fun z => by omega⟩)
  have add2 : ∀ {l l' : List Rw} {n : Int} {S : Int → Prop}, Dj Rw.bw (fun r => S r.st ∧ (r.st = h + 7 → r.isW = true ∧ r.rd.headD 0 = 0)) l → Dj Rw.bw (fun r => r.st = h + n) l' → n ≠ 7 → (∀ z, S z → z ≠ h + n) →
      Dj Rw.bw (fun r => (S r.st ∨ r.st = h + n) ∧ (r.st = h + 7 → r.isW = true ∧ r.rd.headD 0 = 0)) (l ++ l') := fun {l l' n S} h1 h2 a7 hs =>
    h1.appw h2 (fun x y hx hy => Rw.ok_st (by rw [hy]; exact hs _ hx.1)) (fun r hr => by
      rcases hr with ⟨a, c⟩ | a
      · exact ⟨.inl a, c⟩
      · exact ⟨.inr a, fun z => by omega⟩)
  have d8 := add2 (S := fun z => z = h + 1 ∨ z = h + 2 ∨ z = h + 3 ∨ z = h + 7 ∨ z = h + 4 ∨ z = h + 5 ∨ z = h + 6) d7 c8 (by decide) (fun z hz => by omega)
  have d9 := add2 (S := fun z => (z = h + 1 ∨ z = h + 2 ∨ z = h + 3 ∨ z = h + 7 ∨ z = h + 4 ∨ z = h + 5 ∨ z = h + 6) ∨ z = h + 8) d8 c9 (by decide) (fun z hz => by omega)
  have d10 := add2 (S := fun z => ((z = h + 1 ∨ z = h + 2 ∨ z = h + 3 ∨ z = h + 7 ∨ z = h + 4 ∨ z = h + 5 ∨ z = h + 6) ∨ z = h + 8) ∨ z = h + 10) d9 c10 (by decide) (fun z hz => by omega)
  have d11 := d10.appw c11 (R := fun r => h < r.st ∧ r.st ≤ h + 10) (fun x y hx hy => by
    by_cases q : x.st = h + 7
    · exact rd_h (hx.2 q).1 hy.2.1 (by rw [(hx.2 q).2]; exact fun e => hy.2.2 e.symm)
    · exact Rw.ok_st (by rw [hy.1]; exact q)) (fun r hr => by
    rcases hr with ⟨a, b⟩ | ⟨a, b⟩ <;> omega)
  exact d11.appw c12 (fun x y hx hy => Rw.ok_st (by omega)) (fun r hr => by omega)
end
end CM
set_option maxHeartbeats 4000000
/-! M6: .. all rows; in range; their count. -/
namespace CM
section
variable {M : Mach} {g : Rw → Rw} {P Q R : Rw → Prop} {l1 l2 : List Rw}
local macro_rules | `(tactic| walk_at "nums") => `(tactic| (simp only [Rw.st, Rw.bw, Rw.isW, Rw.rd, Rw.nx, id, Mach.at', Mach.go, Mach.note, Mach.enter, Mach.halt, Mach.undo, Mach.end_, Mach.bat, Mach.benter, Mach.bnote, Mach.bgo] at *))
theorem p_ne {q a q' a' : Nat} (ha : a < M.m) (ha' : a' < M.m) (hne : q ≠ q' ∨ a ≠ a') : M.p q a ≠ M.p q' a' := fun e => by
  obtain ⟨e1, e2⟩ := p_inj ha ha' e
  rcases hne with h | h
  · exact h e1
  · exact h e2
/-- forth, backwards -/
theorem dj_forthB (ok : M.Ok) : Dj Rw.bw (fun r => 1 ≤ r.st ∧ r.st ≤ M.halt) M.forth := by
  have np := pairs_nn (M := M)
  have s1 := ok.s1
  have b1 := Dj.map (g := Rw.bw) (P := fun r => r.st = 1 ∧ r.isW = true ∧ r.rd.getD 1 0 = 0) (ns_nodup M.m) (fun a => .w 0 a 0 0 a 0 0 (M.enter 0)) (fun x hx => ⟨by walk_at "nums"; omega, rfl, rfl⟩) fun x hx y hy h => Rw.ok_rd rfl rfl (rd_ne0 (.inl h))
  have b2 : Dj Rw.bw (fun r => (1 + 2 * (M.s : Int) ≤ r.st ∧ r.st ≤ M.halt) ∨ (1 ≤ r.st ∧ r.st < 1 + M.s ∧ r.isW = true ∧ r.rd.getD 1 0 ≠ 0)) ((List.range M.s).flatMap fun q => (List.range M.m).flatMap fun a => M.pairRows q a) := by
    refine Dj.pairs _ (fun q hq a ha => ?_) fun q hq a ha q' hq' a' ha' hne x hx y hy => ?_
    · have hp := p_lt hq ha
      refine ⟨?_, fun r hr => ?_⟩
      · unfold Mach.pairRows
        cases hr : M.at_ q a with
        | none => exact List.pairwise_singleton _ _
        | some r =>
          obtain ⟨b, d, t⟩ := r
          have ht := at_row ok hq ha hr
          rw [List.map_append]
          refine List.pairwise_append.mpr ⟨List.pairwise_pair.mpr (Rw.ok_st (by walk_at "nums"; omega)), by
            rw [List.map_map]
            exact List.pairwise_map.mpr (pw_of (ns_nodup _) fun c _ c' _ h => Rw.ok_rd rfl rfl (rd_ne0 (.inl h))), fun x hx y hy => ?_⟩
          obtain ⟨y', hy', rfl⟩ := List.mem_map.mp hy
          obtain ⟨c, hc, rfl⟩ := List.mem_map.mp hy'
          rcases List.mem_cons.mp hx with rfl | hx
          · exact Rw.ok_st (by walk_at "nums"; omega)
          · rw [List.mem_singleton.mp hx]
            exact Rw.ok_st (by walk_at "nums"; omega)
      · rcases pair_cases ok hq ha hr with ⟨_, rfl⟩ | ⟨b, d, t, _, hb, rfl | rfl | ⟨c, _, _, rfl⟩⟩
        · left; walk_at "nums"; omega
        · left; walk_at "nums"; omega
        · left; walk_at "nums"; omega
        · right
          refine ⟨?_, ?_, rfl, ?_⟩
          · walk_at "nums"; omega
          · walk_at "nums"; omega
          · show M.p q a + 1 ≠ 0
            omega
    · have hp := p_lt hq ha
      have hp' := p_lt hq' ha'
      have hpp := p_ne ha ha' hne
      have kk : ∀ {q a : Nat} {x : Rw}, q < M.s → a < M.m → x ∈ M.pairRows q a → (x.bw.st = M.halt ∧ x.bw.isW = true ∧ x.bw.rd.getD 1 0 = M.p q a + 1) ∨ x.bw.st = M.go (M.p q a) ∨ x.bw.st = M.note (M.p q a) ∨ (x.bw.st < 1 + M.s ∧ x.bw.isW = true ∧ x.bw.rd.getD 1 0 = M.p q a + 1) := fun {q a x} hq ha hx => by
        rcases pair_cases ok hq ha hx with ⟨_, rfl⟩ | ⟨b, d, t, _, hb, rfl | rfl | ⟨c, _, _, rfl⟩⟩
        · exact .inl ⟨rfl, rfl, rfl⟩
        · exact .inr (.inl rfl)
        · exact .inr (.inr (.inl rfl))
        · exact .inr (.inr (.inr ⟨by walk_at "nums"; omega, rfl, rfl⟩))
      have z1 := kk hq ha hx
      have z2 := kk hq' ha' hy
      have hh : M.halt = 1 + 2 * M.s + 2 * M.pairs := rfl
      rcases z1 with ⟨e1, w1, r1⟩ | e1 | e1 | ⟨e1, w1, r1⟩ <;> rcases z2 with ⟨e2, w2, r2⟩ | e2 | e2 | ⟨e2, w2, r2⟩
      · exact rd_t 1 w1 w2 (by rw [r1, r2]; omega)
      · exact Rw.ok_st (by rw [e1, e2]; simp only [Mach.go, Mach.note]; omega)
      · exact Rw.ok_st (by rw [e1, e2]; simp only [Mach.go, Mach.note]; omega)
      · exact Rw.ok_st (by omega)
      · exact Rw.ok_st (by rw [e1, e2]; simp only [Mach.go, Mach.note]; omega)
      · exact Rw.ok_st (by rw [e1, e2]; simp only [Mach.go, Mach.note]; omega)
      · exact Rw.ok_st (by rw [e1, e2]; simp only [Mach.go, Mach.note]; omega)
      · exact Rw.ok_st (by rw [e1]; simp only [Mach.go, Mach.note]; omega)
      · exact Rw.ok_st (by rw [e1, e2]; simp only [Mach.go, Mach.note]; omega)
      · exact Rw.ok_st (by rw [e1, e2]; simp only [Mach.go, Mach.note]; omega)
      · exact Rw.ok_st (by rw [e1, e2]; simp only [Mach.go, Mach.note]; omega)
      · exact Rw.ok_st (by rw [e1]; simp only [Mach.go, Mach.note]; omega)
      · exact Rw.ok_st (by omega)
      · exact Rw.ok_st (by rw [e2]; simp only [Mach.go, Mach.note]; omega)
      · exact Rw.ok_st (by rw [e2]; simp only [Mach.go, Mach.note]; omega)
      · exact rd_t 1 w1 w2 (by rw [r1, r2]; omega)
  have b3 := Dj.map (g := Rw.bw) (P := fun r => 1 + (M.s : Int) ≤ r.st ∧ r.st < 1 + 2 * M.s) (l := List.range M.s) List.nodup_range (fun q => .m (M.enter q) 0 1 0 (M.at' q)) (fun q hq => by
    have := List.mem_range.mp hq
    walk_at "nums"
    omega) fun x hx y hy h => Rw.ok_st (by walk_at "nums"; omega)
  have hh : M.halt = 1 + 2 * M.s + 2 * M.pairs := rfl
  refine (b1.appw b2 (R := fun r => (1 + 2 * (M.s : Int) ≤ r.st ∧ r.st ≤ M.halt) ∨ (1 ≤ r.st ∧ r.st < 1 + M.s)) (fun x y hx hy => ?_) (fun r hr => ?_)).appw b3 (fun x y hx hy => Rw.ok_st (by omega)) (fun r hr => by omega)
  · rcases hy with hy | ⟨y1, y2, y3, y4⟩
    · exact Rw.ok_st (by omega)
    · exact rd_t 1 hx.2.1 y3 (by rw [hx.2.2]; exact fun e => y4 e.symm)
  · rcases hr with ⟨a, _⟩ | hr | ⟨a, b, _⟩ <;> omega
/-! the way back -/
theorem dj_back (ok : M.Ok) : Dj id (fun r => M.undo ≤ r.st ∧ r.st < M.end_) M.back := by
  have np := pairs_nn (M := M)
  have s1 := ok.s1
  have he : M.end_ = M.undo + 1 + 2 * M.s + 2 * M.pairs := rfl
  have b1 : Dj id (fun r => r.st = M.undo) ((List.range M.s).flatMap fun q => (List.range M.m).flatMap fun a => M.undoRows q a) := by
    refine Dj.pairs _ (fun q hq a ha => ?_) fun q hq a ha q' hq' a' ha' hne x hx y hy => ?_
    · unfold Mach.undoRows
      cases hr : M.at_ q a with
      | none => exact Dj.one rfl
      | some r => exact Dj.nil
    · obtain ⟨_, rfl⟩ := undo_cases hx
      obtain ⟨_, rfl⟩ := undo_cases hy
      have := p_ne ha ha' hne
      exact Rw.ok_rd rfl rfl (rd_ne0 (.inr (.inl (by omega))))
  have b2 := Dj.map (g := id) (P := fun r => M.undo + 1 ≤ r.st ∧ r.st < M.undo + 1 + M.s) (l := List.range M.s) List.nodup_range (fun q => .m (M.bat q) 0 (-1) 0 (M.benter q)) (fun q hq => by
    have := List.mem_range.mp hq
    walk_at "nums"
    omega) fun x hx y hy h => Rw.ok_st (by walk_at "nums"; omega)
  have b3 := Dj.map (g := id) (P := fun r => r.st = M.undo + 1 + M.s ∧ r.isW = true ∧ r.rd.getD 1 0 = 0) (ns_nodup M.m) (fun a => .w (M.benter 0) a 0 0 a 0 0 M.end_) (fun x hx => ⟨by walk_at "nums"; omega, rfl, rfl⟩) fun x hx y hy h => Rw.ok_rd rfl rfl (rd_ne0 (.inl h))
  have b4 : Dj id (fun r => (M.undo + 1 + 2 * (M.s : Int) ≤ r.st ∧ r.st < M.end_) ∨ (M.undo + 1 + M.s ≤ r.st ∧ r.st < M.undo + 1 + 2 * M.s ∧ r.isW = true ∧ r.rd.getD 1 0 ≠ 0)) ((List.range M.s).flatMap fun q => (List.range M.m).flatMap fun a => M.backRows q a) := by
    refine Dj.pairs _ (fun q hq a ha => ?_) fun q hq a ha q' hq' a' ha' hne x hx y hy => ?_
    · have hp := p_lt hq ha
      refine ⟨?_, fun r hr => ?_⟩
      · rw [List.map_id]
        unfold Mach.backRows
        cases hr : M.at_ q a with
        | none => exact List.Pairwise.nil
        | some r =>
          obtain ⟨b, d, t⟩ := r
          have ht := at_row ok hq ha hr
          refine List.pairwise_append.mpr ⟨List.pairwise_map.mpr (pw_of (ns_nodup _) fun c _ c' _ h => Rw.ok_rd rfl rfl (rd_ne0 (.inl h))), List.pairwise_pair.mpr (Rw.ok_st (by walk_at "nums"; omega)), fun x hx y hy => ?_⟩
          obtain ⟨c, hc, rfl⟩ := List.mem_map.mp hx
          rcases List.mem_cons.mp hy with rfl | hy
          · exact Rw.ok_st (by walk_at "nums"; omega)
          · rw [List.mem_singleton.mp hy]
            exact Rw.ok_st (by walk_at "nums"; omega)
      · obtain ⟨b, d, t, _, hb, ⟨c, _, _, rfl⟩ | rfl | rfl⟩ := back_cases ok hq ha hr
        · right
          refine ⟨?_, ?_, rfl, ?_⟩
          · walk_at "nums"; omega
          · walk_at "nums"; omega
          · show M.p q a + 1 ≠ 0
            omega
        · left; walk_at "nums"; omega
        · left; walk_at "nums"; omega
    · have hp := p_lt hq ha
      have hp' := p_lt hq' ha'
      have hpp := p_ne ha ha' hne
      have kk : ∀ {q a : Nat} {x : Rw}, q < M.s → a < M.m → x ∈ M.backRows q a → (x.st < M.undo + 1 + 2 * M.s ∧ x.isW = true ∧ x.rd.getD 1 0 = M.p q a + 1) ∨ x.st = M.bnote (M.p q a) ∨ x.st = M.bgo (M.p q a) := fun {q a x} hq ha hx => by
        obtain ⟨b, d, t, _, hb, ⟨c, _, _, rfl⟩ | rfl | rfl⟩ := back_cases ok hq ha hx
        · exact .inl ⟨by walk_at "nums"; omega, rfl, rfl⟩
        · exact .inr (.inl rfl)
        · exact .inr (.inr rfl)
      have z1 := kk hq ha hx
      have z2 := kk hq' ha' hy
      show Rw.ok x y
      rcases z1 with ⟨e1, w1, r1⟩ | e1 | e1 <;> rcases z2 with ⟨e2, w2, r2⟩ | e2 | e2
      · exact rd_t 1 w1 w2 (by rw [r1, r2]; omega)
      · exact Rw.ok_st (by rw [e2]; simp only [Mach.bgo, Mach.bnote]; omega)
      · exact Rw.ok_st (by rw [e2]; simp only [Mach.bgo, Mach.bnote]; omega)
      · exact Rw.ok_st (by rw [e1]; simp only [Mach.bgo, Mach.bnote]; omega)
      · exact Rw.ok_st (by rw [e1, e2]; simp only [Mach.bgo, Mach.bnote]; omega)
      · exact Rw.ok_st (by rw [e1, e2]; simp only [Mach.bgo, Mach.bnote]; omega)
      · exact Rw.ok_st (by rw [e1]; simp only [Mach.bgo, Mach.bnote]; omega)
      · exact Rw.ok_st (by rw [e1, e2]; simp only [Mach.bgo, Mach.bnote]; omega)
      · exact Rw.ok_st (by rw [e1, e2]; simp only [Mach.bgo, Mach.bnote]; omega)
  have d1 := b1.appw b2 (R := fun r => M.undo ≤ r.st ∧ r.st < M.undo + 1 + M.s) (fun x y hx hy => Rw.ok_st (by omega)) (fun r hr => by omega)
  have d2 := d1.appw b3 (R := fun r => (M.undo ≤ r.st ∧ r.st < M.undo + 1 + M.s) ∨ (r.st = M.undo + 1 + M.s ∧ r.isW = true ∧ r.rd.getD 1 0 = 0)) (fun x y hx hy => Rw.ok_st (by omega)) (fun r hr => hr)
  refine d2.appw b4 (fun x y hx hy => ?_) (fun r hr => ?_)
  · rcases hx with hx | ⟨x1, x2, x3⟩
    · rcases hy with hy | ⟨y1, y2, _⟩ <;> exact Rw.ok_st (by omega)
    · rcases hy with hy | ⟨y1, y2, y3, y4⟩
      · exact Rw.ok_st (by omega)
      · exact rd_t 1 x2 y3 (by rw [x3]; exact fun e => y4 e.symm)
  · rcases hr with (hr | ⟨a, _⟩) | hr | ⟨a, b, _⟩ <;> omega
theorem dj_backB (ok : M.Ok) : Dj Rw.bw (fun r => M.undo < r.st ∧ r.st ≤ M.end_) M.back := by
  have np := pairs_nn (M := M)
  have s1 := ok.s1
  have he : M.end_ = M.undo + 1 + 2 * M.s + 2 * M.pairs := rfl
  have b1 : Dj Rw.bw (fun r => ∃ q a : Nat, q < M.s ∧ M.at_ q a = none ∧ r.st = M.bat q ∧ r.isW = true ∧ r.rd = [(a : Int), 0, 0]) ((List.range M.s).flatMap fun q => (List.range M.m).flatMap fun a => M.undoRows q a) := by
    refine Dj.pairs _ (fun q hq a ha => ?_) fun q hq a ha q' hq' a' ha' hne x hx y hy => ?_
    · unfold Mach.undoRows
      cases hr : M.at_ q a with
      | none => exact Dj.one ⟨q, a, hq, hr, rfl, rfl, rfl⟩
      | some r => exact Dj.nil
    · obtain ⟨_, rfl⟩ := undo_cases hx
      obtain ⟨_, rfl⟩ := undo_cases hy
      by_cases hqq : q = q'
      · exact Rw.ok_rd rfl rfl (rd_ne0 (.inl (by omega)))
      · exact Rw.ok_st (by walk_at "nums"; omega)
  have b2 := Dj.map (g := Rw.bw) (P := fun r => M.undo + 1 + M.s ≤ r.st ∧ r.st < M.undo + 1 + 2 * M.s) (l := List.range M.s) List.nodup_range (fun q => .m (M.bat q) 0 (-1) 0 (M.benter q)) (fun q hq => by
    have := List.mem_range.mp hq
    walk_at "nums"
    omega) fun x hx y hy h => Rw.ok_st (by walk_at "nums"; omega)
  have b3 := Dj.map (g := Rw.bw) (P := fun r => r.st = M.end_) (ns_nodup M.m) (fun a => .w (M.benter 0) a 0 0 a 0 0 M.end_) (fun x hx => rfl) fun x hx y hy h => Rw.ok_rd rfl rfl (rd_ne0 (.inl h))
  have b4 : Dj Rw.bw (fun r => (M.undo + 1 + 2 * (M.s : Int) ≤ r.st ∧ r.st < M.end_) ∨ ∃ q a : Nat, q < M.s ∧ M.at_ q a ≠ none ∧ r.st = M.bat q ∧ r.isW = true ∧ r.rd = [(a : Int), 0, 0]) ((List.range M.s).flatMap fun q => (List.range M.m).flatMap fun a => M.backRows q a) := by
    refine Dj.pairs _ (fun q hq a ha => ?_) fun q hq a ha q' hq' a' ha' hne x hx y hy => ?_
    · have hp := p_lt hq ha
      refine ⟨?_, fun r hr => ?_⟩
      · unfold Mach.backRows
        cases hr : M.at_ q a with
        | none => exact List.Pairwise.nil
        | some r =>
          obtain ⟨b, d, t⟩ := r
          rw [List.map_append]
          refine List.pairwise_append.mpr ⟨by
            rw [List.map_map]
            exact List.pairwise_map.mpr (pw_of (ns_nodup _) fun c _ c' _ h => Rw.ok_rd rfl rfl (rd_ne0 (.inl h))), List.pairwise_pair.mpr (Rw.ok_st (by walk_at "nums"; omega)), fun x hx y hy => ?_⟩
          obtain ⟨x', hx', rfl⟩ := List.mem_map.mp hx
          obtain ⟨c, hc, rfl⟩ := List.mem_map.mp hx'
          rcases List.mem_cons.mp hy with rfl | hy
          · exact Rw.ok_st (by walk_at "nums"; omega)
          · rw [List.mem_singleton.mp hy]
            exact Rw.ok_st (by walk_at "nums"; omega)
      · obtain ⟨b, d, t, hat, hb, ⟨c, _, _, rfl⟩ | rfl | rfl⟩ := back_cases ok hq ha hr
        · left; walk_at "nums"; omega
        · left; walk_at "nums"; omega
        · exact .inr ⟨q, a, hq, (by rw [hat]; intro z; cases z), rfl, rfl, rfl⟩
    · have hp := p_lt hq ha
      have hp' := p_lt hq' ha'
      have hpp := p_ne ha ha' hne
      have kk : ∀ {q a : Nat} {x : Rw}, q < M.s → a < M.m → x ∈ M.backRows q a → x.bw.st = M.bnote (M.p q a) ∨ x.bw.st = M.bgo (M.p q a) ∨ (x.bw.st = M.bat q ∧ x.bw.isW = true ∧ x.bw.rd = [(a : Int), 0, 0]) := fun {q a x} hq ha hx => by
        obtain ⟨b, d, t, _, hb, ⟨c, _, _, rfl⟩ | rfl | rfl⟩ := back_cases ok hq ha hx
        · exact .inl rfl
        · exact .inr (.inl rfl)
        · exact .inr (.inr ⟨rfl, rfl, rfl⟩)
      have z1 := kk hq ha hx
      have z2 := kk hq' ha' hy
      rcases z1 with e1 | e1 | ⟨e1, w1, r1⟩ <;> rcases z2 with e2 | e2 | ⟨e2, w2, r2⟩
      · exact Rw.ok_st (by rw [e1, e2]; simp only [Mach.bgo, Mach.bnote, Mach.bat]; omega)
      · exact Rw.ok_st (by rw [e1, e2]; simp only [Mach.bgo, Mach.bnote, Mach.bat]; omega)
      · exact Rw.ok_st (by rw [e1, e2]; simp only [Mach.bgo, Mach.bnote, Mach.bat]; omega)
      · exact Rw.ok_st (by rw [e1, e2]; simp only [Mach.bgo, Mach.bnote, Mach.bat]; omega)
      · exact Rw.ok_st (by rw [e1, e2]; simp only [Mach.bgo, Mach.bnote, Mach.bat]; omega)
      · exact Rw.ok_st (by rw [e1, e2]; simp only [Mach.bgo, Mach.bnote, Mach.bat]; omega)
      · exact Rw.ok_st (by rw [e1, e2]; simp only [Mach.bgo, Mach.bnote, Mach.bat]; omega)
      · exact Rw.ok_st (by rw [e1, e2]; simp only [Mach.bgo, Mach.bnote, Mach.bat]; omega)
      · by_cases hqq : q = q'
        · exact Rw.ok_rd w1 w2 (by rw [r1, r2]; exact rd_ne0 (.inl (by omega)))
        · exact Rw.ok_st (by rw [e1, e2]; simp only [Mach.bat]; omega)
  have d1 := b1.appw b2 (R := fun r => (∃ q a : Nat, q < M.s ∧ M.at_ q a = none ∧ r.st = M.bat q ∧ r.isW = true ∧ r.rd = [(a : Int), 0, 0]) ∨ (M.undo + 1 + M.s ≤ r.st ∧ r.st < M.undo + 1 + 2 * M.s)) (fun x y hx hy => by
    obtain ⟨q, a, h1, _, h2, _⟩ := hx
    exact Rw.ok_st (by rw [h2]; simp only [Mach.bat]; omega)) (fun r hr => hr)
  have d2 := d1.appw b3 (R := fun r => (∃ q a : Nat, q < M.s ∧ M.at_ q a = none ∧ r.st = M.bat q ∧ r.isW = true ∧ r.rd = [(a : Int), 0, 0]) ∨ (M.undo + 1 + M.s ≤ r.st ∧ r.st < M.undo + 1 + 2 * M.s) ∨ r.st = M.end_) (fun x y hx hy => by
    rcases hx with ⟨q, a, h1, _, h2, _⟩ | hx
    · exact Rw.ok_st (by rw [h2]; simp only [Mach.bat]; omega)
    · exact Rw.ok_st (by omega)) (fun r hr => by
    rcases hr with (hr | hr) | hr
    · exact .inl hr
    · exact .inr (.inl hr)
    · exact .inr (.inr hr))
  refine d2.appw b4 (fun x y hx hy => ?_) (fun r hr => ?_)
  · rcases hx with ⟨q, a, h1, h2, h3, h4, h5⟩ | hx
    · rcases hy with hy | ⟨q', a', k1, k2, k3, k4, k5⟩
      · exact Rw.ok_st (by rw [h3]; simp only [Mach.bat]; omega)
      · by_cases hqq : q = q'
        · subst hqq
          by_cases haa : a = a'
          · subst haa
            exact absurd h2 k2
          · exact Rw.ok_rd h4 k4 (by rw [h5, k5]; exact rd_ne0 (.inl (by omega)))
        · exact Rw.ok_st (by rw [h3, k3]; simp only [Mach.bat]; omega)
    · rcases hy with hy | ⟨q', a', k1, k2, k3, k4, k5⟩
      · exact Rw.ok_st (by omega)
      · exact Rw.ok_st (by rw [k3]; simp only [Mach.bat]; omega)
  · rcases hr with (⟨q, a, h1, _, h2, _⟩ | hr) | hr | ⟨q, a, h1, _, h2, _⟩
    · rw [h2]; simp only [Mach.bat]; omega
    · omega
    · omega
    · rw [h2]; simp only [Mach.bat]; omega
theorem dj_clean (ok : M.Ok) : Dj id (fun r => 0 ≤ r.st ∧ r.st < M.end_) M.clean := by
  have np := pairs_nn (M := M)
  have he : M.end_ = M.undo + 1 + 2 * M.s + 2 * M.pairs := rfl
  have hu : M.undo = M.halt + 11 := rfl
  have hh : M.halt = 1 + 2 * M.s + 2 * M.pairs := rfl
  exact ((dj_forth ok).appw dj_copying (R := fun r => 0 ≤ r.st ∧ r.st < M.undo) (fun x y hx hy => Rw.ok_st (by omega)) (fun r hr => by omega)).appw (dj_back ok) (fun x y hx hy => Rw.ok_st (by omega)) (fun r hr => by omega)
theorem dj_cleanB (ok : M.Ok) : Dj Rw.bw (fun r => 1 ≤ r.st ∧ r.st ≤ M.end_) M.clean := by
  have np := pairs_nn (M := M)
  have he : M.end_ = M.undo + 1 + 2 * M.s + 2 * M.pairs := rfl
  have hu : M.undo = M.halt + 11 := rfl
  have hh : M.halt = 1 + 2 * M.s + 2 * M.pairs := rfl
  exact ((dj_forthB ok).appw dj_copyingB (R := fun r => 1 ≤ r.st ∧ r.st ≤ M.undo) (fun x y hx hy => Rw.ok_st (by omega)) (fun r hr => by omega)).appw (dj_backB ok) (fun x y hx hy => Rw.ok_st (by omega)) (fun r hr => by omega)
theorem clean_ok (ok : M.Ok) : M.clean.Pairwise Rw.ok := by
  have := (dj_clean ok).1
  rw [List.map_id] at this
  exact this
theorem clean_okB (ok : M.Ok) : (M.clean.map Rw.bw).Pairwise Rw.ok := (dj_cleanB ok).1
end
end CM
set_option maxHeartbeats 4000000
/-! M7: the rows are in range; their count; which rows there are. -/
namespace CM
section
variable {M : Mach}
local macro_rules | `(tactic| walk_at "nums") => `(tactic| (simp only [Rw.st, Rw.bw, Rw.isW, Rw.rd, Rw.nx, id, Mach.at', Mach.go, Mach.note, Mach.enter, Mach.halt, Mach.undo, Mach.end_, Mach.bat, Mach.benter, Mach.bnote, Mach.bgo] at *))
theorem bd_w {m s st a0 a1 a2 b0 b1 b2 nx : Int} (h : (0 ≤ st ∧ st < s ∧ 0 ≤ nx ∧ nx < s) ∧ (0 ≤ a0 ∧ a0 ≤ m - 1) ∧ (0 ≤ a1 ∧ a1 ≤ m - 1) ∧ (0 ≤ a2 ∧ a2 ≤ m - 1) ∧ (0 ≤ b0 ∧ b0 ≤ m - 1) ∧ (0 ≤ b1 ∧ b1 ≤ m - 1) ∧ 0 ≤ b2 ∧ b2 ≤ m - 1) : (Rw.w st a0 a1 a2 b0 b1 b2 nx).bd m s := by
  obtain ⟨⟨h1, h2, h3, h4⟩, k0, k1, k2, l0, l1, l2⟩ := h
  refine ⟨h1, h2, h3, h4, fun a ha => ?_, fun a ha => ?_⟩
  · simp only [List.mem_cons, List.not_mem_nil, or_false] at ha
    rcases ha with rfl | rfl | rfl <;> assumption
  · simp only [List.mem_cons, List.not_mem_nil, or_false] at ha
    rcases ha with rfl | rfl | rfl
    · exact l0
    · exact l1
    · exact l2
theorem bd_m {m s st d0 d1 d2 nx : Int} (h : (0 ≤ st ∧ st < s ∧ 0 ≤ nx ∧ nx < s) ∧ (-1 ≤ d0 ∧ d0 ≤ 1) ∧ (-1 ≤ d1 ∧ d1 ≤ 1) ∧ (-1 ≤ d2 ∧ d2 ≤ 1)) : (Rw.m st d0 d1 d2 nx).bd m s := by
  obtain ⟨⟨h1, h2, h3, h4⟩, k0, k1, k2⟩ := h
  refine ⟨h1, h2, h3, h4, fun a ha => ?_⟩
  simp only [List.mem_cons, List.not_mem_nil, or_false] at ha
  rcases ha with rfl | rfl | rfl <;> assumption
theorem m_le_pairs (ok : M.Ok) : (M.m : Int) ≤ M.pairs := by
  unfold Mach.pairs
  have h : M.m * 1 ≤ M.m * M.s := Nat.mul_le_mul_left _ ok.s1
  rw [← Int.natCast_mul]
  omega
theorem pairs_le (ok : M.Ok) : M.pairs ≤ 320 := by
  unfold Mach.pairs
  have h : M.m * M.s ≤ 8 * 40 := Nat.mul_le_mul ok.m8 ok.s40
  rw [← Int.natCast_mul]
  omega
theorem clean_bd (ok : M.Ok) : ∀ rw ∈ M.clean, rw.bd (M.pairs + 1) (M.end_ + 1) := by
  have np := pairs_nn (M := M)
  have mp := m_le_pairs ok
  have s1 := ok.s1
  have m2 := ok.m2
  have pq : ∀ {x : Rw} {f : Nat → Nat → List Rw}, x ∈ ((List.range M.s).flatMap fun q => (List.range M.m).flatMap fun a => f q a) → ∃ q a, q < M.s ∧ a < M.m ∧ x ∈ f q a := fun {x f} hx => by
    obtain ⟨q, hq, hx⟩ := List.mem_flatMap.mp hx
    obtain ⟨a, ha, hx⟩ := List.mem_flatMap.mp hx
    exact ⟨q, a, List.mem_range.mp hq, List.mem_range.mp ha, hx⟩
  intro rw h
  unfold Mach.clean at h
  rcases List.mem_append.mp h with h | h
  · rcases List.mem_append.mp h with h | h
    · unfold Mach.forth at h
      rcases List.mem_append.mp h with h | h
      · rcases List.mem_append.mp h with h | h
        · obtain ⟨a, ha, rfl⟩ := List.mem_map.mp h
          have := ns_mem ha
          exact bd_w (by walk_at "nums"; omega)
        · obtain ⟨q, a, hq, ha, h⟩ := pq h
          have hp := p_lt hq ha
          rcases pair_cases ok hq ha h with ⟨_, rfl⟩ | ⟨b, d, t, _, hb, rfl | rfl | ⟨c, _, _, rfl⟩⟩
          · exact bd_w (by walk_at "nums"; omega)
          · exact bd_w (by walk_at "nums"; omega)
          · exact bd_m (by walk_at "nums"; omega)
          · exact bd_w (by walk_at "nums"; omega)
      · obtain ⟨q, hq, rfl⟩ := List.mem_map.mp h
        have := List.mem_range.mp hq
        exact bd_m (by walk_at "nums"; omega)
    · unfold Mach.copying Mach.mks Mach.some_ at h
      rcases List.mem_append.mp h with h | h
      · rcases List.mem_append.mp h with h | h
        · rcases List.mem_append.mp h with h | h
          · rcases List.mem_append.mp h with h | h
            · rcases List.mem_append.mp h with h | h
              · rcases List.mem_append.mp h with h | h
                · rcases List.mem_append.mp h with h | h
                  · rcases List.mem_append.mp h with h | h
                    · rcases List.mem_append.mp h with h | h
                      · rcases List.mem_append.mp h with h | h
                        · rcases List.mem_append.mp h with h | h
                          · rcases List.mem_append.mp h with h | h
                            · rw [List.mem_singleton.mp h]
                              exact bd_m (by walk_at "nums"; omega)
                            · obtain ⟨a, ha, rfl⟩ := List.mem_map.mp h
                              have := ns_mem ha
                              exact bd_w (by walk_at "nums"; omega)
                          · obtain ⟨b, hb, h⟩ := List.mem_flatMap.mp h
                            obtain ⟨a, ha, rfl⟩ := List.mem_map.mp h
                            have := ns_mem ha
                            have := some_mem hb
                            exact bd_w (by walk_at "nums"; omega)
                        · obtain ⟨a, ha, rfl⟩ := List.mem_map.mp h
                          have := ns_mem ha
                          exact bd_w (by walk_at "nums"; omega)
                      · rw [List.mem_singleton.mp h]
                        exact bd_m (by walk_at "nums"; omega)
                    · obtain ⟨b, hb, rfl⟩ := List.mem_map.mp h
                      have := some_mem hb
                      exact bd_w (by walk_at "nums"; omega)
                  · rw [List.mem_singleton.mp h]
                    exact bd_m (by walk_at "nums"; omega)
                · obtain ⟨b, hb, h⟩ := List.mem_flatMap.mp h
                  obtain ⟨a, ha, rfl⟩ := List.mem_map.mp h
                  have := some_mem ha
                  have := ns_mem hb
                  exact bd_w (by walk_at "nums"; omega)
              · obtain ⟨b, hb, h⟩ := List.mem_flatMap.mp h
                obtain ⟨a, ha, rfl⟩ := List.mem_map.mp h
                have := some_mem ha
                have := ns_mem hb
                exact bd_w (by walk_at "nums"; omega)
            · obtain ⟨a, ha, rfl⟩ := List.mem_map.mp h
              have := ns_mem ha
              exact bd_w (by walk_at "nums"; omega)
          · rw [List.mem_singleton.mp h]
            exact bd_m (by walk_at "nums"; omega)
        · obtain ⟨b, hb, h⟩ := List.mem_flatMap.mp h
          obtain ⟨a, ha, rfl⟩ := List.mem_map.mp h
          have := ns_mem ha
          have := some_mem hb
          exact bd_w (by walk_at "nums"; omega)
      · rw [List.mem_singleton.mp h]
        exact bd_m (by walk_at "nums"; omega)
  · unfold Mach.back at h
    rcases List.mem_append.mp h with h | h
    · rcases List.mem_append.mp h with h | h
      · rcases List.mem_append.mp h with h | h
        · obtain ⟨q, a, hq, ha, h⟩ := pq h
          have hp := p_lt hq ha
          obtain ⟨_, rfl⟩ := undo_cases h
          exact bd_w (by walk_at "nums"; omega)
        · obtain ⟨q, hq, rfl⟩ := List.mem_map.mp h
          have := List.mem_range.mp hq
          exact bd_m (by walk_at "nums"; omega)
      · obtain ⟨a, ha, rfl⟩ := List.mem_map.mp h
        have := ns_mem ha
        exact bd_w (by walk_at "nums"; omega)
    · obtain ⟨q, a, hq, ha, h⟩ := pq h
      have hp := p_lt hq ha
      obtain ⟨b, d, t, _, hb, ⟨c, _, _, rfl⟩ | rfl | rfl⟩ := back_cases ok hq ha h
      · exact bd_w (by walk_at "nums"; omega)
      · exact bd_m (by walk_at "nums"; omega)
      · exact bd_w (by walk_at "nums"; omega)
theorem len_flat {α β : Type} {f : α → List β} {k : Nat} : ∀ {l : List α}, (∀ x ∈ l, (f x).length ≤ k) → (l.flatMap f).length ≤ l.length * k
  | [], _ => by simp
  | a :: l, h => by
    rw [List.flatMap_cons, List.length_append, List.length_cons, Nat.succ_mul]
    have h1 := h a List.mem_cons_self
    have h2 := len_flat (l := l) fun x hx => h x (List.mem_cons_of_mem _ hx)
    omega
theorem clean_len (ok : M.Ok) : M.clean.length ≤ 20000 := by
  have m8 := ok.m8
  have s40 := ok.s40
  have n1 : (ns M.m).length = M.m := by simp [ns]
  have n2 : (ns M.m).tail.length ≤ 8 := by rw [List.length_tail, n1]; omega
  have two : ∀ {f : Nat → Nat → List Rw}, (∀ q a, (f q a).length ≤ 10) → ((List.range M.s).flatMap fun q => (List.range M.m).flatMap fun a => f q a).length ≤ 3200 := fun {f} h => by
    have h1 : ∀ q ∈ List.range M.s, ((List.range M.m).flatMap fun a => f q a).length ≤ 80 := fun q _ => by
      have := len_flat (f := fun a => f q a) (k := 10) (l := List.range M.m) fun a _ => h q a
      rw [List.length_range] at this
      omega
    have := len_flat (k := 80) h1
    rw [List.length_range] at this
    omega
  have ff : ∀ {l1 l2 : List Int} (g : Int → Int → Rw), l1.length ≤ 8 → l2.length ≤ 8 → (l1.flatMap fun x => l2.map fun y => g x y).length ≤ 64 := fun {l1 l2} g h1 h2 => by
    have := len_flat (f := fun x => l2.map fun y => g x y) (k := 8) (l := l1) fun x _ => by rw [List.length_map]; exact h2
    omega
  unfold Mach.clean Mach.forth Mach.copying Mach.back Mach.mks Mach.some_
  simp only [List.length_append, List.length_map, List.length_singleton, n1, List.length_range]
  have k1 := two (f := M.pairRows) fun q a => by
    unfold Mach.pairRows Mach.mks
    cases M.at_ q a with
    | none => simp
    | some r => simp [n1]; omega
  have k2 := two (f := M.undoRows) fun q a => by
    unfold Mach.undoRows
    cases M.at_ q a with
    | none => simp
    | some r => simp
  have k3 := two (f := M.backRows) fun q a => by
    unfold Mach.backRows Mach.mks
    cases M.at_ q a with
    | none => simp
    | some r => simp [n1]; omega
  have j1 := ff (l1 := (ns M.m).tail) (l2 := ns M.m) (fun b x => .w (M.halt + 2) b 0 x b 0 x (M.halt + 3)) n2 (by omega)
  have j2 := ff (l1 := ns M.m) (l2 := (ns M.m).tail) (fun a b => .w (M.halt + 6) a 0 b a 0 b (M.halt + 2)) (by omega) n2
  have j3 := ff (l1 := ns M.m) (l2 := (ns M.m).tail) (fun a b => .w (M.halt + 7) a 0 b a 0 b (M.halt + 8)) (by omega) n2
  have j4 := ff (l1 := (ns M.m).tail) (l2 := ns M.m) (fun b x => .w (M.halt + 9) b 0 x b 0 x (M.halt + 7)) n2 (by omega)
  omega
end
end CM
set_option maxHeartbeats 4000000
/-! M8: the rows by their kinds (printed); tapes. -/
namespace CM
section
variable {M : Mach}
theorem c_halt  : (.m M.halt 0 1 0 (M.halt + 1) : Rw) ∈ M.clean := List.mem_append_left _ (List.mem_append_right _ (show (.m M.halt 0 1 0 (M.halt + 1) : Rw) ∈ M.copying from (List.mem_append_left _ (List.mem_append_left _ (List.mem_append_left _ (List.mem_append_left _ (List.mem_append_left _ (List.mem_append_left _ (List.mem_append_left _ (List.mem_append_left _ (List.mem_append_left _ (List.mem_append_left _ (List.mem_append_left _ (List.mem_append_left _ (List.mem_singleton.mpr rfl)))))))))))))))
theorem c_first {a : Int} (ha : a ∈ M.mks) : (.w (M.halt + 1) a 0 0 a 0 0 (M.halt + 2) : Rw) ∈ M.clean := List.mem_append_left _ (List.mem_append_right _ (show (.w (M.halt + 1) a 0 0 a 0 0 (M.halt + 2) : Rw) ∈ M.copying from (List.mem_append_left _ (List.mem_append_left _ (List.mem_append_left _ (List.mem_append_left _ (List.mem_append_left _ (List.mem_append_left _ (List.mem_append_left _ (List.mem_append_left _ (List.mem_append_left _ (List.mem_append_left _ (List.mem_append_left _ (List.mem_append_right _ (List.mem_map.mpr ⟨a, ha, rfl⟩)))))))))))))))
theorem c_look {b x : Int} (hb : b ∈ M.some_) (hx : x ∈ M.mks) : (.w (M.halt + 2) b 0 x b 0 x (M.halt + 3) : Rw) ∈ M.clean := List.mem_append_left _ (List.mem_append_right _ (show (.w (M.halt + 2) b 0 x b 0 x (M.halt + 3) : Rw) ∈ M.copying from (List.mem_append_left _ (List.mem_append_left _ (List.mem_append_left _ (List.mem_append_left _ (List.mem_append_left _ (List.mem_append_left _ (List.mem_append_left _ (List.mem_append_left _ (List.mem_append_left _ (List.mem_append_left _ (List.mem_append_right _ (List.mem_flatMap.mpr ⟨b, hb, List.mem_map.mpr ⟨x, hx, rfl⟩⟩))))))))))))))
theorem c_look0 {x : Int} (hx : x ∈ M.mks) : (.w (M.halt + 2) 0 0 x 0 0 x (M.halt + 7) : Rw) ∈ M.clean := List.mem_append_left _ (List.mem_append_right _ (show (.w (M.halt + 2) 0 0 x 0 0 x (M.halt + 7) : Rw) ∈ M.copying from (List.mem_append_left _ (List.mem_append_left _ (List.mem_append_left _ (List.mem_append_left _ (List.mem_append_left _ (List.mem_append_left _ (List.mem_append_left _ (List.mem_append_left _ (List.mem_append_left _ (List.mem_append_right _ (List.mem_map.mpr ⟨x, hx, rfl⟩)))))))))))))
theorem c_aside  : (.m (M.halt + 3) 0 0 1 (M.halt + 4) : Rw) ∈ M.clean := List.mem_append_left _ (List.mem_append_right _ (show (.m (M.halt + 3) 0 0 1 (M.halt + 4) : Rw) ∈ M.copying from (List.mem_append_left _ (List.mem_append_left _ (List.mem_append_left _ (List.mem_append_left _ (List.mem_append_left _ (List.mem_append_left _ (List.mem_append_left _ (List.mem_append_left _ (List.mem_append_right _ (List.mem_singleton.mpr rfl))))))))))))
theorem c_copy {b : Int} (hb : b ∈ M.some_) : (.w (M.halt + 4) b 0 0 b 0 b (M.halt + 5) : Rw) ∈ M.clean := List.mem_append_left _ (List.mem_append_right _ (show (.w (M.halt + 4) b 0 0 b 0 b (M.halt + 5) : Rw) ∈ M.copying from (List.mem_append_left _ (List.mem_append_left _ (List.mem_append_left _ (List.mem_append_left _ (List.mem_append_left _ (List.mem_append_left _ (List.mem_append_left _ (List.mem_append_right _ (List.mem_map.mpr ⟨b, hb, rfl⟩)))))))))))
theorem c_on  : (.m (M.halt + 5) 1 0 0 (M.halt + 6) : Rw) ∈ M.clean := List.mem_append_left _ (List.mem_append_right _ (show (.m (M.halt + 5) 1 0 0 (M.halt + 6) : Rw) ∈ M.copying from (List.mem_append_left _ (List.mem_append_left _ (List.mem_append_left _ (List.mem_append_left _ (List.mem_append_left _ (List.mem_append_left _ (List.mem_append_right _ (List.mem_singleton.mpr rfl))))))))))
theorem c_copied {a b : Int} (ha : a ∈ M.mks) (hb : b ∈ M.some_) : (.w (M.halt + 6) a 0 b a 0 b (M.halt + 2) : Rw) ∈ M.clean := List.mem_append_left _ (List.mem_append_right _ (show (.w (M.halt + 6) a 0 b a 0 b (M.halt + 2) : Rw) ∈ M.copying from (List.mem_append_left _ (List.mem_append_left _ (List.mem_append_left _ (List.mem_append_left _ (List.mem_append_left _ (List.mem_append_right _ (List.mem_flatMap.mpr ⟨a, ha, List.mem_map.mpr ⟨b, hb, rfl⟩⟩)))))))))
theorem c_turn {a b : Int} (ha : a ∈ M.mks) (hb : b ∈ M.some_) : (.w (M.halt + 7) a 0 b a 0 b (M.halt + 8) : Rw) ∈ M.clean := List.mem_append_left _ (List.mem_append_right _ (show (.w (M.halt + 7) a 0 b a 0 b (M.halt + 8) : Rw) ∈ M.copying from (List.mem_append_left _ (List.mem_append_left _ (List.mem_append_left _ (List.mem_append_left _ (List.mem_append_right _ (List.mem_flatMap.mpr ⟨a, ha, List.mem_map.mpr ⟨b, hb, rfl⟩⟩))))))))
theorem c_turn0 {a : Int} (ha : a ∈ M.mks) : (.w (M.halt + 7) a 0 0 a 0 0 (M.halt + 10) : Rw) ∈ M.clean := List.mem_append_left _ (List.mem_append_right _ (show (.w (M.halt + 7) a 0 0 a 0 0 (M.halt + 10) : Rw) ∈ M.copying from (List.mem_append_left _ (List.mem_append_left _ (List.mem_append_left _ (List.mem_append_right _ (List.mem_map.mpr ⟨a, ha, rfl⟩)))))))
theorem c_left  : (.m (M.halt + 8) (-1) 0 (-1) (M.halt + 9) : Rw) ∈ M.clean := List.mem_append_left _ (List.mem_append_right _ (show (.m (M.halt + 8) (-1) 0 (-1) (M.halt + 9) : Rw) ∈ M.copying from (List.mem_append_left _ (List.mem_append_left _ (List.mem_append_right _ (List.mem_singleton.mpr rfl))))))
theorem c_seen {b x : Int} (hb : b ∈ M.some_) (hx : x ∈ M.mks) : (.w (M.halt + 9) b 0 x b 0 x (M.halt + 7) : Rw) ∈ M.clean := List.mem_append_left _ (List.mem_append_right _ (show (.w (M.halt + 9) b 0 x b 0 x (M.halt + 7) : Rw) ∈ M.copying from (List.mem_append_left _ (List.mem_append_right _ (List.mem_flatMap.mpr ⟨b, hb, List.mem_map.mpr ⟨x, hx, rfl⟩⟩)))))
theorem c_home  : (.m (M.halt + 10) 0 (-1) 0 M.undo : Rw) ∈ M.clean := List.mem_append_left _ (List.mem_append_right _ (show (.m (M.halt + 10) 0 (-1) 0 M.undo : Rw) ∈ M.copying from (List.mem_append_right _ (List.mem_singleton.mpr rfl))))
theorem f_begin {a : Int} (ha : a ∈ M.mks) : (.w 0 a 0 0 a 0 0 (M.enter 0) : Rw) ∈ M.clean := List.mem_append_left _ (List.mem_append_left _ (show (.w 0 a 0 0 a 0 0 (M.enter 0) : Rw) ∈ M.forth from (List.mem_append_left _ (List.mem_append_left _ (List.mem_map.mpr ⟨a, ha, rfl⟩)))))
theorem f_enter {q : Nat} (hq : q < M.s) : (.m (M.enter q) 0 1 0 (M.at' q) : Rw) ∈ M.clean := List.mem_append_left _ (List.mem_append_left _ (show (.m (M.enter q) 0 1 0 (M.at' q) : Rw) ∈ M.forth from (List.mem_append_right _ (List.mem_map.mpr ⟨q, List.mem_range.mpr hq, rfl⟩))))
theorem f_stop {q a : Nat} (hq : q < M.s) (ha : a < M.m) (h : M.at_ q a = none) : (.w (M.at' q) a 0 0 a (M.p q a + 1) 0 M.halt : Rw) ∈ M.clean := List.mem_append_left _ (List.mem_append_left _ (show (.w (M.at' q) a 0 0 a (M.p q a + 1) 0 M.halt : Rw) ∈ M.forth from (List.mem_append_left _ (List.mem_append_right _ (List.mem_flatMap.mpr ⟨q, List.mem_range.mpr hq, List.mem_flatMap.mpr ⟨a, List.mem_range.mpr ha, (by unfold Mach.pairRows; rw [h]; exact List.mem_singleton.mpr rfl)⟩⟩)))))
theorem f_at {q a : Nat} {b d t : Int} (hq : q < M.s) (ha : a < M.m) (h : M.at_ q a = some (b, d, t)) : (.w (M.at' q) a 0 0 b 0 0 (M.go (M.p q a)) : Rw) ∈ M.clean := List.mem_append_left _ (List.mem_append_left _ (show (.w (M.at' q) a 0 0 b 0 0 (M.go (M.p q a)) : Rw) ∈ M.forth from (List.mem_append_left _ (List.mem_append_right _ (List.mem_flatMap.mpr ⟨q, List.mem_range.mpr hq, List.mem_flatMap.mpr ⟨a, List.mem_range.mpr ha, (by unfold Mach.pairRows; rw [h]; exact List.mem_append_left _ (.head _))⟩⟩)))))
theorem f_go {q a : Nat} {b d t : Int} (hq : q < M.s) (ha : a < M.m) (h : M.at_ q a = some (b, d, t)) : (.m (M.go (M.p q a)) d 0 0 (M.note (M.p q a)) : Rw) ∈ M.clean := List.mem_append_left _ (List.mem_append_left _ (show (.m (M.go (M.p q a)) d 0 0 (M.note (M.p q a)) : Rw) ∈ M.forth from (List.mem_append_left _ (List.mem_append_right _ (List.mem_flatMap.mpr ⟨q, List.mem_range.mpr hq, List.mem_flatMap.mpr ⟨a, List.mem_range.mpr ha, (by unfold Mach.pairRows; rw [h]; exact List.mem_append_left _ (.tail _ (.head _)))⟩⟩)))))
theorem f_note {q a : Nat} {b d t c : Int} (hq : q < M.s) (ha : a < M.m) (h : M.at_ q a = some (b, d, t)) (hc : c ∈ M.mks) : (.w (M.note (M.p q a)) c 0 0 c (M.p q a + 1) 0 (M.enter t) : Rw) ∈ M.clean := List.mem_append_left _ (List.mem_append_left _ (show (.w (M.note (M.p q a)) c 0 0 c (M.p q a + 1) 0 (M.enter t) : Rw) ∈ M.forth from (List.mem_append_left _ (List.mem_append_right _ (List.mem_flatMap.mpr ⟨q, List.mem_range.mpr hq, List.mem_flatMap.mpr ⟨a, List.mem_range.mpr ha, (by unfold Mach.pairRows; rw [h]; exact List.mem_append_right _ (List.mem_map.mpr ⟨c, hc, rfl⟩))⟩⟩)))))
theorem b_undo {q a : Nat} (hq : q < M.s) (ha : a < M.m) (h : M.at_ q a = none) : (.w M.undo a (M.p q a + 1) 0 a 0 0 (M.bat q) : Rw) ∈ M.clean := List.mem_append_right _ (show (.w M.undo a (M.p q a + 1) 0 a 0 0 (M.bat q) : Rw) ∈ M.back from (List.mem_append_left _ (List.mem_append_left _ (List.mem_append_left _ (List.mem_flatMap.mpr ⟨q, List.mem_range.mpr hq, List.mem_flatMap.mpr ⟨a, List.mem_range.mpr ha, (by unfold Mach.undoRows; rw [h]; exact List.mem_singleton.mpr rfl)⟩⟩)))))
theorem b_at {q : Nat} (hq : q < M.s) : (.m (M.bat q) 0 (-1) 0 (M.benter q) : Rw) ∈ M.clean := List.mem_append_right _ (show (.m (M.bat q) 0 (-1) 0 (M.benter q) : Rw) ∈ M.back from (List.mem_append_left _ (List.mem_append_left _ (List.mem_append_right _ (List.mem_map.mpr ⟨q, List.mem_range.mpr hq, rfl⟩)))))
theorem b_end {a : Int} (ha : a ∈ M.mks) : (.w (M.benter 0) a 0 0 a 0 0 M.end_ : Rw) ∈ M.clean := List.mem_append_right _ (show (.w (M.benter 0) a 0 0 a 0 0 M.end_ : Rw) ∈ M.back from (List.mem_append_left _ (List.mem_append_right _ (List.mem_map.mpr ⟨a, ha, rfl⟩))))
theorem b_enter {q a : Nat} {b d t c : Int} (hq : q < M.s) (ha : a < M.m) (h : M.at_ q a = some (b, d, t)) (hc : c ∈ M.mks) : (.w (M.benter t) c (M.p q a + 1) 0 c 0 0 (M.bnote (M.p q a)) : Rw) ∈ M.clean := List.mem_append_right _ (show (.w (M.benter t) c (M.p q a + 1) 0 c 0 0 (M.bnote (M.p q a)) : Rw) ∈ M.back from (List.mem_append_right _ (List.mem_flatMap.mpr ⟨q, List.mem_range.mpr hq, List.mem_flatMap.mpr ⟨a, List.mem_range.mpr ha, (by unfold Mach.backRows; rw [h]; exact List.mem_append_left _ (List.mem_map.mpr ⟨c, hc, rfl⟩))⟩⟩)))
theorem b_note {q a : Nat} {b d t : Int} (hq : q < M.s) (ha : a < M.m) (h : M.at_ q a = some (b, d, t)) : (.m (M.bnote (M.p q a)) (-d) 0 0 (M.bgo (M.p q a)) : Rw) ∈ M.clean := List.mem_append_right _ (show (.m (M.bnote (M.p q a)) (-d) 0 0 (M.bgo (M.p q a)) : Rw) ∈ M.back from (List.mem_append_right _ (List.mem_flatMap.mpr ⟨q, List.mem_range.mpr hq, List.mem_flatMap.mpr ⟨a, List.mem_range.mpr ha, (by unfold Mach.backRows; rw [h]; exact List.mem_append_right _ (.head _))⟩⟩)))
theorem b_go {q a : Nat} {b d t : Int} (hq : q < M.s) (ha : a < M.m) (h : M.at_ q a = some (b, d, t)) : (.w (M.bgo (M.p q a)) b 0 0 a 0 0 (M.bat q) : Rw) ∈ M.clean := List.mem_append_right _ (show (.w (M.bgo (M.p q a)) b 0 0 a 0 0 (M.bat q) : Rw) ∈ M.back from (List.mem_append_right _ (List.mem_flatMap.mpr ⟨q, List.mem_range.mpr hq, List.mem_flatMap.mpr ⟨a, List.mem_range.mpr ha, (by unfold Mach.backRows; rw [h]; exact List.mem_append_right _ (.tail _ (.head _)))⟩⟩)))
end
/-! tapes -/
def nz (l : List Int) : Prop := ∀ a ∈ l, a ≠ 0
theorem trim_nz : ∀ {l : List Int}, nz l → trim l = l
  | [], _ => rfl
  | a :: l, h => by
    rw [trim_cons, trim_nz (l := l) fun x hx => h x (List.mem_cons_of_mem _ hx)]
    rw [if_neg]
    exact fun z => h a List.mem_cons_self z.2
theorem trim_tail {a : Int} {l : List Int} (h : trim (a :: l) = a :: l) : trim l = l := by
  rw [trim_cons] at h
  by_cases q : trim l = [] ∧ a = 0
  · rw [if_pos q] at h
    cases h
  · rw [if_neg q] at h
    exact (List.cons.inj h).2
/-- no side ends with a blank -/
def Nm (t : Tp) : Prop := trim t.l = t.l ∧ trim t.r = t.r
theorem mv_nm {t : Tp} (h : Nm t) (d : Int) : Nm (mv t d) := by
  obtain ⟨l, m, r⟩ := t
  obtain ⟨h1, h2⟩ := h
  have tl : ∀ {l : List Int}, trim l = l → trim l.tail = l.tail := fun {l} h => by
    cases l with
    | nil => rfl
    | cons a l => exact trim_tail h
  unfold mv
  split
  · exact ⟨trim_trim _, tl h2⟩
  · split
    · exact ⟨tl h1, trim_trim _⟩
    · exact ⟨h1, h2⟩
theorem cons_back {m : Int} {l : List Int} (h : trim l = l) : (trim (m :: l)).headD 0 = m ∧ (trim (m :: l)).tail = l := by
  rw [trim_cons, h]
  by_cases q : l = [] ∧ m = 0
  · rw [if_pos q, q.1, q.2]
    exact ⟨rfl, rfl⟩
  · rw [if_neg q]
    exact ⟨rfl, rfl⟩
theorem head_tail {l : List Int} (h : trim l = l) : trim (l.headD 0 :: l.tail) = l := by
  cases l with
  | nil => rfl
  | cons a l => exact h
/-- a move, and back -/
theorem mv_back {t : Tp} (h : Nm t) {d : Int} (hd : -1 ≤ d ∧ d ≤ 1) : mv (mv t d) (-d) = t := by
  obtain ⟨l, m, r⟩ := t
  obtain ⟨h1, h2⟩ := h
  have h1 : trim l = l := h1
  have h2 : trim r = r := h2
  have c1 := cons_back (m := m) h1
  have c2 := cons_back (m := m) h2
  have c3 := head_tail h1
  have c4 := head_tail h2
  obtain rfl | rfl | rfl : d = -1 ∨ d = 0 ∨ d = 1 := by omega
  · show (⟨trim (l.headD 0 :: l.tail), (trim (m :: r)).headD 0, (trim (m :: r)).tail⟩ : Tp) = _
    rw [c3, c2.1, c2.2]
  · rfl
  · show (⟨(trim (m :: l)).tail, (trim (m :: l)).headD 0, trim (r.headD 0 :: r.tail)⟩ : Tp) = _
    rw [c4, c1.1, c1.2]
theorem mv_len {t : Tp} {n : Nat} (h : t.l.length ≤ n ∧ t.r.length ≤ n) (d : Int) : (mv t d).l.length ≤ n + 1 ∧ (mv t d).r.length ≤ n + 1 := by
  obtain ⟨l, m, r⟩ := t
  have h1 : l.length ≤ n := h.1
  have h2 : r.length ≤ n := h.2
  have t1 := trim_length (m :: l)
  have t2 := trim_length (m :: r)
  rw [List.length_cons] at t1 t2
  unfold mv
  split
  · show (trim (m :: l)).length ≤ n + 1 ∧ r.tail.length ≤ n + 1
    rw [List.length_tail]
    omega
  · split
    · show l.tail.length ≤ n + 1 ∧ (trim (m :: r)).length ≤ n + 1
      rw [List.length_tail]
      omega
    · show l.length ≤ n + 1 ∧ r.length ≤ n + 1
      omega
/-- its marks are marks of the machine -/
def InR (m : Nat) (t : Tp) : Prop := (∀ a ∈ t.l, 0 ≤ a ∧ a < m) ∧ (0 ≤ t.m ∧ t.m < m) ∧ ∀ a ∈ t.r, 0 ≤ a ∧ a < m
theorem mv_inr {n : Nat} (hn : 1 ≤ n) {t : Tp} (h : InR n t) (d : Int) : InR n (mv t d) := by
  obtain ⟨l, m, r⟩ := t
  obtain ⟨h1, h2, h3⟩ := h
  have hd : ∀ {l : List Int}, (∀ a ∈ l, 0 ≤ a ∧ a < (n : Int)) → 0 ≤ l.headD 0 ∧ l.headD 0 < n := fun {l} h => by
    cases l with
    | nil => exact ⟨Int.le_refl _, by show (0 : Int) < n; omega⟩
    | cons a l => exact h a List.mem_cons_self
  have tl : ∀ {l : List Int}, (∀ a ∈ l, 0 ≤ a ∧ a < (n : Int)) → ∀ a ∈ l.tail, 0 ≤ a ∧ a < (n : Int) := fun {l} h a ha => h a (List.mem_of_mem_tail ha)
  have cs : ∀ {l : List Int}, (∀ a ∈ l, 0 ≤ a ∧ a < (n : Int)) → ∀ a ∈ trim (m :: l), 0 ≤ a ∧ a < (n : Int) := fun {l} h a ha => by
    rcases List.mem_cons.mp (trim_mem ha) with rfl | ha
    · exact h2
    · exact h a ha
  unfold mv
  split
  · exact ⟨cs h1, hd h3, tl h3⟩
  · split
    · exact ⟨tl h1, hd h1, cs h3⟩
    · exact ⟨h1, h2, h3⟩
/-- a row, and back -/
theorem go_back {m s : Int} {rw_ : Rw} {c : Cf} (hb : rw_.bd m s) (h0 : Nm c.t0) (h1 : Nm c.t1) (h2 : Nm c.t2) (h : rw_.on c) : rw_.bw.on (rw_.go c) ∧ rw_.bw.go (rw_.go c) = c := by
  obtain ⟨st, ⟨l0, m0, r0⟩, ⟨l1, m1, r1⟩, ⟨l2, m2, r2⟩⟩ := c
  cases rw_ with
  | w s' a0 a1 a2 b0 b1 b2 n =>
    obtain ⟨e, e0, e1, e2⟩ := h
    simp only at e e0 e1 e2
    subst e e0 e1 e2
    exact ⟨⟨rfl, rfl, rfl, rfl⟩, rfl⟩
  | m s' d0 d1 d2 n =>
    obtain ⟨_, _, _, _, hd⟩ := hb
    have e : st = s' := h
    subst e
    refine ⟨rfl, ?_⟩
    show (⟨st, mv (mv _ d0) (-d0), mv (mv _ d1) (-d1), mv (mv _ d2) (-d2)⟩ : Cf) = _
    rw [mv_back h0 (hd d0 (.head _)), mv_back h1 (hd d1 (.tail _ (.head _))), mv_back h2 (hd d2 (.tail _ (.tail _ (.head _))))]
end CM
set_option maxRecDepth 100000
set_option maxHeartbeats 4000000
/-! M9: the run of the clean machine. -/
namespace BK
open PySem L2 DL CM
/-- a run of the ordinary machine that stops after T steps -/
structure Sit (M : Mach) (T : Nat) (u : Nat → Nat × Tp) : Prop where
  ok : M.Ok
  q0 : (u 0).1 = 0
  T14 : T ≤ 14
  ql : ∀ i, i ≤ T → (u i).1 < M.s
  ir : ∀ i, i ≤ T → InR M.m (u i).2
  nm : ∀ i, i ≤ T → Nm (u i).2
  len : ∀ i, i ≤ T → (u i).2.l.length ≤ 50 ∧ (u i).2.r.length ≤ 50
  nx : ∀ i, i < T → ∃ b d z, M.at_ (u i).1 (u i).2.m.toNat = some (b, d, z) ∧ z = ((u (i + 1)).1 : Int) ∧ (u (i + 1)).2 = mv ⟨(u i).2.l, b, (u i).2.r⟩ d
  fin : M.at_ (u T).1 (u T).2.m.toNat = none
section
variable {M : Mach} {T : Nat} {u : Nat → Nat × Tp}
/-- the pair at step i; the notes after i steps, the nearest first -/
def pI (M : Mach) (u : Nat → Nat × Tp) (i : Nat) : Int := M.p (u i).1 (u i).2.m.toNat
def Hs (M : Mach) (u : Nat → Nat × Tp) : Nat → List Int
  | 0 => []
  | i + 1 => (pI M u i + 1) :: Hs M u i
theorem Sit.at_ (s : Sit M T u) {i : Nat} (hi : i ≤ T) : (u i).2.m = ((u i).2.m.toNat : Int) ∧ (u i).2.m.toNat < M.m ∧ (u i).2.m ∈ M.mks := by
  have := (s.ir i hi).2.1
  exact ⟨by omega, by omega, mem_ns this.1 this.2⟩
theorem Sit.p0 (s : Sit M T u) {i : Nat} (hi : i ≤ T) : 0 ≤ pI M u i ∧ pI M u i < M.pairs := p_lt (s.ql i hi) (s.at_ hi).2.1
theorem Sit.hs (s : Sit M T u) : ∀ {i : Nat}, i ≤ T + 1 → nz (Hs M u i) ∧ (Hs M u i).length = i
  | 0, _ => ⟨fun a h => (nomatch h), rfl⟩
  | i + 1, hi => by
    obtain ⟨h1, h2⟩ := s.hs (i := i) (by omega)
    have := s.p0 (i := i) (by omega)
    refine ⟨fun a h => ?_, by show (Hs M u i).length + 1 = _; rw [h2]⟩
    rcases List.mem_cons.mp h with rfl | h
    · omega
    · exact h1 a h
/-- the second tape at and on the way into a state -/
def hA (M : Mach) (u : Nat → Nat × Tp) (i : Nat) : Tp := ⟨Hs M u i, 0, []⟩
def hE (M : Mach) (u : Nat → Nat × Tp) (i : Nat) : Tp := ⟨(Hs M u i).tail, (Hs M u i).headD 0, []⟩
theorem hE_fwd (s : Sit M T u) {i : Nat} (hi : i ≤ T + 1) : mv (hE M u i) 1 = hA M u i := by
  have h := head_tail (trim_nz (s.hs hi).1)
  show (⟨trim ((Hs M u i).headD 0 :: (Hs M u i).tail), 0, []⟩ : Tp) = _
  rw [h]
  rfl
theorem hA_bwd (i : Nat) : mv (hA M u i) (-1) = hE M u i := rfl
theorem cnt_nz {l : List Int} {m : Int} (h : nz l) : cnt ⟨l, m, []⟩ = l.length + if m = 0 then 0 else 1 := by
  unfold cnt
  rw [List.append_nil, List.filter_append, List.filter_eq_self.mpr fun a ha => decide_eq_true (h a ha), List.length_append]
  by_cases q : m = 0
  · rw [if_pos q]
    simp [q]
  · rw [if_neg q]
    simp [q]
theorem cnt_hA (s : Sit M T u) {i : Nat} (hi : i ≤ T + 1) : cnt (hA M u i) = i := by
  obtain ⟨h1, h2⟩ := s.hs hi
  unfold hA
  rw [cnt_nz h1, h2]
  rfl
theorem cnt_hE (s : Sit M T u) {i : Nat} (hi : i ≤ T + 1) : cnt (hE M u i) = i := by
  obtain ⟨h1, h2⟩ := s.hs hi
  unfold hE
  cases i with
  | zero => rfl
  | succ i =>
    have h3 := (s.hs (i := i) (by omega))
    show cnt ⟨Hs M u i, pI M u i + 1, []⟩ = i + 1
    have := s.p0 (i := i) (by omega)
    rw [cnt_nz h3.1, h3.2, if_neg (by omega)]
/-- what is read on the way: in bounds, no blanks at the ends -/
def TOk (t : Tp) : Prop := Nm t ∧ t.l.length ≤ 200 ∧ t.r.length ≤ 200
theorem tok_u (s : Sit M T u) {i : Nat} (hi : i ≤ T) : TOk (u i).2 := by
  have := s.len i hi
  exact ⟨s.nm i hi, by omega, by omega⟩
theorem tok_b (s : Sit M T u) {i : Nat} (hi : i ≤ T) (b : Int) : TOk ⟨(u i).2.l, b, (u i).2.r⟩ := by
  have := s.len i hi
  exact ⟨s.nm i hi, by show (u i).2.l.length ≤ 200; omega, by show (u i).2.r.length ≤ 200; omega⟩
theorem tok_nz {l r : List Int} {m : Int} (hl : nz l) (hr : nz r) (h1 : l.length ≤ 200) (h2 : r.length ≤ 200) : TOk ⟨l, m, r⟩ := ⟨⟨trim_nz hl, trim_nz hr⟩, h1, h2⟩
theorem tok_hA (s : Sit M T u) {i : Nat} (hi : i ≤ T + 1) : TOk (hA M u i) := by
  obtain ⟨h1, h2⟩ := s.hs hi
  have := s.T14
  exact tok_nz h1 (fun a h => (nomatch h)) (by omega) (Nat.zero_le _)
theorem tok_hE (s : Sit M T u) {i : Nat} (hi : i ≤ T + 1) : TOk (hE M u i) := by
  obtain ⟨h1, h2⟩ := s.hs hi
  have := s.T14
  exact tok_nz (fun a h => h1 a (List.mem_of_mem_tail h)) (fun a h => (nomatch h)) (by rw [List.length_tail]; omega) (Nat.zero_le _)
theorem tok_bl : TOk bl := tok_nz (fun a h => (nomatch h)) (fun a h => (nomatch h)) (Nat.zero_le _) (Nat.zero_le _)
/-- what is due at step k -/
def dueJ (u : Nat → Nat × Tp) (E j k : Nat) : PyData :=
  if k % 4 = 2 ∧ k / 4 < j then .tuple [.str "forth", upD (u (k / 4)).1 (u (k / 4)).2]
  else if k % 4 = 1 ∧ k ≤ E + 9 ∧ (E + 9 - k) / 4 < j then .tuple [.str "back", upD (u ((E + 9 - k) / 4)).1 (u ((E + 9 - k) / 4)).2] else .none
/-- a configuration on the way, at step k -/
structure Pr (M : Mach) (T n : Nat) (u : Nat → Nat × Tp) (k : Nat) (c : Cf) : Prop where
  t0 : TOk c.t0
  t1 : TOk c.t1
  t2 : TOk c.t2
  sh : shownD M c = dueJ u (8 * (T + n)) (T + 1) k
  nt : (cnt c.t1 : Int) = notesI k T (8 * (T + n) + 11 : Nat)
/-- the way to c in k steps -/
def Good (M : Mach) (T n : Nat) (u : Nat → Nat × Tp) (k : Nat) (c : Cf) : Prop := ∃ f : Nat → Cf, f 0 = ⟨0, (u 0).2, bl, bl⟩ ∧ f k = c ∧ (∀ i, i < k → ∃ rw ∈ M.clean, rw.on (f i) ∧ f (i + 1) = rw.go (f i)) ∧ ∀ i, i ≤ k → Pr M T n u i (f i)
theorem Good.next {n k k' : Nat} {c c' : Cf} (g : Good M T n u k c) {rw_ : Rw} (h1 : rw_ ∈ M.clean) (h2 : rw_.on c) (h3 : rw_.go c = c') (hk : k' = k + 1) (h4 : Pr M T n u k' c') : Good M T n u k' c' := by
  subst hk
  subst h3
  obtain ⟨f, f0, fk, fs, fp⟩ := g
  have e1 : ∀ i, i ≤ k → (fun i => if i ≤ k then f i else rw_.go c) i = f i := fun i hi => if_pos hi
  have e2 : (fun i => if i ≤ k then f i else rw_.go c) (k + 1) = rw_.go c := if_neg (by omega)
  generalize (fun i => if i ≤ k then f i else rw_.go c) = F at e1 e2
  refine ⟨F, by rw [e1 0 (Nat.zero_le _)]; exact f0, e2, fun i hi => ?_, fun i hi => ?_⟩
  · by_cases q : i < k
    · rw [e1 i (by omega), e1 (i + 1) (by omega)]
      exact fs i q
    · have : i = k := by omega
      subst this
      rw [e1 i (Nat.le_refl _), e2, fk]
      exact ⟨rw_, h1, h2, rfl⟩
  · by_cases q : i ≤ k
    · rw [e1 i q]
      exact fp i q
    · have : i = k + 1 := by omega
      subst this
      rw [e2]
      exact h4
theorem due_none {E j k : Nat} (h1 : ¬ (k % 4 = 2 ∧ k / 4 < j)) (h2 : ¬ (k % 4 = 1 ∧ k ≤ E + 9 ∧ (E + 9 - k) / 4 < j)) : dueJ u E j k = .none := by
  unfold dueJ
  rw [if_neg h1, if_neg h2]
theorem sh_none {c : Cf} (h1 : c.st < M.at' 0 ∨ M.at' M.s ≤ c.st) (h2 : c.st < M.bat 0 ∨ M.bat M.s ≤ c.st) : shownD M c = .none := by
  unfold shownD
  rw [if_neg (by omega), if_neg (by omega)]
end
end BK
set_option maxRecDepth 100000
set_option maxHeartbeats 4000000
/-! MA: forth. -/
namespace BK
open PySem L2 DL CM
local macro_rules | `(tactic| walk_at "nums") => `(tactic| (simp only [Mach.at', Mach.go, Mach.note, Mach.enter, Mach.halt, Mach.undo, Mach.end_, Mach.bat, Mach.benter, Mach.bnote, Mach.bgo] at *))
local macro_rules | `(tactic| walk_at "notes") => `(tactic| (unfold notesI; (repeat' split) <;> omega))
section
variable {M : Mach} {T n : Nat} {u : Nat → Nat × Tp}
theorem mkN {k : Nat} {c : Cf} {x : Nat} (t0 : TOk c.t0) (t1 : TOk c.t1) (t2 : TOk c.t2) (h : (c.st < M.at' 0 ∨ M.at' M.s ≤ c.st) ∧ (c.st < M.bat 0 ∨ M.bat M.s ≤ c.st)) (d : ¬ (k % 4 = 2 ∧ k / 4 < T + 1) ∧ ¬ (k % 4 = 1 ∧ k ≤ 8 * (T + n) + 9 ∧ (8 * (T + n) + 9 - k) / 4 < T + 1))
    (hc : cnt c.t1 = x) (hx : (x : Int) = notesI k T (8 * (T + n) + 11 : Nat)) : Pr M T n u k c := ⟨t0, t1, t2, by rw [sh_none h.1 h.2, due_none d.1 d.2], by rw [hc, hx]⟩
theorem good0 (s : Sit M T u) : Good M T n u 0 ⟨0, (u 0).2, bl, bl⟩ := by
  have np := pairs_nn (M := M)
  refine ⟨fun _ => ⟨0, (u 0).2, bl, bl⟩, rfl, rfl, fun i hi => absurd hi (Nat.not_lt_zero i), fun i hi => ?_⟩
  have : i = 0 := by omega
  subst this
  exact mkN (x := 0) (tok_u s (Nat.zero_le _)) tok_bl tok_bl (by show ((0 : Int) < _ ∨ _) ∧ ((0 : Int) < _ ∨ _); walk_at "nums"; omega) (by omega) rfl (by walk_at "notes")
theorem good_enter (s : Sit M T u) : ∀ {i : Nat}, i ≤ T → Good M T n u (1 + 4 * i) ⟨M.enter (u i).1, (u i).2, hE M u i, bl⟩ ∧ Good M T n u (2 + 4 * i) ⟨M.at' (u i).1, (u i).2, hA M u i, bl⟩ := fun {i} => by
  have np := pairs_nn (M := M)
  have to : ∀ {i : Nat}, i ≤ T → Good M T n u (1 + 4 * i) ⟨M.enter (u i).1, (u i).2, hE M u i, bl⟩ → Good M T n u (2 + 4 * i) ⟨M.at' (u i).1, (u i).2, hA M u i, bl⟩ := fun {i} hi g => by
    have hq := s.ql i hi
    refine g.next (f_enter hq) (show M.enter (u i).1 = _ from rfl) ?_ (by omega) ⟨tok_u s hi, tok_hA s (by omega), tok_bl, ?_, ?_⟩
    · show (⟨M.at' (u i).1, (u i).2, mv (hE M u i) 1, bl⟩ : Cf) = _
      rw [hE_fwd s (by omega)]
    · rw [shown_forth hq rfl]
      unfold dueJ
      have e : (2 + 4 * i) / 4 = i := by omega
      rw [if_pos (by omega), e]
    · rw [show cnt (hA M u i) = i from cnt_hA s (by omega)]
      walk_at "notes"
  induction i with
  | zero =>
    intro hi
    have g : Good M T n u (1 + 4 * 0) ⟨M.enter (u 0).1, (u 0).2, hE M u 0, bl⟩ := by
      refine (good0 s).next (f_begin (s.at_ hi).2.2) ⟨rfl, rfl, rfl, rfl⟩ ?_ rfl (mkN (x := 0) (tok_u s hi) (tok_hE s (by omega)) tok_bl ?_ (by omega) rfl (by walk_at "notes"))
      · rw [s.q0]
        rfl
      · rw [s.q0]
        have := s.ok.s1
        walk_at "nums"
        omega
    exact ⟨g, to hi g⟩
  | succ i ih =>
    intro hi
    obtain ⟨_, g⟩ := ih (by omega)
    have hi0 : i ≤ T := by omega
    have hq := s.ql i hi0
    have hq1 := s.ql (i + 1) hi
    obtain ⟨ha, ham, _⟩ := s.at_ hi0
    obtain ⟨b, d, z, hat, hz, ht⟩ := s.nx i (by omega)
    have hp := s.p0 hi0
    have hpd : M.p (u i).1 (u i).2.m.toNat = pI M u i := rfl
    have g1 : Good M T n u (3 + 4 * i) ⟨M.go (pI M u i), ⟨(u i).2.l, b, (u i).2.r⟩, hA M u i, bl⟩ := by
      refine g.next (f_at hq ham hat) ⟨rfl, ha, rfl, rfl⟩ rfl (by omega) (mkN (x := i) (tok_b s hi0 b) (tok_hA s (by omega)) tok_bl ?_ (by omega) (cnt_hA s (by omega)) (by walk_at "notes"))
      walk_at "nums"
      omega
    have g2 : Good M T n u (4 + 4 * i) ⟨M.note (pI M u i), (u (i + 1)).2, hA M u i, bl⟩ := by
      refine g1.next (f_go hq ham hat) rfl ?_ (by omega) (mkN (x := i) (tok_u s hi) (tok_hA s (by omega)) tok_bl ?_ (by omega) (cnt_hA s (by omega)) (by walk_at "notes"))
      · rw [ht]
        rfl
      · walk_at "nums"
        omega
    have g3 : Good M T n u (1 + 4 * (i + 1)) ⟨M.enter (u (i + 1)).1, (u (i + 1)).2, hE M u (i + 1), bl⟩ := by
      refine g2.next (f_note hq ham hat (s.at_ hi).2.2) ⟨rfl, rfl, rfl, rfl⟩ ?_ (by omega) (mkN (x := i + 1) (tok_u s hi) (tok_hE s (by omega)) tok_bl ?_ (by omega) (cnt_hE s (by omega)) (by walk_at "notes"))
      · rw [hz]
        rfl
      · walk_at "nums"
        omega
    exact ⟨g3, to hi g3⟩
/-- the last row forth, and the first of the copying -/
theorem good_look0 (s : Sit M T u) : Good M T n u (5 + 4 * T) ⟨M.halt + 2, (u T).2, hA M u (T + 1), bl⟩ := by
  have np := pairs_nn (M := M)
  obtain ⟨_, g⟩ := good_enter (n := n) s (Nat.le_refl T)
  have hq := s.ql T (Nat.le_refl _)
  obtain ⟨ha, ham, hk⟩ := s.at_ (Nat.le_refl T)
  have hp := s.p0 (Nat.le_refl T)
  have g1 : Good M T n u (3 + 4 * T) ⟨M.halt, (u T).2, hE M u (T + 1), bl⟩ := by
    refine g.next (f_stop hq ham s.fin) ⟨rfl, ha, rfl, rfl⟩ ?_ (by omega) (mkN (x := T + 1) (tok_u s (Nat.le_refl _)) (tok_hE s (by omega)) tok_bl ?_ (by omega) (cnt_hE s (by omega)) (by walk_at "notes"))
    · show (⟨M.halt, ⟨(u T).2.l, ((u T).2.m.toNat : Int), (u T).2.r⟩, _, _⟩ : Cf) = _
      rw [← ha]
      rfl
    · walk_at "nums"
      omega
  have g2 : Good M T n u (4 + 4 * T) ⟨M.halt + 1, (u T).2, hA M u (T + 1), bl⟩ := by
    refine g1.next c_halt rfl ?_ (by omega) (mkN (x := T + 1) (tok_u s (Nat.le_refl _)) (tok_hA s (by omega)) tok_bl ?_ (by omega) (cnt_hA s (by omega)) (by walk_at "notes"))
    · show (⟨M.halt + 1, (u T).2, mv (hE M u (T + 1)) 1, bl⟩ : Cf) = _
      rw [hE_fwd s (by omega)]
    · walk_at "nums"
      omega
  refine g2.next (c_first hk) ⟨rfl, rfl, rfl, rfl⟩ rfl (by omega) (mkN (x := T + 1) (tok_u s (Nat.le_refl _)) (tok_hA s (by omega)) tok_bl ?_ (by omega) (cnt_hA s (by omega)) (by walk_at "notes"))
  walk_at "nums"
  omega
end
end BK
set_option maxRecDepth 100000
set_option maxHeartbeats 4000000
/-! MB: the copying, the way back. -/
namespace BK
open PySem L2 DL CM
local macro_rules | `(tactic| walk_at "nums") => `(tactic| (simp only [Mach.at', Mach.go, Mach.note, Mach.enter, Mach.halt, Mach.undo, Mach.end_, Mach.bat, Mach.benter, Mach.bnote, Mach.bgo] at *))
local macro_rules | `(tactic| walk_at "notes") => `(tactic| (unfold notesI; (repeat' split) <;> omega))
/-! the answer -/
theorem ans_take (t : Tp) : ansOf t = (t.m :: t.r).take (ansOf t).length := by
  by_cases h : ((t.m :: t.r).any fun n => decide (n = 0)) = true
  · exact (tw_ix h).2.2.1.symm
  · have h : ((t.m :: t.r).any fun n => decide (n = 0)) = false := eq_false_of_ne_true h
    have e : ansOf t = t.m :: t.r := tw_no h
    rw [e, List.take_length]
theorem tw_nz : ∀ l : List Int, nz (tw l)
  | [] => fun a h => (nomatch h)
  | b :: l => fun a h => by
    by_cases q : b = 0
    · rw [show tw (b :: l) = [] from List.takeWhile_cons_of_neg (by simp [q])] at h
      cases h
    · rw [show tw (b :: l) = b :: tw l from List.takeWhile_cons_of_pos (by simp [q])] at h
      rcases List.mem_cons.mp h with rfl | h
      · exact q
      · exact tw_nz l a h
theorem ans_nz (t : Tp) : nz (ansOf t) := tw_nz _
theorem ans_get {t : Tp} {j : Nat} (h : j < (ansOf t).length) : (ansOf t).getD j 0 = (t.m :: t.r).getD j 0 := by
  rw [List.getD_eq_getElem?_getD, List.getD_eq_getElem?_getD]
  conv => lhs; rw [ans_take t]
  rw [List.getElem?_take_of_lt h]
theorem ans_end (t : Tp) : (t.m :: t.r).getD (ansOf t).length 0 = 0 := by
  by_cases h : ((t.m :: t.r).any fun n => decide (n = 0)) = true
  · have := (tw_ix h).1
    rw [List.getD_eq_getElem?_getD]
    show ((t.m :: t.r)[(tw (t.m :: t.r)).length]?).getD 0 = 0
    rw [this]
    rfl
  · have h : ((t.m :: t.r).any fun n => decide (n = 0)) = false := eq_false_of_ne_true h
    have e : ansOf t = t.m :: t.r := tw_no h
    rw [e, List.getD_eq_getElem?_getD, List.getElem?_eq_none (Nat.le_refl _)]
    rfl
theorem ans_len (t : Tp) : (ansOf t).length ≤ t.r.length + 1 := by
  have := congrArg List.length (ans_take t)
  rw [List.length_take, List.length_cons] at this
  omega
/-! the first tape, moved right j times -/
def Rj (t : Tp) : Nat → Tp
  | 0 => t
  | j + 1 => mv (Rj t j) 1
theorem Rj_r (t : Tp) : ∀ j, (Rj t j).r = t.r.drop j ∧ (Rj t j).m = (t.m :: t.r).getD j 0
  | 0 => ⟨by simp [Rj], rfl⟩
  | j + 1 => by
    obtain ⟨h1, h2⟩ := Rj_r t j
    have e1 : (Rj t (j + 1)).r = (Rj t j).r.tail := rfl
    have e2 : (Rj t (j + 1)).m = (Rj t j).r.headD 0 := rfl
    rw [e1, e2, h1, List.tail_drop]
    refine ⟨rfl, ?_⟩
    rw [List.getD_cons_succ, List.getD_eq_getElem?_getD, List.headD_eq_head?_getD, List.head?_drop]
theorem Rj_ok {t : Tp} {m : Nat} (hm : 1 ≤ m) (h1 : Nm t) (h2 : InR m t) (h3 : t.l.length ≤ 50 ∧ t.r.length ≤ 50) : ∀ j, Nm (Rj t j) ∧ InR m (Rj t j) ∧ (Rj t j).l.length ≤ 50 + j ∧ (Rj t j).r.length ≤ 50 + j
  | 0 => ⟨h1, h2, h3⟩
  | j + 1 => by
    obtain ⟨a, b, c⟩ := Rj_ok hm h1 h2 h3 j
    exact ⟨mv_nm a 1, mv_inr hm b 1, mv_len c 1⟩
theorem Rj_bk {t : Tp} {j : Nat} (h : Nm (Rj t j)) : mv (Rj t (j + 1)) (-1) = Rj t j := mv_back h ⟨by decide, by decide⟩
/-! the third tape -/
def cC (A : List Int) : Nat → Tp
  | 0 => bl
  | j + 1 => ⟨(A.take j).reverse, A.getD j 0, []⟩
def cD (A : List Int) (j : Nat) : Tp := ⟨(A.take j).reverse, 0, []⟩
def cE (A : List Int) : Nat → Tp
  | 0 => ⟨[], 0, A⟩
  | j + 1 => ⟨(A.take j).reverse, A.getD j 0, A.drop (j + 1)⟩
theorem getD_get {A : List Int} {j : Nat} (h : j < A.length) : A.getD j 0 = A[j] := by
  rw [List.getD_eq_getElem?_getD, List.getElem?_eq_getElem h]
  rfl
theorem take_rev {A : List Int} {j : Nat} (h : j < A.length) : (A.take (j + 1)).reverse = A.getD j 0 :: (A.take j).reverse := by
  rw [List.take_succ_eq_append_getElem h, List.reverse_append, getD_get h]
  rfl
theorem nz_rev {A : List Int} (h : nz A) (j : Nat) : nz (A.take j).reverse := fun a ha => h a (List.mem_of_mem_take (List.mem_reverse.mp ha))
theorem nz_drop {A : List Int} (h : nz A) (j : Nat) : nz (A.drop j) := fun a ha => h a (List.mem_of_mem_drop ha)
theorem cC_mv {A : List Int} (h : nz A) : ∀ {j : Nat}, j ≤ A.length → mv (cC A j) 1 = cD A j
  | 0, _ => rfl
  | j + 1, hj => by
    show (⟨trim (A.getD j 0 :: (A.take j).reverse), 0, []⟩ : Tp) = ⟨(A.take (j + 1)).reverse, 0, []⟩
    rw [← take_rev (by omega), trim_nz (nz_rev h _)]
theorem cC_E {A : List Int} : cC A A.length = cE A A.length := by
  cases A with
  | nil => rfl
  | cons a A =>
    show (⟨((a :: A).take A.length).reverse, (a :: A).getD A.length 0, []⟩ : Tp) = ⟨((a :: A).take A.length).reverse, (a :: A).getD A.length 0, (a :: A).drop (A.length + 1)⟩
    rw [List.drop_of_length_le (by simp)]
theorem cE_mv {A : List Int} (h : nz A) {j : Nat} (hj : j + 1 ≤ A.length) : mv (cE A (j + 1)) (-1) = cE A j := by
  have e : A.getD j 0 :: A.drop (j + 1) = A.drop j := by
    rw [List.drop_eq_getElem_cons (by omega : j < A.length), getD_get (by omega)]
  show (⟨(A.take j).reverse.tail, (A.take j).reverse.headD 0, trim (A.getD j 0 :: A.drop (j + 1))⟩ : Tp) = cE A j
  rw [e, trim_nz (nz_drop h j)]
  cases j with
  | zero => rfl
  | succ i =>
    rw [take_rev (by omega : i < A.length)]
    rfl
theorem tok_cC {A : List Int} (h : nz A) (hl : A.length ≤ 100) : ∀ j, TOk (cC A j)
  | 0 => tok_bl
  | j + 1 => tok_nz (nz_rev h j) (fun a h => (nomatch h)) (by rw [List.length_reverse, List.length_take]; omega) (Nat.zero_le _)
theorem tok_cD {A : List Int} (h : nz A) (hl : A.length ≤ 100) (j : Nat) : TOk (cD A j) := tok_nz (nz_rev h j) (fun a h => (nomatch h)) (by rw [List.length_reverse, List.length_take]; omega) (Nat.zero_le _)
theorem tok_cE {A : List Int} (h : nz A) (hl : A.length ≤ 100) : ∀ j, TOk (cE A j)
  | 0 => tok_nz (fun a h => (nomatch h)) h (Nat.zero_le _) (by omega)
  | j + 1 => tok_nz (nz_rev h j) (nz_drop h _) (by rw [List.length_reverse, List.length_take]; omega) (by rw [List.length_drop]; omega)
section
variable {M : Mach} {T : Nat} {u : Nat → Nat × Tp}
abbrev An (T : Nat) (u : Nat → Nat × Tp) : List Int := ansOf (u T).2
abbrev nA (T : Nat) (u : Nat → Nat × Tp) : Nat := (An T u).length
theorem Sit.n51 (s : Sit M T u) : nA T u ≤ 51 := by
  have h1 := ans_len (u T).2
  have h2 := (s.len T (Nat.le_refl _)).2
  show (ansOf (u T).2).length ≤ 51
  omega
theorem Sit.l100 (s : Sit M T u) : (ansOf (u T).2).length ≤ 100 := Nat.le_trans s.n51 (by decide)
theorem Sit.rj (s : Sit M T u) (j : Nat) : Nm (Rj (u T).2 j) ∧ InR M.m (Rj (u T).2 j) ∧ (Rj (u T).2 j).l.length ≤ 50 + j ∧ (Rj (u T).2 j).r.length ≤ 50 + j :=
  Rj_ok (by have := s.ok.m2; omega) (s.nm T (Nat.le_refl _)) (s.ir T (Nat.le_refl _)) (s.len T (Nat.le_refl _)) j
theorem Sit.tokR (s : Sit M T u) {j : Nat} (hj : j ≤ nA T u) : TOk (Rj (u T).2 j) := by
  obtain ⟨h1, _, h2, h3⟩ := s.rj j
  have := s.n51
  exact ⟨h1, by omega, by omega⟩
theorem Sit.rm (s : Sit M T u) (j : Nat) : (Rj (u T).2 j).m ∈ M.mks := by
  have := (s.rj j).2.1.2.1
  exact mem_ns this.1 this.2
theorem Sit.rA (s : Sit M T u) {j : Nat} (hj : j < nA T u) : (Rj (u T).2 j).m = (An T u).getD j 0 ∧ (Rj (u T).2 j).m ∈ M.some_ := by
  have e : (Rj (u T).2 j).m = (An T u).getD j 0 := by rw [(Rj_r _ j).2, ans_get hj]
  have := (s.rj j).2.1.2.1
  refine ⟨e, mem_some ?_ this.2⟩
  have h0 : (Rj (u T).2 j).m ≠ 0 := by
    rw [e, getD_get hj]
    exact ans_nz _ _ (List.getElem_mem hj)
  omega
theorem Sit.aS (s : Sit M T u) {j : Nat} (hj : j < nA T u) : (An T u).getD j 0 ∈ M.some_ := by
  have h := s.rA hj
  rw [← h.1]
  exact h.2
theorem some_mks {x : Int} (h : x ∈ M.some_) : x ∈ M.mks := List.mem_of_mem_tail h
theorem zero_mks (s : Sit M T u) : (0 : Int) ∈ M.mks := mem_ns (Int.le_refl _) (by have := s.ok.m2; omega)
theorem Sit.cm (s : Sit M T u) : ∀ {j : Nat}, j ≤ nA T u → (cC (An T u) j).m ∈ M.mks
  | 0, _ => zero_mks s
  | j + 1, hj => some_mks (s.aS (by omega))
theorem Sit.em (s : Sit M T u) : ∀ {j : Nat}, j ≤ nA T u → (cE (An T u) j).m ∈ M.mks
  | 0, _ => zero_mks s
  | j + 1, hj => some_mks (s.aS (by omega))
theorem good_look (s : Sit M T u) : ∀ {j : Nat}, j ≤ nA T u → Good M T (nA T u) u (5 + 4 * T + 5 * j) ⟨M.halt + 2, Rj (u T).2 j, hA M u (T + 1), cC (An T u) j⟩
  | 0, _ => good_look0 s
  | j + 1, hj => by
    have np := pairs_nn (M := M)
    have g := good_look s (j := j) (by omega)
    have hn := s.n51
    obtain ⟨hb, hbs⟩ := s.rA (j := j) (by omega)
    have tR := s.tokR (j := j) (by omega)
    have tH : TOk (hA M u (T + 1)) := tok_hA s (by omega)
    have nzA := ans_nz (u T).2
    have cH := cnt_hA s (i := T + 1) (by omega)
    have g1 : Good M T (nA T u) u (6 + 4 * T + 5 * j) ⟨M.halt + 3, Rj (u T).2 j, hA M u (T + 1), cC (An T u) j⟩ := by
      refine g.next (c_look hbs (s.cm (by omega))) ⟨rfl, rfl, rfl, rfl⟩ rfl (by omega) (mkN (x := T + 1) tR tH (tok_cC nzA s.l100 j) ?_ (by omega) cH (by walk_at "notes"))
      walk_at "nums"
      omega
    have g2 : Good M T (nA T u) u (7 + 4 * T + 5 * j) ⟨M.halt + 4, Rj (u T).2 j, hA M u (T + 1), cD (An T u) j⟩ := by
      refine g1.next c_aside rfl ?_ (by omega) (mkN (x := T + 1) tR tH (tok_cD nzA s.l100 j) ?_ (by omega) cH (by walk_at "notes"))
      · show (⟨M.halt + 4, Rj (u T).2 j, hA M u (T + 1), mv (cC (An T u) j) 1⟩ : Cf) = _
        rw [cC_mv nzA (show j ≤ nA T u by omega)]
      · walk_at "nums"
        omega
    have g3 : Good M T (nA T u) u (8 + 4 * T + 5 * j) ⟨M.halt + 5, Rj (u T).2 j, hA M u (T + 1), cC (An T u) (j + 1)⟩ := by
      refine g2.next (c_copy hbs) ⟨rfl, rfl, rfl, rfl⟩ ?_ (by omega) (mkN (x := T + 1) tR tH (tok_cC nzA s.l100 _) ?_ (by omega) cH (by walk_at "notes"))
      · show (⟨M.halt + 5, Rj (u T).2 j, hA M u (T + 1), ⟨((An T u).take j).reverse, (Rj (u T).2 j).m, []⟩⟩ : Cf) = _
        rw [hb]
        rfl
      · walk_at "nums"
        omega
    have tR1 := s.tokR (j := j + 1) (by omega)
    have g4 : Good M T (nA T u) u (9 + 4 * T + 5 * j) ⟨M.halt + 6, Rj (u T).2 (j + 1), hA M u (T + 1), cC (An T u) (j + 1)⟩ := by
      refine g3.next c_on rfl rfl (by omega) (mkN (x := T + 1) tR1 tH (tok_cC nzA s.l100 _) ?_ (by omega) cH (by walk_at "notes"))
      walk_at "nums"
      omega
    refine g4.next (c_copied (s.rm (j + 1)) (s.aS (j := j) (by omega))) ⟨rfl, rfl, rfl, rfl⟩ rfl (by omega) (mkN (x := T + 1) tR1 tH (tok_cC nzA s.l100 _) ?_ (by omega) cH (by walk_at "notes"))
    walk_at "nums"
    omega
theorem good_turn (s : Sit M T u) : ∀ {i j : Nat}, i + j = nA T u → Good M T (nA T u) u (6 + 4 * T + 5 * nA T u + 3 * i) ⟨M.halt + 7, Rj (u T).2 j, hA M u (T + 1), cE (An T u) j⟩
  | 0, j, hj => by
    have np := pairs_nn (M := M)
    have : j = nA T u := by omega
    subst this
    have g := good_look s (Nat.le_refl (nA T u))
    have hn := s.n51
    have hz : (Rj (u T).2 (nA T u)).m = 0 := by rw [(Rj_r _ _).2]; exact ans_end _
    have g1 : Good M T (nA T u) u (6 + 4 * T + 5 * nA T u + 3 * 0) ⟨M.halt + 7, Rj (u T).2 (nA T u), hA M u (T + 1), cC (An T u) (nA T u)⟩ := by
      refine g.next (c_look0 (s.cm (Nat.le_refl _))) ⟨rfl, hz, rfl, rfl⟩ ?_ (by omega) (mkN (x := T + 1) (s.tokR (Nat.le_refl _)) (tok_hA s (by omega)) (tok_cC (ans_nz _) s.l100 _) ?_ (by omega) (cnt_hA s (by omega)) (by walk_at "notes"))
      · have e : (⟨(Rj (u T).2 (nA T u)).l, 0, (Rj (u T).2 (nA T u)).r⟩ : Tp) = Rj (u T).2 (nA T u) := by
          rw [← hz]
        show (⟨M.halt + 7, ⟨(Rj (u T).2 (nA T u)).l, 0, (Rj (u T).2 (nA T u)).r⟩, hA M u (T + 1), cC (An T u) (nA T u)⟩ : Cf) = _
        rw [e]
      · walk_at "nums"
        omega
    rw [show cE (An T u) (nA T u) = cC (An T u) (nA T u) from cC_E.symm]
    exact g1
  | i + 1, j, hij => by
    have np := pairs_nn (M := M)
    have g := good_turn s (i := i) (j := j + 1) (by omega)
    have hn := s.n51
    have tR1 := s.tokR (j := j + 1) (by omega)
    have tR := s.tokR (j := j) (by omega)
    have tH : TOk (hA M u (T + 1)) := tok_hA s (by omega)
    have nzA := ans_nz (u T).2
    have cH := cnt_hA s (i := T + 1) (by omega)
    obtain ⟨hb, hbs⟩ := s.rA (j := j) (by omega)
    have g1 : Good M T (nA T u) u (7 + 4 * T + 5 * nA T u + 3 * i) ⟨M.halt + 8, Rj (u T).2 (j + 1), hA M u (T + 1), cE (An T u) (j + 1)⟩ := by
      refine g.next (c_turn (s.rm (j + 1)) (s.aS (j := j) (by omega))) ⟨rfl, rfl, rfl, rfl⟩ rfl (by omega) (mkN (x := T + 1) tR1 tH (tok_cE nzA s.l100 _) ?_ (by omega) cH (by walk_at "notes"))
      walk_at "nums"
      omega
    have g2 : Good M T (nA T u) u (8 + 4 * T + 5 * nA T u + 3 * i) ⟨M.halt + 9, Rj (u T).2 j, hA M u (T + 1), cE (An T u) j⟩ := by
      refine g1.next c_left rfl ?_ (by omega) (mkN (x := T + 1) tR tH (tok_cE nzA s.l100 _) ?_ (by omega) cH (by walk_at "notes"))
      · show (⟨M.halt + 9, mv (Rj (u T).2 (j + 1)) (-1), hA M u (T + 1), mv (cE (An T u) (j + 1)) (-1)⟩ : Cf) = _
        rw [Rj_bk (s.rj j).1, cE_mv nzA (show j + 1 ≤ nA T u by omega)]
      · walk_at "nums"
        omega
    refine g2.next (c_seen hbs (s.em (by omega))) ⟨rfl, rfl, rfl, rfl⟩ rfl (by omega) (mkN (x := T + 1) tR tH (tok_cE nzA s.l100 _) ?_ (by omega) cH (by walk_at "notes"))
    walk_at "nums"
    omega
/-- the way back to the first state -/
theorem good_back (s : Sit M T u) : ∀ {j i : Nat}, j + i = T → Good M T (nA T u) u (9 + 4 * T + 8 * nA T u + 4 * j) ⟨M.bat (u i).1, (u i).2, hA M u i, cE (An T u) 0⟩
  | 0, i, hi => by
    have np := pairs_nn (M := M)
    have : i = T := by omega
    subst this
    have g := good_turn s (i := nA i u) (j := 0) (by omega)
    have hn := s.n51
    have hq := s.ql i (Nat.le_refl _)
    obtain ⟨ha, ham, hk⟩ := s.at_ (Nat.le_refl i)
    have tU := tok_u s (Nat.le_refl i)
    have nzA := ans_nz (u i).2
    have tE := tok_cE (A := An i u) nzA s.l100 0
    have g1 : Good M i (nA i u) u (7 + 4 * i + 8 * nA i u) ⟨M.halt + 10, (u i).2, hA M u (i + 1), cE (An i u) 0⟩ := by
      refine g.next (c_turn0 (s.rm 0)) ⟨rfl, rfl, rfl, rfl⟩ rfl (by omega) (mkN (x := i + 1) tU (tok_hA s (by omega)) tE ?_ (by omega) (cnt_hA s (by omega)) (by walk_at "notes"))
      walk_at "nums"
      omega
    have g2 : Good M i (nA i u) u (8 + 4 * i + 8 * nA i u) ⟨M.undo, (u i).2, hE M u (i + 1), cE (An i u) 0⟩ := by
      refine g1.next c_home rfl rfl (by omega) (mkN (x := i + 1) tU (tok_hE s (by omega)) tE ?_ (by omega) (cnt_hE s (by omega)) (by walk_at "notes"))
      walk_at "nums"
      omega
    refine g2.next (b_undo hq ham s.fin) ⟨rfl, ha, rfl, rfl⟩ ?_ (by omega) ⟨tU, tok_hA s (by omega), tE, ?_, ?_⟩
    · show (⟨M.bat (u i).1, ⟨(u i).2.l, ((u i).2.m.toNat : Int), (u i).2.r⟩, hA M u i, _⟩ : Cf) = _
      rw [← ha]
      rfl
    · rw [shown_back s.ok hq rfl]
      unfold dueJ
      have e : (8 * (i + nA i u) + 9 - (9 + 4 * i + 8 * nA i u + 4 * 0)) / 4 = i := by omega
      rw [if_neg (by omega), e, if_pos (by omega)]
    · rw [show cnt (hA M u i) = i from cnt_hA s (by omega)]
      walk_at "notes"
  | j + 1, i, hij => by
    have np := pairs_nn (M := M)
    have g := good_back s (j := j) (i := i + 1) (by omega)
    have hn := s.n51
    have hq := s.ql i (by omega)
    have hq1 := s.ql (i + 1) (by omega)
    obtain ⟨ha, ham, hk⟩ := s.at_ (i := i) (by omega)
    obtain ⟨b, d, z, hat, hz, ht⟩ := s.nx i (by omega)
    have hrow := at_row s.ok hq ham hat
    have hp := s.p0 (i := i) (by omega)
    have hpd : M.p (u i).1 (u i).2.m.toNat = pI M u i := rfl
    have nzA := ans_nz (u T).2
    have tE := tok_cE (A := An T u) nzA s.l100 0
    have tU1 := tok_u s (i := i + 1) (by omega)
    have tU := tok_u s (i := i) (by omega)
    have g1 : Good M T (nA T u) u (10 + 4 * T + 8 * nA T u + 4 * j) ⟨M.benter (u (i + 1)).1, (u (i + 1)).2, hE M u (i + 1), cE (An T u) 0⟩ := by
      refine g.next (b_at hq1) rfl rfl (by omega) (mkN (x := i + 1) tU1 (tok_hE s (by omega)) tE ?_ (by omega) (cnt_hE s (by omega)) (by walk_at "notes"))
      walk_at "nums"
      omega
    have g2 : Good M T (nA T u) u (11 + 4 * T + 8 * nA T u + 4 * j) ⟨M.bnote (pI M u i), (u (i + 1)).2, hA M u i, cE (An T u) 0⟩ := by
      refine g1.next (b_enter hq ham hat (s.at_ (i := i + 1) (by omega)).2.2) ⟨by rw [hz], rfl, rfl, rfl⟩ rfl (by omega) (mkN (x := i) tU1 (tok_hA s (by omega)) tE ?_ (by omega) (cnt_hA s (by omega)) (by walk_at "notes"))
      walk_at "nums"
      omega
    have g3 : Good M T (nA T u) u (12 + 4 * T + 8 * nA T u + 4 * j) ⟨M.bgo (pI M u i), ⟨(u i).2.l, b, (u i).2.r⟩, hA M u i, cE (An T u) 0⟩ := by
      refine g2.next (b_note hq ham hat) rfl ?_ (by omega) (mkN (x := i) (tok_b s (by omega) b) (tok_hA s (by omega)) tE ?_ (by omega) (cnt_hA s (by omega)) (by walk_at "notes"))
      · show (⟨M.bgo (pI M u i), mv (u (i + 1)).2 (-d), hA M u i, cE (An T u) 0⟩ : Cf) = _
        rw [ht, mv_back (t := ⟨(u i).2.l, b, (u i).2.r⟩) (s.nm i (by omega)) (by omega)]
      · walk_at "nums"
        omega
    refine g3.next (b_go hq ham hat) ⟨rfl, rfl, rfl, rfl⟩ ?_ (by omega) ⟨tU, tok_hA s (by omega), tE, ?_, ?_⟩
    · show (⟨M.bat (u i).1, ⟨(u i).2.l, ((u i).2.m.toNat : Int), (u i).2.r⟩, hA M u i, _⟩ : Cf) = _
      rw [← ha]
      rfl
    · rw [shown_back s.ok hq rfl]
      unfold dueJ
      have e : (8 * (T + nA T u) + 9 - (9 + 4 * T + 8 * nA T u + 4 * (j + 1))) / 4 = i := by omega
      rw [if_neg (by omega), e, if_pos (by omega)]
    · rw [show cnt (hA M u i) = i from cnt_hA s (by omega)]
      walk_at "notes"
theorem good_end (s : Sit M T u) : Good M T (nA T u) u (8 * (T + nA T u) + 11) ⟨M.end_, (u 0).2, bl, ⟨[], 0, An T u⟩⟩ := by
  have np := pairs_nn (M := M)
  have g := good_back s (j := T) (i := 0) (by omega)
  have hn := s.n51
  have hq := s.ql 0 (by omega)
  have nzA := ans_nz (u T).2
  have tE := tok_cE (A := An T u) nzA s.l100 0
  have tU := tok_u s (i := 0) (by omega)
  have g1 : Good M T (nA T u) u (10 + 8 * T + 8 * nA T u) ⟨M.benter 0, (u 0).2, bl, cE (An T u) 0⟩ := by
    refine g.next (b_at hq) rfl ?_ (by omega) (mkN (x := 0) tU tok_bl tE ?_ (by omega) rfl (by walk_at "notes"))
    · rw [s.q0]
      rfl
    · have := s.ok.s1
      walk_at "nums"
      omega
  refine g1.next (b_end (s.at_ (i := 0) (by omega)).2.2) ⟨rfl, rfl, rfl, rfl⟩ rfl (by omega) (mkN (x := 0) tU tok_bl tE ?_ (by omega) rfl (by walk_at "notes"))
  walk_at "nums"
  omega
end
end BK
set_option maxRecDepth 100000
set_option maxHeartbeats 4000000
/-! MC: the run as the law asks for it; the ordinary run; the law's machine. -/
namespace BK
open PySem L2 DL CM
theorem on_st {r : Rw} {c : Cf} (h : r.on c) : c.st = r.st := by
  cases r with
  | w _ _ _ _ _ _ _ _ => exact h.1
  | m _ _ _ _ _ => exact h
section
variable {M : Mach} {T : Nat} {u : Nat → Nat × Tp}
abbrev stN (T : Nat) (u : Nat → Nat × Tp) : Nat := 8 * (T + nA T u) + 11
abbrev cBeg (u : Nat → Nat × Tp) : Cf := ⟨0, (u 0).2, bl, bl⟩
abbrev cEnd (M : Mach) (T : Nat) (u : Nat → Nat × Tp) : Cf := ⟨M.end_, (u 0).2, bl, ⟨[], 0, An T u⟩⟩
theorem pr_len {n k : Nat} {c : Cf} (h : Pr M T n u k c) : lenOk 80000 c := by
  obtain ⟨⟨_, a, b⟩, ⟨_, c, d⟩, ⟨_, e, f⟩, _, _⟩ := h
  exact ⟨by omega, by omega, by omega, by omega, by omega, by omega⟩
theorem end_off (ok : M.Ok) : ∀ rw ∈ M.clean, ¬ rw.on (cEnd M T u) := fun rw h ho => by
  have h1 := (dj_clean ok).2 rw h
  have h2 : M.end_ = rw.st := on_st ho
  have h3 : rw.st < M.end_ := h1.2
  omega
theorem beg_off (ok : M.Ok) : ∀ rw ∈ M.clean.map Rw.bw, ¬ rw.on (cBeg u) := fun rw h ho => by
  obtain ⟨r, hr, rfl⟩ := List.mem_map.mp h
  have h1 := (dj_cleanB ok).2 r hr
  have h2 : 0 = r.bw.st := on_st ho
  omega
/-- the run, as a path -/
structure Way (M : Mach) (T : Nat) (u : Nat → Nat × Tp) (f : Nat → Cf) : Prop where
  b : f 0 = cBeg u
  e : f (stN T u) = cEnd M T u
  st : ∀ i, i < stN T u → ∃ rw ∈ M.clean, rw.on (f i) ∧ f (i + 1) = rw.go (f i)
  pr : ∀ i, i ≤ stN T u → Pr M T (nA T u) u i (f i)
theorem way (s : Sit M T u) : ∃ f, Way M T u f := by
  obtain ⟨f, h1, h2, h3, h4⟩ := good_end s
  exact ⟨f, h1, h2, h3, h4⟩
theorem Way.run {f : Nat → Cf} (w : Way M T u f) (s : Sit M T u) {n : Nat} (hn : stN T u ≤ n) (h : n ≤ 100000) :
    R_run [.ob (TabAt M.clean), .d (cfD (cBeg u)), .d (.int n)] (.d (.tuple [cfD (cEnd M T u), .int (stN T u : Nat)])) := by
  refine ⟨M.clean, f, n, stN T u, by rw [w.b], h, hn, fun i hi => pr_len (w.pr i hi), w.st, ?_, by rw [w.e]⟩
  by_cases q : stN T u = n
  · exact .inl q
  · rw [w.e]
    exact .inr (end_off s.ok)
theorem Way.runB {f : Nat → Cf} (w : Way M T u f) (s : Sit M T u) {n : Nat} (hn : stN T u ≤ n) (h : n ≤ 100000) :
    R_run [.ob (TabAt (M.clean.map Rw.bw)), .d (cfD (cEnd M T u)), .d (.int n)] (.d (.tuple [cfD (cBeg u), .int (stN T u : Nat)])) := by
  refine ⟨M.clean.map Rw.bw, fun i => f (stN T u - i), n, stN T u, by show _ = [_, Sl.d (cfD (f (stN T u - 0))), _]; rw [Nat.sub_zero, w.e], h, hn, fun i hi => pr_len (w.pr _ (by omega)), fun i hi => ?_, ?_, by show _ = Sl.d (.tuple [cfD (f (stN T u - stN T u)), _]); rw [Nat.sub_self, w.b]⟩
  · obtain ⟨rw, h1, h2, h3⟩ := w.st (stN T u - (i + 1)) (by omega)
    have e : stN T u - (i + 1) + 1 = stN T u - i := by omega
    rw [e] at h3
    have p := w.pr (stN T u - (i + 1)) (by omega)
    have hb := clean_bd s.ok rw h1
    obtain ⟨k1, k2⟩ := go_back hb p.t0.1 p.t1.1 p.t2.1 h2
    refine ⟨rw.bw, List.mem_map.mpr ⟨rw, h1, rfl⟩, ?_, ?_⟩
    · show rw.bw.on (f (stN T u - i))
      rw [h3]
      exact k1
    · show f (stN T u - (i + 1)) = rw.bw.go (f (stN T u - i))
      rw [h3, k2]
  · by_cases q : stN T u = n
    · exact .inl q
    · show _ ∨ ∀ rw ∈ M.clean.map Rw.bw, ¬ rw.on (f (stN T u - stN T u))
      rw [Nat.sub_self, w.b]
      exact .inr (beg_off s.ok)
theorem Way.step {f : Nat → Cf} (w : Way M T u f) {i : Nat} (hi : i < stN T u) : R_taken [.ob (TabAt M.clean), .d (cfD (f i))] (.d (cfD (f (i + 1)))) := by
  obtain ⟨rw, h1, h2, h3⟩ := w.st i hi
  exact ⟨M.clean, f i, rfl, pr_len (w.pr i (by omega)), .inl ⟨rw, h1, h2, by rw [h3]⟩⟩
theorem end_taken (s : Sit M T u) : R_taken [.ob (TabAt M.clean), .d (cfD (cEnd M T u))] (.d .none) := by
  obtain ⟨f, w⟩ := way s
  have p := w.pr _ (Nat.le_refl _)
  rw [w.e] at p
  exact ⟨M.clean, _, rfl, pr_len p, .inr ⟨end_off s.ok, rfl⟩⟩
theorem beg_taken (s : Sit M T u) : R_taken [.ob (TabAt (M.clean.map Rw.bw)), .d (cfD (cBeg u))] (.d .none) := by
  obtain ⟨f, w⟩ := way s
  have p := w.pr 0 (Nat.zero_le _)
  rw [w.b] at p
  exact ⟨M.clean.map Rw.bw, _, rfl, pr_len p, .inr ⟨beg_off s.ok, rfl⟩⟩
end
/-! the ordinary run -/
def nxt (M : Mach) (x : Nat × Tp) : Nat × Tp := match M.at_ x.1 x.2.m.toNat with
  | none => x
  | some (b, d, z) => (z.toNat, mv ⟨x.2.l, b, x.2.r⟩ d)
def uS (M : Mach) (t0 : Tp) : Nat → Nat × Tp
  | 0 => (0, t0)
  | i + 1 => nxt M (uS M t0 i)
theorem uS_ok {M : Mach} {t0 : Tp} (ok : M.Ok) (h1 : InR M.m t0) (h2 : Nm t0) (h3 : t0.l.length ≤ 4 ∧ t0.r.length ≤ 4) : ∀ i, (uS M t0 i).1 < M.s ∧ InR M.m (uS M t0 i).2 ∧ Nm (uS M t0 i).2 ∧ (uS M t0 i).2.l.length ≤ 4 + i ∧ (uS M t0 i).2.r.length ≤ 4 + i
  | 0 => ⟨ok.s1, h1, h2, h3⟩
  | i + 1 => by
    obtain ⟨a, b, c, d, e⟩ := uS_ok ok h1 h2 h3 i
    have m2 := ok.m2
    show (nxt M (uS M t0 i)).1 < M.s ∧ _
    have hu : uS M t0 (i + 1) = nxt M (uS M t0 i) := rfl
    rw [hu]
    unfold nxt
    cases hr : M.at_ (uS M t0 i).1 (uS M t0 i).2.m.toNat with
    | none => exact ⟨a, b, c, by show (uS M t0 i).2.l.length ≤ _; omega, by show (uS M t0 i).2.r.length ≤ _; omega⟩
    | some r =>
      obtain ⟨w, dd, z⟩ := r
      have hb := b.2.1
      obtain ⟨r1, r2, r3, r4, r5⟩ := at_row ok a (show (uS M t0 i).2.m.toNat < M.m by omega) hr
      have hl := mv_len (t := ⟨(uS M t0 i).2.l, w, (uS M t0 i).2.r⟩) ⟨d, e⟩ dd
      exact ⟨by show z.toNat < M.s; omega, mv_inr (t := ⟨(uS M t0 i).2.l, w, (uS M t0 i).2.r⟩) (by omega) ⟨b.1, ⟨r1, r2⟩, b.2.2⟩ dd, mv_nm (t := ⟨(uS M t0 i).2.l, w, (uS M t0 i).2.r⟩) c dd, by show (mv _ dd).l.length ≤ _; omega, by show (mv _ dd).r.length ≤ _; omega⟩
theorem sit_of {M : Mach} {t0 : Tp} (ok : M.Ok) (h1 : InR M.m t0) (h2 : Nm t0) (h3 : t0.l.length ≤ 4 ∧ t0.r.length ≤ 4) {T : Nat} (hT : T ≤ 14) (hs : ∀ j, j < T → M.at_ (uS M t0 j).1 (uS M t0 j).2.m.toNat ≠ none) (hf : M.at_ (uS M t0 T).1 (uS M t0 T).2.m.toNat = none) : Sit M T (uS M t0) := by
  have U := uS_ok ok h1 h2 h3
  refine ⟨ok, rfl, hT, fun i _ => (U i).1, fun i _ => (U i).2.1, fun i _ => (U i).2.2.1, fun i hi => ?_, fun i hi => ?_, hf⟩
  · have := (U i).2.2.2
    omega
  · cases hr : M.at_ (uS M t0 i).1 (uS M t0 i).2.m.toNat with
    | none => exact absurd hr (hs i hi)
    | some r =>
      obtain ⟨b, d, z⟩ := r
      have hb := (U i).2.1.2.1
      obtain ⟨r1, r2, r3, r4, r5⟩ := at_row ok (U i).1 (show (uS M t0 i).2.m.toNat < M.m by omega) hr
      have hu : uS M t0 (i + 1) = (z.toNat, mv ⟨(uS M t0 i).2.l, b, (uS M t0 i).2.r⟩ d) := by
        show nxt M (uS M t0 i) = _
        unfold nxt
        rw [hr]
      refine ⟨b, d, z, rfl, ?_, ?_⟩
      · rw [hu]
        show z = ((z.toNat : Nat) : Int)
        omega
      · rw [hu]
/-- one step of the law's own -/
theorem step_eq {M : Mach} {t0 : Tp} (ok : M.Ok) (h1 : InR M.m t0) (h2 : Nm t0) (h3 : t0.l.length ≤ 4 ∧ t0.r.length ≤ 4) (i : Nat) :
    (M.at_ (uS M t0 i).1 (uS M t0 i).2.m.toNat = none ∧ stepM M (uS M t0 i).1 (uS M t0 i).2 = none) ∨
    (M.at_ (uS M t0 i).1 (uS M t0 i).2.m.toNat ≠ none ∧ upO (stepM M (uS M t0 i).1 (uS M t0 i).2) = upD (uS M t0 (i + 1)).1 (uS M t0 (i + 1)).2) := by
  have U := uS_ok ok h1 h2 h3 i
  unfold stepM
  cases hr : M.at_ (uS M t0 i).1 (uS M t0 i).2.m.toNat with
  | none => exact .inl ⟨rfl, rfl⟩
  | some r =>
    obtain ⟨b, d, z⟩ := r
    have hb := U.2.1.2.1
    obtain ⟨r1, r2, r3, r4, r5⟩ := at_row ok U.1 (show (uS M t0 i).2.m.toNat < M.m by omega) hr
    refine .inr ⟨(by intro q; cases q), ?_⟩
    have hu : uS M t0 (i + 1) = (z.toNat, mv ⟨(uS M t0 i).2.l, b, (uS M t0 i).2.r⟩ d) := by
      show nxt M (uS M t0 i) = _
      unfold nxt
      rw [hr]
    rw [hu]
    show upD z _ = upD ((z.toNat : Nat) : Int) _
    rw [Int.toNat_of_nonneg r4]
/-! the law's machine -/
theorem law_ok {ds : List Int} {m s : Nat} (m2 : 2 ≤ m) (m8 : m ≤ 8) (s1 : 1 ≤ s) (s40 : s ≤ 40) : Mach.Ok ⟨m, s, lawRows ds m s⟩ := by
  refine ⟨m2, m8, s1, s40, by simp [lawRows], fun b d t h => ?_⟩
  obtain ⟨k, _, hk⟩ := List.mem_map.mp h
  unfold lawRow at hk
  simp only at hk
  generalize dr ds (k % 40) + 977 * ((k / 40 : Nat) : Int) = x at hk
  by_cases q : x / 40 % 4 = 0
  · rw [if_pos q] at hk
    cases hk
  · rw [if_neg q] at hk
    injection hk with hk
    injection hk with e1 e2
    injection e2 with e2 e3
    subst e1 e2 e3
    have hm : (0 : Int) < m := by omega
    have hs : (0 : Int) < s := by omega
    refine ⟨Int.emod_nonneg _ (by omega), Int.emod_lt_of_pos _ hm, ?_, Int.emod_nonneg _ (by omega), Int.emod_lt_of_pos _ hs⟩
    by_cases q2 : x / 4 % 2 = 0
    · rw [if_pos q2]
      exact .inl rfl
    · rw [if_neg q2]
      exact .inr rfl
theorem cfT_ok {ds : List Int} {m : Nat} (hm : 1 ≤ m) : InR m (cfT ds m) ∧ Nm (cfT ds m) ∧ (cfT ds m).l.length ≤ 4 ∧ (cfT ds m).r.length ≤ 4 := by
  have h0 : (0 : Int) < m := by omega
  have rg : ∀ x : Int, 0 ≤ x % m ∧ x % m < m := fun x => ⟨Int.emod_nonneg _ (by omega), Int.emod_lt_of_pos _ h0⟩
  refine ⟨⟨fun a ha => ?_, rg _, fun a ha => ?_⟩, ⟨trim_trim _, trim_trim _⟩, ?_, ?_⟩
  · obtain ⟨k, _, rfl⟩ := List.mem_map.mp (trim_mem ha)
    exact rg _
  · obtain ⟨k, _, rfl⟩ := List.mem_map.mp (trim_mem ha)
    exact rg _
  · have : (lftL ds m).length ≤ 4 := by unfold lftL; simp; omega
    exact Nat.le_trans (trim_length _) this
  · have : (rgtL ds m).length ≤ 4 := by unfold rgtL; simp; omega
    exact Nat.le_trans (trim_length _) this
end BK
set_option maxRecDepth 100000
set_option maxHeartbeats 4000000
namespace BK
open PySem L2 DL CM
local macro_rules | `(tactic| walk_at "rd") => `(tactic| first
  | with_reducible exact rd_addI
  | with_reducible exact rd_sub
  | with_reducible exact rd_lt
  | with_reducible exact rd_le
  | with_reducible exact rd_gt
  | with_reducible exact rd_ge
  | with_reducible exact rd_eqI
  | with_reducible exact rd_neI
  | with_reducible exact rd_is
  | with_reducible exact rd_isNot
  | exact rd_mul (cmul_s (by omega) (by omega))
  | exact rd_mod (by first | decide | omega)
  | exact rd_fdv (by first | decide | omega)
  | exact rd_consI (by first | omega | (simp; omega) | simp)
  | exact rd_snocI (by first | omega | (simp; omega) | simp)
  | exact rd_catI (by first | omega | (simp; omega) | simp)
  | with_reducible exact rd_head0
  | with_reducible exact rd_ww
  | with_reducible exact rd_mm
  | with_reducible exact rd_wm
  | with_reducible exact rd_mw
  | with_reducible exact rd_nww
  | exact rd_ixT rfl
  | exact rd_ixL rfl
  | exact rd_addT (by first | decide | simp))
local macro_rules | `(tactic| walk_at "R") => `(tactic| first
  | exact ⟨_, _, _, rfl, rfl⟩
  | exact ⟨_, rfl, (by first | omega | (simp; omega) | simp), rfl⟩)
local macro_rules | `(tactic| walk_at "rc") => `(tactic| first
  | with_reducible exact rc_int
  | with_reducible exact rc_intB
  | with_reducible exact rc_lenT
  | with_reducible exact rc_lenL
  | with_reducible exact rc_abs
  | with_reducible exact rc_tupL
  | with_reducible exact rc_tupT)
local macro_rules | `(tactic| walk_at "ev") => `(tactic| first
  | with_reducible exact ev_int
  | with_reducible exact ev_non
  | with_reducible exact ev_bl
  | with_reducible exact ev_str
  | exact ev_var rfl
  | exact ev_ob rfl
  | ((with_reducible refine' ev_isi ?k1 ?k2); (case k1 => walk_at "ev"); (case k2 => first | exact kit_ii | exact kit_ib | exact kit_tt | exact kit_it))
  | ((with_reducible refine' ev_op ?k1 ?k2 ?k3); (case k1 => walk_at "ev"); (case k2 => walk_at "ev"); (case k3 => walk_at "rd"))
  | ((with_reducible refine' ev_un ?k1 ?k2); (case k1 => walk_at "ev"); (case k2 => exact ru_neg))
  | ((with_reducible refine' ev_cb ?k1 ?k2); (case k1 => walk_at "ed"); (case k2 => walk_at "rc"))
  | ((with_reducible refine' ev_tup ?k1 ?k2); (case k1 => walk_at "ed"); (case k2 => exact Nat.le_of_ble_eq_true rfl))
  | ((with_reducible refine' ev_andV ?k1 ?k2); (case k1 => walk_at "ev"); (case k2 => (intro _; walk_at "ev")))
  | ((with_reducible refine' ev_orV ?k1 ?k2); (case k1 => walk_at "ev"); (case k2 => (intro _; walk_at "ev")))
  | ((with_reducible refine' ev_notV ?k1); (case k1 => walk_at "ev"))
  | ((with_reducible refine' ev_chain ?k1 ?k2 ?k3 ?k4 ?k5); (case k1 => walk_at "ev"); (case k2 => walk_at "ev"); (case k3 => (intro _; walk_at "ev")); (case k4 => walk_at "rd"); (case k5 => walk_at "rd"))
  | ((with_reducible refine' ev_fld ?k1 ?k2); (case k1 => walk_at "ev"); (case k2 => walk_at "F"))
  | ((with_reducible refine' ev_meth ?k1 ?k2 ?k3 ?k4); (case k1 => walk_at "ev"); (case k2 => walk_at "I"); (case k3 => walk_at "ea"); (case k4 => walk_at "R"))
  | ((with_reducible refine' ev_call ?k1 ?k2); (case k1 => walk_at "ea"); (case k2 => walk_at "R"))
  | ((with_reducible refine' ev_sl1 ?k1); (case k1 => walk_at "ev"))
  | ((with_reducible refine' ev_sl ?k1 ?k2 ?k3); (case k1 => walk_at "ev"); (case k2 => walk_at "eo"); (case k3 => walk_at "eo"))
  | ((with_reducible refine' ev_ofL (el_sl ?k1 ?k2 ?k3)); (case k1 => walk_at "ev"); (case k2 => walk_at "eo"); (case k3 => walk_at "eo")))
local macro_rules | `(tactic| walk_at "eo") => `(tactic| first
  | with_reducible exact eo_none
  | ((with_reducible refine' eo_some ?k1); (case k1 => walk_at "ev")))
local macro_rules | `(tactic| walk_at "ed") => `(tactic| first
  | with_reducible exact ed_nil
  | ((with_reducible refine' ed_cons ?k1 ?k2); (case k1 => walk_at "ev"); (case k2 => walk_at "ed")))
local macro_rules | `(tactic| walk_at "ea") => `(tactic| first
  | with_reducible exact ea_nil
  | ((with_reducible refine' ea_cons ?k1 ?k2); (case k1 => walk_at "ev"); (case k2 => walk_at "ea")))
local macro_rules | `(tactic| walk_at "et") => `(tactic| first
  | ((with_reducible refine' et_test ?k1); (case k1 => walk_at "ev"))
  | ((with_reducible refine' et_B ?k1); (case k1 => walk_at "ev"))
  | ((with_reducible refine' et_not ?k1); (case k1 => walk_at "et"))
  | ((with_reducible refine' et_and ?k1 ?k2); (case k1 => walk_at "et"); (case k2 => (intro _; walk_at "et")))
  | ((with_reducible refine' et_or ?k1 ?k2); (case k1 => walk_at "et"); (case k2 => (intro _; walk_at "et"))))
local macro_rules | `(tactic| walk_at "give") => `(tactic| ((with_reducible refine' xs_give ?k1 ?_); (case k1 => walk_at "ev")))
local macro_rules | `(tactic| walk_at "ret") => `(tactic| ((with_reducible refine' xs_ret ?k1 ?_); (case k1 => walk_at "ev")))
local macro_rules | `(tactic| walk_at "tst") => `(tactic| ((with_reducible refine' et_tst ?k1 ?_); (case k1 => walk_at "ev")))
local macro_rules | `(tactic| walk_at "etto") => `(tactic| ((with_reducible refine' et_to ?k1 ?_); (case k1 => walk_at "et")))
local macro_rules | `(tactic| walk_at "evto") => `(tactic| ((with_reducible refine' ev_dto ?k1 ?_); (case k1 => walk_at "ev")))

section
variable {P : Program} {w : World} {K : PySem.W.Frag} {mg : Str → Option Value} {base : Heap}
/-! WX: the law. -/
theorem cutD_from {ds : List PyData} {n : Nat} (h : n ≤ ds.length) : cutD ds (some (n : Int)) none = ds.drop n := by
  unfold cutD
  rw [HT.sIx_none, HT.sIx_nat, Nat.min_eq_left h]
  exact List.take_of_length_le (by rw [List.length_drop]; omega)
theorem ev_neAns {δ : List Sl} {te tf : TE} {l : List Int} (h : EvX te δ (.ob (AnsAt K l))) (h2 : EvX tf δ (.d (ti l))) : EvX (tOp (rNeD K) te tf) δ (.d (.bool false)) := fun B0 H0 B H σ e Q k =>
  h _ _ _ _ _ e _ fun v B1 H1 g1 hv => h2 _ _ _ _ _ (e.grow g1) _ fun w B2 H2 g2 hw => by
    have sh := (Shp.ti l).ok (by decide)
    refine ⟨ti l, ti l, hv.2 H2 (g2.b.trans g2.sub), (hw.mono g2.sub).dp, sh, sh, ?_⟩
    rw [SeqAt.eqv_refl _ (Shp.ti l).1]
    exact k _ B2 H2 (g1.trans g2) (.bl _)
def runL (u : Nat → Nat × Tp) (k : Nat) : List PyData := (List.range k).map fun j => upD (u j).1 (u j).2
theorem runL_succ (u : Nat → Nat × Tp) (k : Nat) : runL u (k + 1) = runL u k ++ [upD (u k).1 (u k).2] := by
  unfold runL
  rw [List.range_succ, List.map_append]
  rfl
theorem runL_len (u : Nat → Nat × Tp) (k : Nat) : (runL u k).length = k := by simp [runL]
theorem runL_last (u : Nat → Nat × Tp) (k : Nat) : atI (runL u (k + 1)) (-1) = some (upD (u k).1 (u k).2) := by
  rw [runL_succ]
  exact atI_last _ _
theorem runL_at {u : Nat → Nat × Tp} {k j : Nat} (h : j < k) : atI (runL u k) (j : Int) = some (upD (u j).1 (u j).2) := by
  refine atI_nat ?_
  unfold runL
  rw [List.getElem?_map, List.getElem?_range h]
  rfl
def dueL (u : Nat → Nat × Tp) (E S j : Nat) : List PyData := (List.range S).map (dueJ u E j)
theorem dueL_len (u : Nat → Nat × Tp) (E S j : Nat) : (dueL u E S j).length = S := by simp [dueL]
theorem dueL_at {u : Nat → Nat × Tp} {E S j k : Nat} (h : k < S) : atI (dueL u E S j) (k : Int) = some (dueJ u E j k) := by
  refine atI_nat ?_
  unfold dueL
  rw [List.getElem?_map, List.getElem?_range h]
  rfl
theorem dueL_zero (u : Nat → Nat × Tp) (E S : Nat) : (List.replicate S [PyData.none]).flatten = dueL u E S 0 := by
  have e : ∀ n, (List.replicate n [PyData.none]).flatten = List.replicate n PyData.none := fun n => by
    induction n with
    | zero => rfl
    | succ n ih => rw [List.replicate_succ, List.flatten_cons, ih]; rfl
  rw [e]
  symm
  rw [List.eq_replicate_iff]
  refine ⟨dueL_len u E S 0, fun d hd => ?_⟩
  obtain ⟨k, _, rfl⟩ := List.mem_map.mp hd
  exact due_none (by omega) (by omega)
theorem dueL_step {u : Nat → Nat × Tp} {T n j : Nat} (hj : j ≤ T) : ((dueL u (8 * (T + n)) (8 * (T + n) + 12) j).set (2 + 4 * j) (.tuple [.str "forth", upD (u j).1 (u j).2])).set (8 * (T + n) + 9 - 4 * j) (.tuple [.str "back", upD (u j).1 (u j).2]) = dueL u (8 * (T + n)) (8 * (T + n) + 12) (j + 1) := by
  apply List.ext_getElem?
  intro k
  by_cases hk : k < 8 * (T + n) + 12
  · have r1 : (dueL u (8 * (T + n)) (8 * (T + n) + 12) (j + 1))[k]? = some (dueJ u (8 * (T + n)) (j + 1) k) := by
      unfold dueL
      rw [List.getElem?_map, List.getElem?_range hk]
      rfl
    have r0 : (dueL u (8 * (T + n)) (8 * (T + n) + 12) j)[k]? = some (dueJ u (8 * (T + n)) j k) := by
      unfold dueL
      rw [List.getElem?_map, List.getElem?_range hk]
      rfl
    rw [r1]
    by_cases q2 : k = 8 * (T + n) + 9 - 4 * j
    · subst q2
      rw [List.getElem?_set_self (by rw [List.length_set, dueL_len]; exact hk)]
      unfold dueJ
      have e : (8 * (T + n) + 9 - (8 * (T + n) + 9 - 4 * j)) / 4 = j := by omega
      rw [if_neg (by omega), e, if_pos (by omega)]
    · rw [List.getElem?_set_ne (fun z => q2 z.symm)]
      by_cases q1 : k = 2 + 4 * j
      · subst q1
        rw [List.getElem?_set_self (by rw [dueL_len]; exact hk)]
        unfold dueJ
        have e : (2 + 4 * j) / 4 = j := by omega
        rw [if_pos (by omega), e]
      · rw [List.getElem?_set_ne (fun z => q1 z.symm), r0]
        unfold dueJ
        have c1 : (k % 4 = 2 ∧ k / 4 < j + 1) ↔ (k % 4 = 2 ∧ k / 4 < j) := by omega
        have c2 : (k % 4 = 1 ∧ k ≤ 8 * (T + n) + 9 ∧ (8 * (T + n) + 9 - k) / 4 < j + 1) ↔ (k % 4 = 1 ∧ k ≤ 8 * (T + n) + 9 ∧ (8 * (T + n) + 9 - k) / 4 < j) := by omega
        simp only [c1, c2]
  · rw [List.getElem?_eq_none (by rw [List.length_set, List.length_set, dueL_len]; omega), List.getElem?_eq_none (by rw [dueL_len]; omega)]
def R_law (K : PySem.W.Frag) (as : List Sl) (r : Sl) : Prop := ∃ (ns : List Int), as = [.ob (ScrAt K ns)] ∧ r = .d (.bool true)
theorem R_law_len (K : PySem.W.Frag) (as : List Sl) (r : Sl) (h : R_law K as r) : as.length = 1 := by obtain ⟨_, rfl, _⟩ := h; rfl
theorem ixN_of {n j : Nat} {z : Int} (h : z = (j : Int)) (hj : j < n) : ixN n z = some j := by
  rw [h]
  exact Evl.ixN_nat hj
theorem ok_law (T : Txt K mg) : FnOk P w K mg base CX0 7 T.law.f T.law.fd P_law (spR (R_law K)) := by
  refine T.law.F.ok sc_law (fun vs H Q E h => ?_) (fun cdv A outer s H vs Q E hr h => ?_)
  · exact spR_len (R_law_len K) h
  · refine ⟨_, (pss_cons (ps_set (i := 1) sc_law.nd rfl (Or.inl rfl) (pe_call (ok_law_draws T) (hr.mono (by decide)) (by rfl) T.law_draws.g T.law_draws.F.kp T.law_draws.b .nil pass0 (pa_cons (pv 0) (pa_cons pe_int pa_nil))))
    (pss_cons (ps_par (i := 13) (j := 14) (by rfl) sc_law.nd rfl rfl (by decide) rfl rfl (pa_cons (pe_op (k_add (K := K) rfl) pe_int (pe_op (op_mod') (pe_callTy (call_intG) (by rfl) T.b_int (by decide +kernel) (pa_cons (pe_ix (k_ix (K := K) rfl) (pv 1) pe_int (fun _ _ => rfl)) pa_nil)) pe_int)) (pa_cons (pe_op (k_add (K := K) rfl) pe_int (pe_op (op_mod') (pe_callTy (call_intG) (by rfl) T.b_int (by decide +kernel) (pa_cons (pe_ix (k_ix (K := K) rfl) (pv 1) pe_int (fun _ _ => rfl)) pa_nil)) pe_int)) pa_nil)) (by rfl))
    (pss_cons (ps_if (pt_cmpR (k_eq (K := K) rfl hr.units) (pe_op (op_mod') (pe_callTy (call_intG) (by rfl) T.b_int (by decide +kernel) (pa_cons (pe_ix (k_ix (K := K) rfl) (pv 1) pe_int (fun _ _ => rfl)) pa_nil)) pe_int) pe_int (nomark _)) (pss_one (ps_par (i := 13) (j := 14) (by rfl) sc_law.nd rfl rfl (by decide) rfl rfl (pa_cons pe_int (pa_cons (pe_op (k_add (K := K) rfl) pe_int (pe_op (op_mod') (pe_callTy (call_intG) (by rfl) T.b_int (by decide +kernel) (pa_cons (pe_ix (k_ix (K := K) rfl) (pv 1) pe_int (fun _ _ => rfl)) pa_nil)) pe_int)) pa_nil)) (by rfl))) pss_nil)
    (pss_cons (ps_set (i := 2) sc_law.nd rfl (Or.inl rfl) (pe_call (ok_law_machine T) (hr.mono (by decide)) (by rfl) T.law_machine.g T.law_machine.F.kp T.law_machine.b .nil pass0 (pa_cons (pv 1) (pa_cons (pv 13) (pa_cons (pv 14) pa_nil)))))
    (pss_cons (ps_set (i := 3) sc_law.nd rfl (Or.inl rfl) (pe_make T.Tape_init.m (ok_Tape_init T) (hr.mono (by decide)) (by rfl) T.g_Tape T.Tape_init.b .nil pass0 (pa_cons (pv 13) (pa_cons (pv 14) (pa_cons (pe_callTy (k_lst (K := K) rfl) (by rfl) T.b_list (by decide +kernel) (pa_cons (pv 2) pa_nil)) pa_nil)))))
    (pss_cons (ps_if (pt_not (pt_val (pe_call (ok_law_off_the_run T) (hr.mono (by decide)) (by rfl) T.law_off_the_run.g T.law_off_the_run.F.kp T.law_off_the_run.b .nil pass0 (pa_cons (pv 3) (pa_cons (pe_slice (k_sl (K := K) rfl) (pv 1) (po_some pe_int) po_none) (pa_cons (pv 13) (pa_cons (pv 14) pa_nil))))))) (pss_one (ps_ret pe_bl)) pss_nil)
    (pss_cons (ps_set (i := 4) sc_law.nd rfl (Or.inl rfl) (pe_op (k_add (K := K) rfl) (pe_tup (pa_cons pe_int pa_nil)) (pe_slice (k_sl (K := K) rfl) (pe_call (ok_law_configuration T) (hr.mono (by decide)) (by rfl) T.law_configuration.g T.law_configuration.F.kp T.law_configuration.b .nil pass0 (pa_cons (pe_slice (k_sl (K := K) rfl) (pv 1) (po_some pe_int) po_none) (pa_cons (pv 13) (pa_cons (pv 14) (pa_cons pe_int pa_nil))))) (po_some pe_int) po_none)))
    (pss_cons (ps_set (i := 5) sc_law.nd rfl (Or.inl rfl) (pe_lst (pa_cons (pv 4) pa_nil)))
    (pss_cons (ps_for PassesOwn.never rfl (pi_range1 rfl T.b_range (pa_cons pe_int pa_nil)) (pg_name (i := 6) sc_law.nd rfl (Or.inl rfl)) (pss_cons (ps_set (i := 15) sc_law.nd rfl (Or.inl rfl) (pe_call (ok_law_step T) (hr.mono (by decide)) (by rfl) T.law_step.g T.law_step.F.kp T.law_step.b .nil pass0 (pa_cons (pv 2) (pa_cons (pv 13) (pa_cons (pe_ix (k_ix (K := K) rfl) (pv 5) (pe_un un_negG pe_int) (fun _ _ => rfl)) pa_nil)))))
      (pss_one (ps_if (pt_cmpR (op_isNotG) (pv 15) pe_non (nomark _)) (pss_one (ps_expr (k_app (K := K) rfl (pv 5) (pa_cons (pv 15) pa_nil)))) pss_nil))))
    (pss_cons (ps_if (pt_cmpR (op_gt') (pe_callB (k_len (K := K) rfl) (by rfl) T.b_len (by decide +kernel) (pa_cons (pv 5) pa_nil)) pe_int (nomark _)) (pss_one (ps_ret pe_bl)) pss_nil)
    (pss_cons (ps_set (i := 7) sc_law.nd rfl (Or.inl rfl) (pe_call (ok_law_answer T) (hr.mono (by decide)) (by rfl) T.law_answer.g T.law_answer.F.kp T.law_answer.b .nil pass0 (pa_cons (pe_ix (k_ix (K := K) rfl) (pv 5) (pe_un un_negG pe_int) (fun _ _ => rfl)) pa_nil)))
    (pss_cons (ps_par (i := 16) (j := 17) (by rfl) sc_law.nd rfl rfl (by decide) rfl rfl (pa_cons (pe_op (op_subG) (pe_callB (k_len (K := K) rfl) (by rfl) T.b_len (by decide +kernel) (pa_cons (pv 5) pa_nil)) pe_int) (pa_cons (pe_callB (k_len (K := K) rfl) (by rfl) T.b_len (by decide +kernel) (pa_cons (pv 7) pa_nil)) pa_nil)) (by rfl))
    (pss_cons (ps_set (i := 8) sc_law.nd rfl (Or.inl rfl) (pe_call (ok_clean T) (hr.mono (by decide)) (by rfl) T.clean.g T.clean.F.kp T.clean.b .nil pass0 (pa_cons (pv 3) pa_nil)))
    (pss_cons (ps_par (i := 18) (j := 19) (by rfl) sc_law.nd rfl rfl (by decide) rfl rfl (pa_cons (pe_call (ok_clean_begin T) (hr.mono (by decide)) (by rfl) T.clean_begin.g T.clean_begin.F.kp T.clean_begin.b .nil pass0 (pa_cons (pv 4) pa_nil)) (pa_cons (pe_call (ok_clean_end T) (hr.mono (by decide)) (by rfl) T.clean_end.g T.clean_end.F.kp T.clean_end.b .nil pass0 (pa_cons (pv 3) (pa_cons (pv 4) (pa_cons (pv 7) pa_nil)))) pa_nil)) (by rfl))
    (pss_cons (ps_set (i := 9) sc_law.nd rfl (Or.inl rfl) (pe_op (k_add (K := K) rfl) (pe_op (op_mulG) pe_int (pe_op (k_add (K := K) rfl) (pv 16) (pv 17))) pe_int))
    (pss_cons (ps_set (i := 10) sc_law.nd rfl (Or.inl rfl) (pe_op (op_mulG) (pe_lst (pa_cons pe_non pa_nil)) (pe_op (k_add (K := K) rfl) (pv 9) pe_int)))
    (pss_cons (ps_for PassesOwn.never rfl (pi_range1 rfl T.b_range (pa_cons (pe_op (k_add (K := K) rfl) (pv 16) pe_int) pa_nil)) (pg_name (i := 11) sc_law.nd rfl (Or.inl rfl)) (pss_cons (ps_asg (pe_tup (pa_cons pe_str (pa_cons (pe_ix (k_ix (K := K) rfl) (pv 5) (pv 11) (fun _ _ => rfl)) pa_nil))) (pg_sub (pv 10) (pe_op (k_add (K := K) rfl) pe_int (pe_op (op_mulG) pe_int (pv 11))) set_list))
      (pss_one (ps_asg (pe_tup (pa_cons pe_str (pa_cons (pe_ix (k_ix (K := K) rfl) (pv 5) (pv 11) (fun _ _ => rfl)) pa_nil))) (pg_sub (pv 10) (pe_op (op_subG) (pe_op (k_add (K := K) rfl) (pe_op (op_mulG) pe_int (pe_op (k_add (K := K) rfl) (pv 16) (pv 17))) pe_int) (pe_op (op_mulG) pe_int (pv 11))) set_list)))))
    (pss_cons (ps_set (i := 12) sc_law.nd rfl (Or.inl rfl) (pv 18))
    (pss_cons (ps_for PassesOwn.never rfl (pi_range1 rfl T.b_range (pa_cons (pv 9) pa_nil)) (pg_name (i := 6) sc_law.nd rfl (Or.inl rfl)) (pss_cons (ps_set (i := 20) sc_law.nd rfl (Or.inl rfl) (pe_call (ok_lent T) (hr.mono (by decide)) (by rfl) T.lent.g T.lent.F.kp T.lent.b .nil pass0 (pa_cons (pv 12) pa_nil)))
      (pss_cons (ps_if (PW.pt (pw_or (pt_cmpR (k_ne (K := K) rfl hr.units) (pe_call (ok_shown T) (hr.mono (by decide)) (by rfl) T.shown.g T.shown.F.kp T.shown.b .nil pass0 (pa_cons (pv 3) (pa_cons (pv 12) pa_nil))) (pe_ix (k_ix (K := K) rfl) (pv 10) (pv 6) (fun _ _ => rfl)) (nomark _)) (pw_or (pt_val (pe_callB (k_isi (K := K) rfl) (by rfl) T.b_isinstance (by decide +kernel) (pa_cons (pv 20) (pa_cons (pe_bltn (v := .ty "bool") (by rfl) T.b_bool (by decide +kernel) rfl) pa_nil)))) (pw_or1 (pt_cmpR (k_ne (K := K) rfl hr.units) (pv 20) (pe_call (ok_law_notes T) (hr.mono (by decide)) (by rfl) T.law_notes.g T.law_notes.F.kp T.law_notes.b .nil pass0 (pa_cons (pv 6) (pa_cons (pv 16) (pa_cons (pv 9) pa_nil)))) (nomark _)))))) (pss_one (ps_ret pe_bl)) pss_nil)
      (pss_cons (ps_set (i := 12) sc_law.nd rfl (Or.inl rfl) (pe_meth (pv 8) T.cl_Several T.Several_step.m (ok_Several_step T) (hr.mono (by decide)) T.Several_step.b .nil pass0 (pa_cons (pv 12) pa_nil)))
      (pss_one (ps_if (pt_cmpR (op_isG) (pv 12) pe_non (nomark _)) (pss_one (ps_ret pe_bl)) pss_nil))))))
    (pss_cons (ps_if (PW.pt (pw_or (pt_cmpR (k_ne (K := K) rfl hr.units) (pv 12) (pv 19) (nomark _)) (pw_or (pt_cmpR (op_isNotG) (pe_meth (pv 8) T.cl_Several T.Several_stopped.m (ok_Several_stopped T) (hr.mono (by decide)) T.Several_stopped.b .nil pass0 (pa_cons (pv 12) pa_nil)) pe_bl (nomark _)) (pw_or (pt_cmpR (op_isNotG) (pe_call (ok_shown T) (hr.mono (by decide)) (by rfl) T.shown.g T.shown.F.kp T.shown.b .nil pass0 (pa_cons (pv 3) (pa_cons (pv 12) pa_nil))) pe_non (nomark _)) (pw_or1 (pt_cmpR (k_ne (K := K) rfl hr.units) (pe_call (ok_lent T) (hr.mono (by decide)) (by rfl) T.lent.g T.lent.F.kp T.lent.b .nil pass0 (pa_cons (pv 12) pa_nil)) pe_int (nomark _))))))) (pss_one (ps_ret pe_bl)) pss_nil)
    (pss_cons (ps_if (PW.pt (pw_or (pt_cmpR (k_ne (K := K) rfl hr.units) (pe_call (ok_answer_of T) (hr.mono (by decide)) (by rfl) T.answer_of.g T.answer_of.F.kp T.answer_of.b .nil pass0 (pa_cons (pe_ix (k_ix (K := K) rfl) (pv 5) (pe_un un_negG pe_int) (fun _ _ => rfl)) pa_nil)) (pv 7) (nomark _)) (pw_or (pt_cmpR (k_ne (K := K) rfl hr.units) (pe_meth (pv 8) T.cl_Several T.Several_run.m (ok_Several_run T) (hr.mono (by decide)) T.Several_run.b .nil pass0 (pa_cons (pv 18) (pa_cons (pv 9) pa_nil))) (pe_tup (pa_cons (pv 19) (pa_cons (pv 9) pa_nil))) (nomark _)) (pw_or1 (pt_cmpR (k_ne (K := K) rfl hr.units) (pe_meth (pv 8) T.cl_Several T.Several_run.m (ok_Several_run T) (hr.mono (by decide)) T.Several_run.b .nil pass0 (pa_cons (pv 18) (pa_cons (pe_op (k_add (K := K) rfl) (pv 9) pe_int) pa_nil))) (pe_tup (pa_cons (pv 19) (pa_cons (pv 9) pa_nil))) (nomark _)))))) (pss_one (ps_ret pe_bl)) pss_nil)
    (pss_cons (ps_if (PW.pt (pw_or (pt_cmpR (k_ne (K := K) rfl hr.units) (pe_meth (pv 8) T.cl_Several T.Several_run_back.m (ok_Several_run_back T) (hr.mono (by decide)) T.Several_run_back.b .nil pass0 (pa_cons (pv 19) (pa_cons (pv 9) pa_nil))) (pe_tup (pa_cons (pv 18) (pa_cons (pv 9) pa_nil))) (nomark _)) (pw_or1 (pt_cmpR (k_ne (K := K) rfl hr.units) (pe_meth (pv 8) T.cl_Several T.Several_run_back.m (ok_Several_run_back T) (hr.mono (by decide)) T.Several_run_back.b .nil pass0 (pa_cons (pv 19) (pa_cons (pe_op (k_add (K := K) rfl) (pv 9) pe_int) pa_nil))) (pe_tup (pa_cons (pv 18) (pa_cons (pv 9) pa_nil))) (nomark _))))) (pss_one (ps_ret pe_bl)) pss_nil)
    (pss_one (ps_ret (pe_and (pe_cmpR (op_isG) (pe_meth (pv 8) T.cl_Several T.Several_back.m (ok_Several_back T) (hr.mono (by decide)) T.Several_back.b .nil pass0 (pa_cons (pv 18) pa_nil)) pe_non (nomark _)) (pe_one (pe_cmpR (k_eq (K := K) rfl hr.units) (pe_meth0 (pv 3) T.cl_Tape T.Tape_table.m (ok_Tape_table T) (hr.mono (by decide)) T.Tape_table.b .nil pass0) (pv 2) (nomark _)))))))))))))))))))))))))))), ?_⟩
    refine spR_run h (fun as r hR => ?_)
    obtain ⟨ns, rfl, rfl⟩ := hR
    refine xs_give (ev_call (ea_cons (ev_ob rfl) (ea_cons ev_int ea_nil)) ⟨ns, rfl, rfl⟩) ?_
    refine xs_open (i := 1) rfl fun d ⟨ds, hl, h0, hd⟩ => ?_
    subst hd
    refine xs_seq (xs_par (ea_cons (ev_op ev_int (ev_op (ev_cb (ed_cons (ev_op (ev_var rfl) ev_int (rd_ixL (dr_at (i := 40) (by omega) rfl))) ed_nil) rc_int) ev_int (rd_mod (by decide))) rd_addI) (ea_cons (ev_op ev_int (ev_op (ev_cb (ed_cons (ev_op (ev_var rfl) ev_int (rd_ixL (dr_at (i := 41) (by omega) rfl))) ed_nil) rc_int) ev_int (rd_mod (by decide))) rd_addI) ea_nil)) ?_)
    refine xs_mid (fun δ' => ∃ m s : Nat, 2 ≤ m ∧ m ≤ 8 ∧ 1 ≤ s ∧ s ≤ 40 ∧ δ' = [.ob (ScrAt K ns), .d (li ds), .no, .no, .no, .no, .no, .no, .no, .no, .no, .no, .no, .d (.int m), .d (.int s), .no, .no, .no, .no, .no, .no])
      (xs_if (et_test (ev_op (ev_op (ev_cb (ed_cons (ev_op (ev_var rfl) ev_int (rd_ixL (dr_at (i := 42) (by omega) rfl))) ed_nil) rc_int) ev_int (rd_mod (by decide))) ev_int rd_eqI)) (fun _ => xs_par (ea_cons ev_int (ea_cons (ev_op ev_int (ev_op (ev_cb (ed_cons (ev_op (ev_var rfl) ev_int (rd_ixL (dr_at (i := 41) (by omega) rfl))) ed_nil) rc_int) ev_int (rd_mod (by decide))) rd_addI) ea_nil)) ?_) (fun _ => xs_next ?_)) ?_
    · obtain ⟨s, hs⟩ : ∃ s : Nat, 33 + dr ds 41 % 8 = (s : Int) := ⟨_, (Int.toNat_of_nonneg (by omega)).symm⟩
      refine ⟨8, s, by decide, by decide, by omega, by omega, ?_⟩
      rw [hs]
      rfl
    · obtain ⟨m, hm⟩ : ∃ s : Nat, 2 + dr ds 40 % 3 = (s : Int) := ⟨_, (Int.toNat_of_nonneg (by omega)).symm⟩
      obtain ⟨s, hs⟩ : ∃ s : Nat, 1 + dr ds 41 % 4 = (s : Int) := ⟨_, (Int.toNat_of_nonneg (by omega)).symm⟩
      refine ⟨m, s, by omega, by omega, by omega, by omega, ?_⟩
      rw [hs, hm]
      rfl
    rintro _ ⟨m, s', m2, m8, s1, s40, rfl⟩
    have ok := law_ok (ds := ds) m2 m8 s1 s40
    have lm : (ds.map PyData.int).length = 70 := by rw [List.length_map]; exact hl
    have ct : ∀ n : Nat, n ≤ 70 → cutD (ds.map PyData.int) (some (n : Int)) none = (ds.drop n).map PyData.int := fun n hn => by rw [cutD_from (by omega), List.map_drop]
    refine xs_give (ev_call (ea_cons (ev_var rfl) (ea_cons (ev_var rfl) (ea_cons (ev_var rfl) ea_nil))) ⟨ds, m, s', rfl, by omega, by omega, m8, s1, s40, rfl⟩) ?_
    generalize hM : (⟨m, s', lawRows ds m s'⟩ : Mach) = M at ok
    have em : M.m = m := by rw [← hM]
    have es : M.s = s' := by rw [← hM]
    have er : lawRows ds m s' = M.rows := by rw [← hM]
    rw [er, ← em, ← es]
    rw [← em] at m2 m8
    rw [← es] at s1 s40
    refine xs_give (ev_make (ea_cons (ev_var rfl) (ea_cons (ev_var rfl) (ea_cons (ev_ofL (el_cb (ed_cons (ev_var rfl) ed_nil) rcl_lst)) ea_nil))) ⟨M, ok, rfl, rfl⟩ InsAt.mono) ?_
    refine xs_skip (et_not' (et_tsB (ev_call (ea_cons (ev_ob rfl) (ea_cons (ev_dto (ev_ofL (el_sl (ev_var rfl) (eo_some (ev_int (i := 43))) eo_none)) (b := li (ds.drop 43)) (congrArg PyData.list (ct 43 (by decide)))) (ea_cons (ev_var rfl) (ea_cons (ev_var rfl) ea_nil)))) ⟨M, ds.drop 43, ok, rfl, by rw [List.length_drop]; omega, rfl⟩) (b := true) rfl) rfl) ?_
    have ht0 := cfT_ok (ds := ds.drop 20) (m := M.m) (by omega)
    refine xs_give (r := .d (upD 0 (cfT (ds.drop 20) M.m))) (ev_op (ev_tup (ed_cons ev_int ed_nil) (Nat.le_of_ble_eq_true rfl)) (ev_dto (ev_sl (ev_call (ea_cons (ev_dto (ev_ofL (el_sl (ev_var rfl) (eo_some (ev_int (i := 20))) eo_none)) (b := li (ds.drop 20)) (congrArg PyData.list (ct 20 (by decide)))) (ea_cons (ev_var rfl) (ea_cons (ev_var rfl) (ea_cons ev_int ea_nil)))) ⟨ds.drop 20, M.m, M.s, rfl, by rw [List.length_drop]; omega, by omega, by omega, rfl⟩) (eo_some ev_int) eo_none) (b := .tuple [ti (cfT (ds.drop 20) M.m).l, .int (cfT (ds.drop 20) M.m).m, ti (cfT (ds.drop 20) M.m).r]) rfl) (rd_addT (Nat.le_of_ble_eq_true rfl))) ?_
    obtain ⟨t0, et0⟩ : ∃ t0, cfT (ds.drop 20) M.m = t0 := ⟨_, rfl⟩
    rw [et0] at ht0 ⊢
    obtain ⟨ir0, nm0, ln0⟩ := ht0
    have U := uS_ok ok ir0 nm0 ln0
    have SE := step_eq ok ir0 nm0 ln0
    have SO := @sit_of M t0 ok ir0 nm0 ln0
    obtain ⟨u, hu⟩ : ∃ u, uS M t0 = u := ⟨_, rfl⟩
    have u0 : u 0 = (0, t0) := by rw [← hu]; rfl
    rw [hu] at U SE SO
    refine xs_giveL (el_lst (ed_cons (ev_var rfl) ed_nil) (Nat.le_of_ble_eq_true rfl)) ?_
    have el : [upD 0 t0] = runL u (0 + 1) := by
      unfold runL
      show [upD 0 t0] = [upD (u 0).1 (u 0).2]
      rw [u0]
      rfl
    rw [el]
    have ir : ∀ j, (u j).1 < M.s ∧ (u j).2.m.toNat < M.m ∧ (u j).2.m = ((u j).2.m.toNat : Int) := fun j => by
      have := (U j).2.1.2.1
      exact ⟨(U j).1, by omega, by omega⟩
    refine xs_mid (fun δ' => ∃ (k : Nat) (a b : Sl), k ≤ 15 ∧ (∀ j, j < k → M.at_ (u j).1 (u j).2.m.toNat ≠ none) ∧ (k = 15 ∨ M.at_ (u k).1 (u k).2.m.toNat = none) ∧
        δ' = [.ob (ScrAt K ns), .d (li ds), .d (.list (M.rows.map orD)), .ob (TapeAt T.C_Tape M), .d (upD 0 t0), .own (runL u (k + 1)), a, .no, .no, .no, .no, .no, .no, .d (.int M.m), .d (.int M.s), b, .no, .no, .no, .no, .no])
      (xs_for (ei_rngN (n := 15) (ed_cons ev_int ed_nil) (by decide)) (fun i δ => ∃ (k : Nat) (a b : Sl), k ≤ i ∧ (∀ j, j < k → M.at_ (u j).1 (u j).2.m.toNat ≠ none) ∧ (k = i ∨ M.at_ (u k).1 (u k).2.m.toNat = none) ∧
        δ = [.ob (ScrAt K ns), .d (li ds), .d (.list (M.rows.map orD)), .ob (TapeAt T.C_Tape M), .d (upD 0 t0), .own (runL u (k + 1)), a, .no, .no, .no, .no, .no, .no, .d (.int M.m), .d (.int M.s), b, .no, .no, .no, .no, .no])
        ⟨0, .no, .no, Nat.le_refl _, fun j hj => absurd hj (Nat.not_lt_zero j), .inl rfl, rfl⟩ ?_ ?_) ?_
    · rintro i d δ1 hd ⟨k, a, b, hk, hs, hf, rfl⟩
      obtain ⟨hi, rfl⟩ := rgN_get hd
      refine ⟨_, _, eg_name, ?_⟩
      refine xs_give (ev_call (ea_cons (ev_var rfl) (ea_cons (ev_var rfl) (ea_cons (ev_ixO (i := 5) rfl (ev_un ev_int ru_neg) (runL_last u k)) ea_nil))) ⟨M, (u k).1, (u k).2.m.toNat, (u k).2, ok, (ir k).1, (ir k).2.1, (ir k).2.2, by have := (U k).2.2.2; omega, by have := (U k).2.2.2; omega, rfl, rfl⟩) ?_
      rcases SE k with ⟨e1, e2⟩ | ⟨e1, e2⟩
      · rw [e2]
        exact xs_if0 (et_tst (ev_op (ev_var (x := .none) rfl) ev_non rd_isNot) rfl) (xs_next ⟨k, .d (.int (i : Int)), .d .none, by omega, hs, .inr e1, rfl⟩)
      · rw [e2]
        have hk : k = i := by
          rcases hf with h | h
          · exact h
          · exact absurd h e1
        refine xs_if1 (et_tst (ev_op (ev_var rfl) ev_non rd_isNot) rfl) (xs_app (i := 5) rfl (ev_var rfl) (by rw [runL_len]; omega) ⟨k + 1, .d (.int (i : Int)), .d (upD (u (k + 1)).1 (u (k + 1)).2), by omega, fun j hj => ?_, .inl (by omega), ?_⟩)
        · by_cases q : j = k
          · rw [q]; exact e1
          · exact hs j (by omega)
        · rw [runL_succ u (k + 1)]
          rfl
    · rintro δ1 ⟨k, a, b, hk, hs, hf, rfl⟩
      rw [rgN_length] at hk hf
      exact ⟨k, a, b, hk, hs, hf, rfl⟩
    rintro _ ⟨k, a, b, hk, hs, hf, rfl⟩
    refine xs_seq (xs_if (et_test (ev_op (ev_lenO (i := 5) rfl) ev_int rd_gt)) (fun _ => xs_ret ev_bl rfl) (fun h => xs_next ?_))
    have h := of_decide_eq_false h
    rw [runL_len] at h
    have hk14 : k ≤ 14 := by omega
    have sit := SO hk14 hs (hf.resolve_left (by omega))
    obtain ⟨f, wy⟩ := way sit
    have n51 := sit.n51
    have ln := (U k).2.2.2
    have eB : cBeg u = ⟨0, t0, bl, bl⟩ := by
      show (⟨0, (u 0).2, bl, bl⟩ : Cf) = _
      rw [u0]
    have eE : cEnd M k u = ⟨M.end_, t0, bl, ⟨[], 0, ansOf (u k).2⟩⟩ := by
      show (⟨M.end_, (u 0).2, bl, ⟨[], 0, ansOf (u k).2⟩⟩ : Cf) = _
      rw [u0]
    have pb1 := m_le_pairs ok
    have pb2 := pairs_le ok
    have he : M.end_ = 1 + 2 * M.s + 2 * M.pairs + 11 + 1 + 2 * M.s + 2 * M.pairs := rfl
    refine xs_give (ev_call (ea_cons (ev_ixO (i := 5) rfl (ev_un ev_int ru_neg) (runL_last u k)) ea_nil) ⟨((u k).1 : Int), (u k).2, rfl, by omega, rfl⟩) ?_
    refine xs_seq (xs_par (r1 := .d (.int (k : Nat))) (r2 := .d (.int (nA k u : Nat))) (ea_cons (ev_dto (ev_op (ev_lenO (i := 5) rfl) ev_int rd_sub) ?_) (ea_cons (ev_dto (ev_cb (ed_cons (ev_var rfl) ed_nil) rc_lenT) ?_) ea_nil)) ?_)
    · rw [runL_len]
      exact congrArg PyData.int (by omega)
    · rw [List.length_map]
    refine xs_give (ev_call (ea_cons (ev_ob rfl) ea_nil) ⟨M, ok, rfl, by omega, pb2, by omega, by omega, clean_len ok, clean_bd ok, clean_ok ok, clean_okB ok, rfl⟩) ?_
    refine xs_seq (xs_par (r1 := .d (cfD (cBeg u))) (r2 := .d (cfD (cEnd M k u))) (ea_cons (ev_call (ea_cons (ev_var rfl) ea_nil) ⟨0, t0, rfl, by rw [eB]⟩) (ea_cons (ev_call (ea_cons (ev_ob rfl) (ea_cons (ev_var rfl) (ea_cons (ev_var rfl) ea_nil))) ⟨M, 0, t0, ansOf (u k).2, ok, rfl, by rw [eE]⟩) ea_nil)) ?_)
    have hS : ((stN k u : Nat) : Int) = 8 * ((k : Int) + (nA k u : Nat)) + 11 := by
      show ((8 * (k + nA k u) + 11 : Nat) : Int) = _
      omega
    have hS2 : stN k u ≤ 600 := by
      show 8 * (k + nA k u) + 11 ≤ 600
      omega
    have hS3 : stN k u + 1 = 8 * (k + nA k u) + 12 := rfl
    refine xs_give (r := .d (.int (stN k u : Nat))) (ev_dto (ev_op (ev_op ev_int (ev_op (ev_var rfl) (ev_var rfl) rd_addI) (rd_mul (cmul_s (by decide) (by omega)))) ev_int rd_addI) (congrArg PyData.int hS.symm)) ?_
    refine xs_eq (δ' := [.ob (ScrAt K ns), .d (li ds), .d (.list (M.rows.map orD)), .ob (TapeAt T.C_Tape M), .d (upD 0 t0), .own (runL u (k + 1)), a, .d (ti (ansOf (u k).2)), .ob (SevAt T.C_Several M.clean), .d (.int (stN k u : Nat)), .no, .no, .no, .d (.int M.m), .d (.int M.s), b, .d (.int (k : Nat)), .d (.int (nA k u : Nat)), .d (cfD (cBeg u)), .d (cfD (cEnd M k u)), .no]) rfl ?_
    refine xs_giveL (el_to (el_op (ev_ofL (el_lst (ed_cons ev_non ed_nil) (Nat.le_of_ble_eq_true rfl))) (ev_op (ev_var rfl) ev_int rd_addI) (rdl_rep (by omega) (by rw [List.length_singleton]; omega) (by omega))) (r' := dueL u (8 * (k + nA k u)) (8 * (k + nA k u) + 12) 0) ?_) ?_
    · rw [show (((stN k u : Nat) : Int) + 1).toNat = 8 * (k + nA k u) + 12 by omega]
      exact dueL_zero _ _ _
    refine xs_mid (fun δ' => ∃ c, δ' = [.ob (ScrAt K ns), .d (li ds), .d (.list (M.rows.map orD)), .ob (TapeAt T.C_Tape M), .d (upD 0 t0), .own (runL u (k + 1)), a, .d (ti (ansOf (u k).2)), .ob (SevAt T.C_Several M.clean), .d (.int (stN k u : Nat)), .own (dueL u (8 * (k + nA k u)) (8 * (k + nA k u) + 12) (k + 1)), c, .no, .d (.int M.m), .d (.int M.s), b, .d (.int (k : Nat)), .d (.int (nA k u : Nat)), .d (cfD (cBeg u)), .d (cfD (cEnd M k u)), .no])
      (xs_for (ei_rngN (n := k + 1) (ed_cons (ev_dto (ev_op (ev_var rfl) ev_int rd_addI) (congrArg PyData.int (by omega))) ed_nil) (by omega)) (fun i δ => ∃ c, δ = [.ob (ScrAt K ns), .d (li ds), .d (.list (M.rows.map orD)), .ob (TapeAt T.C_Tape M), .d (upD 0 t0), .own (runL u (k + 1)), a, .d (ti (ansOf (u k).2)), .ob (SevAt T.C_Several M.clean), .d (.int (stN k u : Nat)), .own (dueL u (8 * (k + nA k u)) (8 * (k + nA k u) + 12) i), c, .no, .d (.int M.m), .d (.int M.s), b, .d (.int (k : Nat)), .d (.int (nA k u : Nat)), .d (cfD (cBeg u)), .d (cfD (cEnd M k u)), .no]) ⟨_, rfl⟩ ?_ ?_) ?_
    · rintro i d δ1 hd ⟨c, rfl⟩
      obtain ⟨hi, rfl⟩ := rgN_get hd
      refine ⟨_, _, eg_name, ?_⟩
      refine xs_seq (xs_setI (i := 10) (j := 2 + 4 * i) rfl (ev_tup (ed_cons ev_str (ed_cons (ev_ixO (i := 5) rfl (ev_var rfl) (runL_at (j := i) hi)) ed_nil)) (Nat.le_of_ble_eq_true rfl)) (ev_op ev_int (ev_op ev_int (ev_var rfl) (rd_mul (cmul_s (by decide) (by omega)))) rd_addI) (ixN_of (by omega) (by rw [dueL_len]; omega)) ?_)
      refine xs_setI (i := 10) (j := 8 * (k + nA k u) + 9 - 4 * i) rfl (ev_tup (ed_cons ev_str (ed_cons (ev_ixO (i := 5) rfl (ev_var rfl) (runL_at (j := i) hi)) ed_nil)) (Nat.le_of_ble_eq_true rfl)) (ev_op (ev_op (ev_op ev_int (ev_op (ev_var rfl) (ev_var rfl) rd_addI) (rd_mul (cmul_s (by decide) (by omega)))) ev_int rd_addI) (ev_op ev_int (ev_var rfl) (rd_mul (cmul_s (by decide) (by omega)))) rd_sub) (ixN_of (by omega) (by rw [List.length_set, dueL_len]; omega)) ⟨.d (.int (i : Int)), ?_⟩
      rw [← dueL_step (T := k) (by omega)]
      rfl
    · rintro δ1 ⟨c, rfl⟩
      rw [rgN_length]
      exact ⟨c, rfl⟩
    rintro _ ⟨c, rfl⟩
    refine xs_give (ev_var rfl) ?_
    refine xs_mid (fun δ' => ∃ a e : Sl, δ' = [.ob (ScrAt K ns), .d (li ds), .d (.list (M.rows.map orD)), .ob (TapeAt T.C_Tape M), .d (upD 0 t0), .own (runL u (k + 1)), a, .d (ti (ansOf (u k).2)), .ob (SevAt T.C_Several M.clean), .d (.int (stN k u : Nat)), .own (dueL u (8 * (k + nA k u)) (8 * (k + nA k u) + 12) (k + 1)), c, .d (cfD (cEnd M k u)), .d (.int M.m), .d (.int M.s), b, .d (.int (k : Nat)), .d (.int (nA k u : Nat)), .d (cfD (cBeg u)), .d (cfD (cEnd M k u)), e])
      (xs_for (ei_rngN (n := stN k u) (ed_cons (ev_var rfl) ed_nil) (by omega)) (fun i δ => ∃ a e : Sl, δ = [.ob (ScrAt K ns), .d (li ds), .d (.list (M.rows.map orD)), .ob (TapeAt T.C_Tape M), .d (upD 0 t0), .own (runL u (k + 1)), a, .d (ti (ansOf (u k).2)), .ob (SevAt T.C_Several M.clean), .d (.int (stN k u : Nat)), .own (dueL u (8 * (k + nA k u)) (8 * (k + nA k u) + 12) (k + 1)), c, .d (cfD (f i)), .d (.int M.m), .d (.int M.s), b, .d (.int (k : Nat)), .d (.int (nA k u : Nat)), .d (cfD (cBeg u)), .d (cfD (cEnd M k u)), e]) ⟨_, _, by rw [wy.b]; rfl⟩ ?_ ?_) ?_
    · rintro i d δ1 hd ⟨a, e, rfl⟩
      obtain ⟨hi, rfl⟩ := rgN_get hd
      have p := wy.pr i (by omega)
      have pt := p.t1.2
      refine ⟨_, _, eg_name, ?_⟩
      refine xs_give (ev_call (ea_cons (ev_var rfl) ea_nil) ⟨f i, rfl, by omega, by omega, rfl⟩) ?_
      refine xs_skip (et_or0 (et_tst (ev_op (ev_dto (ev_call (ea_cons (ev_ob rfl) (ea_cons (ev_var rfl) ea_nil)) ⟨M, f i, ok, rfl, rfl⟩) p.sh) (ev_ixO (i := 10) rfl (ev_var rfl) (dueL_at (k := i) (by omega))) (rd_neS (n := 5) (p.sh ▸ Shp.shown M (f i)) (by decide))) rfl)
        (et_or0 (et_tsB (ev_isi (ev_var rfl) kit_ib) rfl) (et_tst (ev_op (ev_var rfl) (ev_call (ea_cons (ev_var rfl) (ea_cons (ev_var rfl) (ea_cons (ev_var rfl) ea_nil))) ⟨(i : Int), (k : Int), (stN k u : Nat), rfl, by omega, by omega, rfl⟩) rd_neI) ?_))) ?_
      · rw [p.nt, decide_eq_true rfl]
        rfl
      refine xs_give (ev_meth (ev_ob rfl) (sev_m T (by decide +kernel)) (ea_cons (ev_var rfl) ea_nil) ⟨M.clean, f i, rfl, wy.step hi⟩) ?_
      exact xs_if0 (et_tst (ev_op (ev_var rfl) ev_non rd_is) rfl) (xs_next ⟨.d (.int (i : Int)), .d (.int (cnt (f i).t1 : Nat)), rfl⟩)
    · rintro δ1 ⟨a, e, rfl⟩
      rw [rgN_length, wy.e]
      exact ⟨a, e, rfl⟩
    rintro _ ⟨a, e, rfl⟩
    have p := wy.pr _ (Nat.le_refl _)
    rw [wy.e] at p
    have dS : dueJ u (8 * (k + nA k u)) (k + 1) (stN k u) = .none := due_none (by show ¬ ((8 * (k + nA k u) + 11) % 4 = 2 ∧ _); omega) (by show ¬ ((8 * (k + nA k u) + 11) % 4 = 1 ∧ _); omega)
    have sS := p.sh
    rw [dS] at sS
    have pt := p.t1.2
    have rS : Shp 6 (.tuple [cfD (cEnd M k u), .int (stN k u : Nat)]) := .tup fun d hd => by
      rcases mem_2 hd with rfl | rfl
      · exact .cf _
      · exact .int _
    have rB : Shp 6 (.tuple [cfD (cBeg u), .int (stN k u : Nat)]) := .tup fun d hd => by
      rcases mem_2 hd with rfl | rfl
      · exact .cf _
      · exact .int _
    have n5 : ((stN k u : Nat) : Int) + 5 = ((stN k u + 5 : Nat) : Int) := by omega
    refine xs_skip (et_or0 (et_tst (ev_op (ev_var rfl) (ev_var rfl) (rd_neS (Shp.cf _) (by decide))) rfl) (et_or0 (et_tst (ev_op (ev_meth (ev_ob rfl) (sev_m T (by decide +kernel)) (ea_cons (ev_var rfl) ea_nil) ⟨M.clean, _, rfl, end_taken sit, rfl⟩) ev_bl rd_isNotB) rfl)
      (et_or0 (et_tst (ev_op (ev_dto (ev_call (ea_cons (ev_ob rfl) (ea_cons (ev_var rfl) ea_nil)) ⟨M, cEnd M k u, ok, rfl, rfl⟩) sS) ev_non rd_isNot) rfl) (et_tst (ev_op (ev_call (ea_cons (ev_var rfl) ea_nil) ⟨cEnd M k u, rfl, by omega, by omega, rfl⟩) ev_int rd_neI) rfl)))) ?_
    refine xs_skip (et_or0 (et_tst (ev_neAns (ev_call (ea_cons (ev_ixO (i := 5) rfl (ev_un ev_int ru_neg) (runL_last u k)) ea_nil) ⟨((u k).1 : Int), (u k).2, rfl, by omega, rfl⟩) (ev_var rfl)) rfl)
      (et_or0 (et_tst (ev_op (ev_meth (ev_ob rfl) (sev_m T (by decide +kernel)) (ea_cons (ev_var rfl) (ea_cons (ev_var rfl) ea_nil)) ⟨M.clean, _, _, rfl, wy.run sit (Nat.le_refl _) (by omega)⟩) (ev_tup (ed_cons (ev_var rfl) (ed_cons (ev_var rfl) ed_nil)) (Nat.le_of_ble_eq_true rfl)) (rd_neS rS (by decide))) rfl)
        (et_tst (ev_op (ev_meth (ev_ob rfl) (sev_m T (by decide +kernel)) (ea_cons (ev_var rfl) (ea_cons (ev_dto (ev_op (ev_var rfl) ev_int rd_addI) (congrArg PyData.int n5)) ea_nil)) ⟨M.clean, _, _, rfl, wy.run sit (by omega) (by omega)⟩) (ev_tup (ed_cons (ev_var rfl) (ed_cons (ev_var rfl) ed_nil)) (Nat.le_of_ble_eq_true rfl)) (rd_neS rS (by decide))) rfl))) ?_
    refine xs_skip (et_or0 (et_tst (ev_op (ev_meth (ev_ob rfl) (sev_m T (by decide +kernel)) (ea_cons (ev_var rfl) (ea_cons (ev_var rfl) ea_nil)) ⟨M.clean, _, _, rfl, wy.runB sit (Nat.le_refl _) (by omega)⟩) (ev_tup (ed_cons (ev_var rfl) (ed_cons (ev_var rfl) ed_nil)) (Nat.le_of_ble_eq_true rfl)) (rd_neS rB (by decide))) rfl)
        (et_tst (ev_op (ev_meth (ev_ob rfl) (sev_m T (by decide +kernel)) (ea_cons (ev_var rfl) (ea_cons (ev_dto (ev_op (ev_var rfl) ev_int rd_addI) (congrArg PyData.int n5)) ea_nil)) ⟨M.clean, _, _, rfl, wy.runB sit (by omega) (by omega)⟩) (ev_tup (ed_cons (ev_var rfl) (ed_cons (ev_var rfl) ed_nil)) (Nat.le_of_ble_eq_true rfl)) (rd_neS rB (by decide))) rfl)) ?_
    exact xs_ret (ev_and1 (ev_bto (ev_op (ev_meth (ev_ob rfl) (sev_m T (by decide +kernel)) (ea_cons (ev_var rfl) ea_nil) ⟨M.clean, cBeg u, rfl, beg_taken sit⟩) ev_non rd_is) rfl) (ev_op (ev_meth (ev_ob rfl) (tape_table T) ea_nil ⟨M, rfl, rfl⟩) (ev_var rfl) (rd_eqS (n := 3) (Shp.lst fun d hd => by
      obtain ⟨o, _, rfl⟩ := List.mem_map.mp hd
      exact Shp.or o) (by decide)))) rfl
end
end BK
set_option maxRecDepth 100000
set_option maxHeartbeats 0
/-! ZA: the head (printed by head.py): what the top has written. -/
namespace BK
open PySem PySem.Spec PyProof.Rows L2 DL
def d_is_integer : He.FnD := ⟨("is_integer", none), "is_integer", "is_integer", defArgs s_is_integer, defBody s_is_integer, defScope s_is_integer⟩
def d_trimmed : He.FnD := ⟨("trimmed", none), "trimmed", "trimmed", defArgs s_trimmed, defBody s_trimmed, defScope s_trimmed⟩
def d_Tape_init : He.FnD := ⟨("Tape", some "__init__"), "__init__", "Tape.__init__", defArgs s_Tape_init, defBody s_Tape_init, defScope s_Tape_init⟩
def d_Tape_is_row : He.FnD := ⟨("Tape", some "_is_row"), "_is_row", "Tape._is_row", defArgs s_Tape_is_row, defBody s_Tape_is_row, defScope s_Tape_is_row⟩
def d_Tape_table : He.FnD := ⟨("Tape", some "table"), "table", "Tape.table", defArgs s_Tape_table, defBody s_Tape_table, defScope s_Tape_table⟩
def d_Tape_row : He.FnD := ⟨("Tape", some "row"), "row", "Tape.row", defArgs s_Tape_row, defBody s_Tape_row, defScope s_Tape_row⟩
def d_is_number : He.FnD := ⟨("is_number", none), "is_number", "is_number", defArgs s_is_number, defBody s_is_number, defScope s_is_number⟩
def d_is_tuple : He.FnD := ⟨("is_tuple", none), "is_tuple", "is_tuple", defArgs s_is_tuple, defBody s_is_tuple, defScope s_is_tuple⟩
def d_backward : He.FnD := ⟨("backward", none), "backward", "backward", defArgs s_backward, defBody s_backward, defScope s_backward⟩
def d_first_clash : He.FnD := ⟨("first_clash", none), "first_clash", "first_clash", defArgs s_first_clash, defBody s_first_clash, defScope s_first_clash⟩
def d_clash_among : He.FnD := ⟨("_clash_among", none), "_clash_among", "_clash_among", defArgs s_clash_among, defBody s_clash_among, defScope s_clash_among⟩
def d_Several_init : He.FnD := ⟨("Several", some "__init__"), "__init__", "Several.__init__", defArgs s_Several_init, defBody s_Several_init, defScope s_Several_init⟩
def d_Several_is_row : He.FnD := ⟨("Several", some "_is_row"), "_is_row", "Several._is_row", defArgs s_Several_is_row, defBody s_Several_is_row, defScope s_Several_is_row⟩
def d_Several_step : He.FnD := ⟨("Several", some "step"), "step", "Several.step", defArgs s_Several_step, defBody s_Several_step, defScope s_Several_step⟩
def d_Several_stopped : He.FnD := ⟨("Several", some "stopped"), "stopped", "Several.stopped", defArgs s_Several_stopped, defBody s_Several_stopped, defScope s_Several_stopped⟩
def d_Several_run : He.FnD := ⟨("Several", some "run"), "run", "Several.run", defArgs s_Several_run, defBody s_Several_run, defScope s_Several_run⟩
def d_Several_back : He.FnD := ⟨("Several", some "back"), "back", "Several.back", defArgs s_Several_back, defBody s_Several_back, defScope s_Several_back⟩
def d_Several_run_back : He.FnD := ⟨("Several", some "run_back"), "run_back", "Several.run_back", defArgs s_Several_run_back, defBody s_Several_run_back, defScope s_Several_run_back⟩
def d_Several_check_back : He.FnD := ⟨("Several", some "_check_back"), "_check_back", "Several._check_back", defArgs s_Several_check_back, defBody s_Several_check_back, defScope s_Several_check_back⟩
def d_table_of : He.FnD := ⟨("_table_of", none), "_table_of", "_table_of", defArgs s_table_of, defBody s_table_of, defScope s_table_of⟩
def d_moved_tape : He.FnD := ⟨("moved_tape", none), "moved_tape", "moved_tape", defArgs s_moved_tape, defBody s_moved_tape, defScope s_moved_tape⟩
def d_taken : He.FnD := ⟨("_taken", none), "_taken", "_taken", defArgs s_taken, defBody s_taken, defScope s_taken⟩
def d_run : He.FnD := ⟨("_run", none), "_run", "_run", defArgs s_run, defBody s_run, defScope s_run⟩
def d_pairs_of : He.FnD := ⟨("pairs_of", none), "pairs_of", "pairs_of", defArgs s_pairs_of, defBody s_pairs_of, defScope s_pairs_of⟩
def d_answer_of : He.FnD := ⟨("answer_of", none), "answer_of", "answer_of", defArgs s_answer_of, defBody s_answer_of, defScope s_answer_of⟩
def d_Numbers_init : He.FnD := ⟨("Numbers", some "__init__"), "__init__", "Numbers.__init__", defArgs s_Numbers_init, defBody s_Numbers_init, defScope s_Numbers_init⟩
def d_Numbers_enter : He.FnD := ⟨("Numbers", some "enter"), "enter", "Numbers.enter", defArgs s_Numbers_enter, defBody s_Numbers_enter, defScope s_Numbers_enter⟩
def d_Numbers_at : He.FnD := ⟨("Numbers", some "at"), "at", "Numbers.at", defArgs s_Numbers_at, defBody s_Numbers_at, defScope s_Numbers_at⟩
def d_Numbers_go : He.FnD := ⟨("Numbers", some "go"), "go", "Numbers.go", defArgs s_Numbers_go, defBody s_Numbers_go, defScope s_Numbers_go⟩
def d_Numbers_note : He.FnD := ⟨("Numbers", some "note"), "note", "Numbers.note", defArgs s_Numbers_note, defBody s_Numbers_note, defScope s_Numbers_note⟩
def d_Numbers_copying : He.FnD := ⟨("Numbers", some "copying"), "copying", "Numbers.copying", defArgs s_Numbers_copying, defBody s_Numbers_copying, defScope s_Numbers_copying⟩
def d_Numbers_back_at : He.FnD := ⟨("Numbers", some "back_at"), "back_at", "Numbers.back_at", defArgs s_Numbers_back_at, defBody s_Numbers_back_at, defScope s_Numbers_back_at⟩
def d_Numbers_back_enter : He.FnD := ⟨("Numbers", some "back_enter"), "back_enter", "Numbers.back_enter", defArgs s_Numbers_back_enter, defBody s_Numbers_back_enter, defScope s_Numbers_back_enter⟩
def d_Numbers_back_note : He.FnD := ⟨("Numbers", some "back_note"), "back_note", "Numbers.back_note", defArgs s_Numbers_back_note, defBody s_Numbers_back_note, defScope s_Numbers_back_note⟩
def d_Numbers_back_go : He.FnD := ⟨("Numbers", some "back_go"), "back_go", "Numbers.back_go", defArgs s_Numbers_back_go, defBody s_Numbers_back_go, defScope s_Numbers_back_go⟩
def d_same : He.FnD := ⟨("_same", none), "_same", "_same", defArgs s_same, defBody s_same, defScope s_same⟩
def d_forth : He.FnD := ⟨("_forth", none), "_forth", "_forth", defArgs s_forth, defBody s_forth, defScope s_forth⟩
def d_copying : He.FnD := ⟨("_copying", none), "_copying", "_copying", defArgs s_copying, defBody s_copying, defScope s_copying⟩
def d_back : He.FnD := ⟨("_back", none), "_back", "_back", defArgs s_back, defBody s_back, defScope s_back⟩
def d_clean : He.FnD := ⟨("clean", none), "clean", "clean", defArgs s_clean, defBody s_clean, defScope s_clean⟩
def d_clean_begin : He.FnD := ⟨("clean_begin", none), "clean_begin", "clean_begin", defArgs s_clean_begin, defBody s_clean_begin, defScope s_clean_begin⟩
def d_clean_end : He.FnD := ⟨("clean_end", none), "clean_end", "clean_end", defArgs s_clean_end, defBody s_clean_end, defScope s_clean_end⟩
def d_shown : He.FnD := ⟨("shown", none), "shown", "shown", defArgs s_shown, defBody s_shown, defScope s_shown⟩
def d_lent : He.FnD := ⟨("lent", none), "lent", "lent", defArgs s_lent, defBody s_lent, defScope s_lent⟩
def d_law_draws : He.FnD := ⟨("_law_draws", none), "_law_draws", "_law_draws", defArgs s_law_draws, defBody s_law_draws, defScope s_law_draws⟩
def d_law_machine : He.FnD := ⟨("_law_machine", none), "_law_machine", "_law_machine", defArgs s_law_machine, defBody s_law_machine, defScope s_law_machine⟩
def d_law_trimmed : He.FnD := ⟨("_law_trimmed", none), "_law_trimmed", "_law_trimmed", defArgs s_law_trimmed, defBody s_law_trimmed, defScope s_law_trimmed⟩
def d_law_configuration : He.FnD := ⟨("_law_configuration", none), "_law_configuration", "_law_configuration", defArgs s_law_configuration, defBody s_law_configuration, defScope s_law_configuration⟩
def d_law_step : He.FnD := ⟨("_law_step", none), "_law_step", "_law_step", defArgs s_law_step, defBody s_law_step, defScope s_law_step⟩
def d_law_notes : He.FnD := ⟨("_law_notes", none), "_law_notes", "_law_notes", defArgs s_law_notes, defBody s_law_notes, defScope s_law_notes⟩
def d_law_answer : He.FnD := ⟨("_law_answer", none), "_law_answer", "_law_answer", defArgs s_law_answer, defBody s_law_answer, defScope s_law_answer⟩
def d_law_off_the_run : He.FnD := ⟨("_law_off_the_run", none), "_law_off_the_run", "_law_off_the_run", defArgs s_law_off_the_run, defBody s_law_off_the_run, defScope s_law_off_the_run⟩
def d_law : He.FnD := ⟨("law", none), "law", "law", defArgs s_law, defBody s_law, defScope s_law⟩
def hdN_0 : List Str := ["_wall", "BackError", "BadMachine", "Clash", "MOST_MARKS_tape", "MOST_STATES_tape", "is_integer", "trimmed", "Tape", "MOST_TAPES", "MOST_MARKS_several", "MOST_STATES_several", "MOST_ROWS", "is_number", "is_tuple", "backward", "first_clash", "_clash_among", "Several", "_table_of", "moved_tape", "_taken", "_run", "pairs_of", "COPYING", "answer_of", "Numbers", "_same", "_forth", "_copying"]
def hdN_1 : List Str := ["_back", "clean", "clean_begin", "clean_end", "shown", "lent", "_law_draws", "_law_machine", "_law_trimmed", "_law_configuration", "_law_step", "_law_notes", "_law_answer", "_law_off_the_run"]
def hdN : List Str := hdN_0 ++ hdN_1
def hdF_0 : List He.Fa := [.free "isinstance", .free "int", .free "bool", .free "len", .free "tuple", .free "list", .free "range", .free "any", .free "all", .free "enumerate", .free "zip", .free "abs", .int "MOST_MARKS_tape" 8, .int "MOST_STATES_tape" 40, .int "MOST_TAPES" 4, .int "MOST_MARKS_several" 400, .int "MOST_STATES_several" 5000, .int "MOST_ROWS" 20000, .int "COPYING" 11, .cls "Tape", .glo "Tape", .noat "Tape" "marks", .noat "Tape" "states", .noat "Tape" "_rows", .cls "Several", .glo "Several", .noat "Several" "tapes", .noat "Several" "marks", .noat "Several" "states", .noat "Several" "_rows"]
def hdF_1 : List He.Fa := [.noat "Several" "_back_clash", .noat "Several" "_by_state", .noat "Several" "_by_next", .cls "Numbers", .glo "Numbers", .noat "Numbers" "machine", .noat "Numbers" "states", .noat "Numbers" "pairs", .noat "Numbers" "halt", .noat "Numbers" "undo", .noat "Numbers" "end", .keep "is_integer", .glo "is_integer", .keep "trimmed", .glo "trimmed", .mkr "Tape", .meth "Tape" "__init__", .meth "Tape" "_is_row", .meth "Tape" "table", .meth "Tape" "row", .keep "is_number", .glo "is_number", .keep "is_tuple", .glo "is_tuple", .keep "backward", .glo "backward", .keep "first_clash", .glo "first_clash", .keep "_clash_among", .glo "_clash_among"]
def hdF_2 : List He.Fa := [.mkr "Several", .meth "Several" "__init__", .meth "Several" "_is_row", .meth "Several" "step", .meth "Several" "stopped", .meth "Several" "run", .meth "Several" "back", .meth "Several" "run_back", .meth "Several" "_check_back", .keep "_table_of", .glo "_table_of", .keep "moved_tape", .glo "moved_tape", .keep "_taken", .glo "_taken", .keep "_run", .glo "_run", .keep "pairs_of", .glo "pairs_of", .keep "answer_of", .glo "answer_of", .mkr "Numbers", .meth "Numbers" "__init__", .meth "Numbers" "enter", .meth "Numbers" "at", .meth "Numbers" "go", .meth "Numbers" "note", .meth "Numbers" "copying", .meth "Numbers" "back_at", .meth "Numbers" "back_enter"]
def hdF_3 : List He.Fa := [.meth "Numbers" "back_note", .meth "Numbers" "back_go", .keep "_same", .glo "_same", .keep "_forth", .glo "_forth", .keep "_copying", .glo "_copying", .keep "_back", .glo "_back", .keep "clean", .glo "clean", .keep "clean_begin", .glo "clean_begin", .keep "clean_end", .glo "clean_end", .keep "shown", .glo "shown", .keep "lent", .glo "lent", .keep "_law_draws", .glo "_law_draws", .keep "_law_machine", .glo "_law_machine", .keep "_law_trimmed", .glo "_law_trimmed", .keep "_law_configuration", .glo "_law_configuration", .keep "_law_step", .glo "_law_step"]
def hdF_4 : List He.Fa := [.keep "_law_notes", .glo "_law_notes", .keep "_law_answer", .glo "_law_answer", .keep "_law_off_the_run", .glo "_law_off_the_run", .keep "law", .glo "law"]
def hdF : List He.Fa := hdF_0 ++ hdF_1 ++ hdF_2 ++ hdF_3 ++ hdF_4
def hdD_0 : List He.FnD := [d_is_integer, d_trimmed, d_Tape_init, d_Tape_is_row, d_Tape_table, d_Tape_row, d_is_number, d_is_tuple, d_backward, d_first_clash, d_clash_among, d_Several_init, d_Several_is_row, d_Several_step, d_Several_stopped, d_Several_run, d_Several_back, d_Several_run_back, d_Several_check_back, d_table_of, d_moved_tape, d_taken, d_run, d_pairs_of, d_answer_of, d_Numbers_init, d_Numbers_enter, d_Numbers_at, d_Numbers_go, d_Numbers_note]
def hdD_1 : List He.FnD := [d_Numbers_copying, d_Numbers_back_at, d_Numbers_back_enter, d_Numbers_back_note, d_Numbers_back_go, d_same, d_forth, d_copying, d_back, d_clean, d_clean_begin, d_clean_end, d_shown, d_lent, d_law_draws, d_law_machine, d_law_trimmed, d_law_configuration, d_law_step, d_law_notes, d_law_answer, d_law_off_the_run, d_law]
def hdD : List He.FnD := hdD_0 ++ hdD_1
abbrev hdR : PySem.W.OpenRow := PySem.W.OpenLaw.row PySem.Challenge.rw_backstair_k26_whole_clean_runs
abbrev hdK : PySem.W.Hook := He.hookE 6 hdF hdD
def hdO (s : PySem.W.SharedT) : He.Al := He.obsG 6 hdF hdD (HandSHeadRun.getT s)
theorem hdO_eq (s : PySem.W.SharedT) : hdO s = hdK.obs s.abs := He.obsG_eq (HandSHeadRun.getT_eq s)
theorem hd_run (w : World) : HandSHeadRun.RunEq hdR (PySem.W.view hdR.prog [50]) hdK hdO 6000 hdN w := by
  intro os
  kernel_rfl
theorem txt_mk {K : PySem.W.Frag} {h : Heap} {mg : Str → Option Value} (X : K.In h) (G : h.Ns mainGlobals mg) (c : He.SaysE hdF hdD K) : ∃ T : Txt K mg, T.law.f = He.ga K "law" ∧ ∀ (s : Shared) (v : Value), BindsTo s T.law.fd ⟨[v], []⟩ [("_law_script", v)] := by
  obtain ⟨t_MOST_MARKS_tape, c_MOST_MARKS_tape⟩ := He.int_ok X G (c.fact 12 rfl)
  obtain ⟨t_MOST_STATES_tape, c_MOST_STATES_tape⟩ := He.int_ok X G (c.fact 13 rfl)
  obtain ⟨t_MOST_TAPES, c_MOST_TAPES⟩ := He.int_ok X G (c.fact 14 rfl)
  obtain ⟨t_MOST_MARKS_several, c_MOST_MARKS_several⟩ := He.int_ok X G (c.fact 15 rfl)
  obtain ⟨t_MOST_STATES_several, c_MOST_STATES_several⟩ := He.int_ok X G (c.fact 16 rfl)
  obtain ⟨t_MOST_ROWS, c_MOST_ROWS⟩ := He.int_ok X G (c.fact 17 rfl)
  obtain ⟨t_COPYING, c_COPYING⟩ := He.int_ok X G (c.fact 18 rfl)
  obtain ⟨oc_is_integer, od_is_integer, os_is_integer, kV_is_integer, dc_is_integer, pm_is_integer, an_is_integer, cd_is_integer, ct_is_integer, l_is_integer, k_is_integer⟩ := c.def_ 0 (d := d_is_integer) rfl
  have F_is_integer := fun_mk (st := s_is_integer) l_is_integer k_is_integer (He.keep_ok (c.fact 41 rfl))
  have b_is_integer := F_is_integer.binds (ps := P_is_integer) fun _ _ _ _ _ _ us hl => match us, hl with | [_, _, _], _ => rfl
  obtain ⟨oc_trimmed, od_trimmed, os_trimmed, kV_trimmed, dc_trimmed, pm_trimmed, an_trimmed, cd_trimmed, ct_trimmed, l_trimmed, k_trimmed⟩ := c.def_ 1 (d := d_trimmed) rfl
  have F_trimmed := fun_mk (st := s_trimmed) l_trimmed k_trimmed (He.keep_ok (c.fact 43 rfl))
  have b_trimmed := F_trimmed.binds (ps := P_trimmed) fun _ _ _ _ _ _ us hl => match us, hl with | [_], _ => rfl
  obtain ⟨oc_Tape_init, od_Tape_init, os_Tape_init, kV_Tape_init, dc_Tape_init, pm_Tape_init, an_Tape_init, cd_Tape_init, ct_Tape_init, l_Tape_init, k_Tape_init⟩ := c.def_ 2 (d := d_Tape_init) rfl
  have F_Tape_init := fun_mk (st := s_Tape_init) l_Tape_init k_Tape_init ((He.meth_ok (c.fact 46 rfl)).kp)
  have b_Tape_init := F_Tape_init.binds (ps := P_Tape_init) fun _ _ _ _ _ _ us hl => match us, hl with | [_, _, _, _], _ => rfl
  obtain ⟨oc_Tape_is_row, od_Tape_is_row, os_Tape_is_row, kV_Tape_is_row, dc_Tape_is_row, pm_Tape_is_row, an_Tape_is_row, cd_Tape_is_row, ct_Tape_is_row, l_Tape_is_row, k_Tape_is_row⟩ := c.def_ 3 (d := d_Tape_is_row) rfl
  have F_Tape_is_row := fun_mk (st := s_Tape_is_row) l_Tape_is_row k_Tape_is_row ((He.meth_ok (c.fact 47 rfl)).kp)
  have b_Tape_is_row := F_Tape_is_row.binds (ps := P_Tape_is_row) fun _ _ _ _ _ _ us hl => match us, hl with | [_, _], _ => rfl
  obtain ⟨oc_Tape_table, od_Tape_table, os_Tape_table, kV_Tape_table, dc_Tape_table, pm_Tape_table, an_Tape_table, cd_Tape_table, ct_Tape_table, l_Tape_table, k_Tape_table⟩ := c.def_ 4 (d := d_Tape_table) rfl
  have F_Tape_table := fun_mk (st := s_Tape_table) l_Tape_table k_Tape_table ((He.meth_ok (c.fact 48 rfl)).kp)
  have b_Tape_table := F_Tape_table.binds (ps := P_Tape_table) fun _ _ _ _ _ _ us hl => match us, hl with | [_], _ => rfl
  obtain ⟨oc_Tape_row, od_Tape_row, os_Tape_row, kV_Tape_row, dc_Tape_row, pm_Tape_row, an_Tape_row, cd_Tape_row, ct_Tape_row, l_Tape_row, k_Tape_row⟩ := c.def_ 5 (d := d_Tape_row) rfl
  have F_Tape_row := fun_mk (st := s_Tape_row) l_Tape_row k_Tape_row ((He.meth_ok (c.fact 49 rfl)).kp)
  have b_Tape_row := F_Tape_row.binds (ps := P_Tape_row) fun _ _ _ _ _ _ us hl => match us, hl with | [_, _, _], _ => rfl
  obtain ⟨oc_is_number, od_is_number, os_is_number, kV_is_number, dc_is_number, pm_is_number, an_is_number, cd_is_number, ct_is_number, l_is_number, k_is_number⟩ := c.def_ 6 (d := d_is_number) rfl
  have F_is_number := fun_mk (st := s_is_number) l_is_number k_is_number (He.keep_ok (c.fact 50 rfl))
  have b_is_number := F_is_number.binds (ps := P_is_number) fun _ _ _ _ _ _ us hl => match us, hl with | [_, _, _], _ => rfl
  obtain ⟨oc_is_tuple, od_is_tuple, os_is_tuple, kV_is_tuple, dc_is_tuple, pm_is_tuple, an_is_tuple, cd_is_tuple, ct_is_tuple, l_is_tuple, k_is_tuple⟩ := c.def_ 7 (d := d_is_tuple) rfl
  have F_is_tuple := fun_mk (st := s_is_tuple) l_is_tuple k_is_tuple (He.keep_ok (c.fact 52 rfl))
  have b_is_tuple := F_is_tuple.binds (ps := P_is_tuple) fun _ _ _ _ _ _ us hl => match us, hl with | [_, _, _, _], _ => rfl
  obtain ⟨oc_backward, od_backward, os_backward, kV_backward, dc_backward, pm_backward, an_backward, cd_backward, ct_backward, l_backward, k_backward⟩ := c.def_ 8 (d := d_backward) rfl
  have F_backward := fun_mk (st := s_backward) l_backward k_backward (He.keep_ok (c.fact 54 rfl))
  have b_backward := F_backward.binds (ps := P_backward) fun _ _ _ _ _ _ us hl => match us, hl with | [_], _ => rfl
  obtain ⟨oc_first_clash, od_first_clash, os_first_clash, kV_first_clash, dc_first_clash, pm_first_clash, an_first_clash, cd_first_clash, ct_first_clash, l_first_clash, k_first_clash⟩ := c.def_ 9 (d := d_first_clash) rfl
  have F_first_clash := fun_mk (st := s_first_clash) l_first_clash k_first_clash (He.keep_ok (c.fact 56 rfl))
  have b_first_clash := F_first_clash.binds (ps := P_first_clash) fun _ _ _ _ _ _ us hl => match us, hl with | [_], _ => rfl
  obtain ⟨oc_clash_among, od_clash_among, os_clash_among, kV_clash_among, dc_clash_among, pm_clash_among, an_clash_among, cd_clash_among, ct_clash_among, l_clash_among, k_clash_among⟩ := c.def_ 10 (d := d_clash_among) rfl
  have F_clash_among := fun_mk (st := s_clash_among) l_clash_among k_clash_among (He.keep_ok (c.fact 58 rfl))
  have b_clash_among := F_clash_among.binds (ps := P_clash_among) fun _ _ _ _ _ _ us hl => match us, hl with | [_, _], _ => rfl
  obtain ⟨oc_Several_init, od_Several_init, os_Several_init, kV_Several_init, dc_Several_init, pm_Several_init, an_Several_init, cd_Several_init, ct_Several_init, l_Several_init, k_Several_init⟩ := c.def_ 11 (d := d_Several_init) rfl
  have F_Several_init := fun_mk (st := s_Several_init) l_Several_init k_Several_init ((He.meth_ok (c.fact 61 rfl)).kp)
  have b_Several_init := F_Several_init.binds (ps := P_Several_init) fun _ _ _ _ _ _ us hl => match us, hl with | [_, _, _, _, _], _ => rfl
  obtain ⟨oc_Several_is_row, od_Several_is_row, os_Several_is_row, kV_Several_is_row, dc_Several_is_row, pm_Several_is_row, an_Several_is_row, cd_Several_is_row, ct_Several_is_row, l_Several_is_row, k_Several_is_row⟩ := c.def_ 12 (d := d_Several_is_row) rfl
  have F_Several_is_row := fun_mk (st := s_Several_is_row) l_Several_is_row k_Several_is_row ((He.meth_ok (c.fact 62 rfl)).kp)
  have b_Several_is_row := F_Several_is_row.binds (ps := P_Several_is_row) fun _ _ _ _ _ _ us hl => match us, hl with | [_, _], _ => rfl
  obtain ⟨oc_Several_step, od_Several_step, os_Several_step, kV_Several_step, dc_Several_step, pm_Several_step, an_Several_step, cd_Several_step, ct_Several_step, l_Several_step, k_Several_step⟩ := c.def_ 13 (d := d_Several_step) rfl
  have F_Several_step := fun_mk (st := s_Several_step) l_Several_step k_Several_step ((He.meth_ok (c.fact 63 rfl)).kp)
  have b_Several_step := F_Several_step.binds (ps := P_Several_step) fun _ _ _ _ _ _ us hl => match us, hl with | [_, _], _ => rfl
  obtain ⟨oc_Several_stopped, od_Several_stopped, os_Several_stopped, kV_Several_stopped, dc_Several_stopped, pm_Several_stopped, an_Several_stopped, cd_Several_stopped, ct_Several_stopped, l_Several_stopped, k_Several_stopped⟩ := c.def_ 14 (d := d_Several_stopped) rfl
  have F_Several_stopped := fun_mk (st := s_Several_stopped) l_Several_stopped k_Several_stopped ((He.meth_ok (c.fact 64 rfl)).kp)
  have b_Several_stopped := F_Several_stopped.binds (ps := P_Several_stopped) fun _ _ _ _ _ _ us hl => match us, hl with | [_, _], _ => rfl
  obtain ⟨oc_Several_run, od_Several_run, os_Several_run, kV_Several_run, dc_Several_run, pm_Several_run, an_Several_run, cd_Several_run, ct_Several_run, l_Several_run, k_Several_run⟩ := c.def_ 15 (d := d_Several_run) rfl
  have F_Several_run := fun_mk (st := s_Several_run) l_Several_run k_Several_run ((He.meth_ok (c.fact 65 rfl)).kp)
  have b_Several_run := F_Several_run.binds (ps := P_Several_run) fun _ _ _ _ _ _ us hl => match us, hl with | [_, _, _], _ => rfl
  obtain ⟨oc_Several_back, od_Several_back, os_Several_back, kV_Several_back, dc_Several_back, pm_Several_back, an_Several_back, cd_Several_back, ct_Several_back, l_Several_back, k_Several_back⟩ := c.def_ 16 (d := d_Several_back) rfl
  have F_Several_back := fun_mk (st := s_Several_back) l_Several_back k_Several_back ((He.meth_ok (c.fact 66 rfl)).kp)
  have b_Several_back := F_Several_back.binds (ps := P_Several_back) fun _ _ _ _ _ _ us hl => match us, hl with | [_, _], _ => rfl
  obtain ⟨oc_Several_run_back, od_Several_run_back, os_Several_run_back, kV_Several_run_back, dc_Several_run_back, pm_Several_run_back, an_Several_run_back, cd_Several_run_back, ct_Several_run_back, l_Several_run_back, k_Several_run_back⟩ := c.def_ 17 (d := d_Several_run_back) rfl
  have F_Several_run_back := fun_mk (st := s_Several_run_back) l_Several_run_back k_Several_run_back ((He.meth_ok (c.fact 67 rfl)).kp)
  have b_Several_run_back := F_Several_run_back.binds (ps := P_Several_run_back) fun _ _ _ _ _ _ us hl => match us, hl with | [_, _, _], _ => rfl
  obtain ⟨oc_Several_check_back, od_Several_check_back, os_Several_check_back, kV_Several_check_back, dc_Several_check_back, pm_Several_check_back, an_Several_check_back, cd_Several_check_back, ct_Several_check_back, l_Several_check_back, k_Several_check_back⟩ := c.def_ 18 (d := d_Several_check_back) rfl
  have F_Several_check_back := fun_mk (st := s_Several_check_back) l_Several_check_back k_Several_check_back ((He.meth_ok (c.fact 68 rfl)).kp)
  have b_Several_check_back := F_Several_check_back.binds (ps := P_Several_check_back) fun _ _ _ _ _ _ us hl => match us, hl with | [_], _ => rfl
  obtain ⟨oc_table_of, od_table_of, os_table_of, kV_table_of, dc_table_of, pm_table_of, an_table_of, cd_table_of, ct_table_of, l_table_of, k_table_of⟩ := c.def_ 19 (d := d_table_of) rfl
  have F_table_of := fun_mk (st := s_table_of) l_table_of k_table_of (He.keep_ok (c.fact 69 rfl))
  have b_table_of := F_table_of.binds (ps := P_table_of) fun _ _ _ _ _ _ us hl => match us, hl with | [_], _ => rfl
  obtain ⟨oc_moved_tape, od_moved_tape, os_moved_tape, kV_moved_tape, dc_moved_tape, pm_moved_tape, an_moved_tape, cd_moved_tape, ct_moved_tape, l_moved_tape, k_moved_tape⟩ := c.def_ 20 (d := d_moved_tape) rfl
  have F_moved_tape := fun_mk (st := s_moved_tape) l_moved_tape k_moved_tape (He.keep_ok (c.fact 71 rfl))
  have b_moved_tape := F_moved_tape.binds (ps := P_moved_tape) fun _ _ _ _ _ _ us hl => match us, hl with | [_, _], _ => rfl
  obtain ⟨oc_taken, od_taken, os_taken, kV_taken, dc_taken, pm_taken, an_taken, cd_taken, ct_taken, l_taken, k_taken⟩ := c.def_ 21 (d := d_taken) rfl
  have F_taken := fun_mk (st := s_taken) l_taken k_taken (He.keep_ok (c.fact 73 rfl))
  have b_taken := F_taken.binds (ps := P_taken) fun _ _ _ _ _ _ us hl => match us, hl with | [_, _], _ => rfl
  obtain ⟨oc_run, od_run, os_run, kV_run, dc_run, pm_run, an_run, cd_run, ct_run, l_run, k_run⟩ := c.def_ 22 (d := d_run) rfl
  have F_run := fun_mk (st := s_run) l_run k_run (He.keep_ok (c.fact 75 rfl))
  have b_run := F_run.binds (ps := P_run) fun _ _ _ _ _ _ us hl => match us, hl with | [_, _, _], _ => rfl
  obtain ⟨oc_pairs_of, od_pairs_of, os_pairs_of, kV_pairs_of, dc_pairs_of, pm_pairs_of, an_pairs_of, cd_pairs_of, ct_pairs_of, l_pairs_of, k_pairs_of⟩ := c.def_ 23 (d := d_pairs_of) rfl
  have F_pairs_of := fun_mk (st := s_pairs_of) l_pairs_of k_pairs_of (He.keep_ok (c.fact 77 rfl))
  have b_pairs_of := F_pairs_of.binds (ps := P_pairs_of) fun _ _ _ _ _ _ us hl => match us, hl with | [_], _ => rfl
  obtain ⟨oc_answer_of, od_answer_of, os_answer_of, kV_answer_of, dc_answer_of, pm_answer_of, an_answer_of, cd_answer_of, ct_answer_of, l_answer_of, k_answer_of⟩ := c.def_ 24 (d := d_answer_of) rfl
  have F_answer_of := fun_mk (st := s_answer_of) l_answer_of k_answer_of (He.keep_ok (c.fact 79 rfl))
  have b_answer_of := F_answer_of.binds (ps := P_answer_of) fun _ _ _ _ _ _ us hl => match us, hl with | [_], _ => rfl
  obtain ⟨oc_Numbers_init, od_Numbers_init, os_Numbers_init, kV_Numbers_init, dc_Numbers_init, pm_Numbers_init, an_Numbers_init, cd_Numbers_init, ct_Numbers_init, l_Numbers_init, k_Numbers_init⟩ := c.def_ 25 (d := d_Numbers_init) rfl
  have F_Numbers_init := fun_mk (st := s_Numbers_init) l_Numbers_init k_Numbers_init ((He.meth_ok (c.fact 82 rfl)).kp)
  have b_Numbers_init := F_Numbers_init.binds (ps := P_Numbers_init) fun _ _ _ _ _ _ us hl => match us, hl with | [_, _], _ => rfl
  obtain ⟨oc_Numbers_enter, od_Numbers_enter, os_Numbers_enter, kV_Numbers_enter, dc_Numbers_enter, pm_Numbers_enter, an_Numbers_enter, cd_Numbers_enter, ct_Numbers_enter, l_Numbers_enter, k_Numbers_enter⟩ := c.def_ 26 (d := d_Numbers_enter) rfl
  have F_Numbers_enter := fun_mk (st := s_Numbers_enter) l_Numbers_enter k_Numbers_enter ((He.meth_ok (c.fact 83 rfl)).kp)
  have b_Numbers_enter := F_Numbers_enter.binds (ps := P_Numbers_enter) fun _ _ _ _ _ _ us hl => match us, hl with | [_, _], _ => rfl
  obtain ⟨oc_Numbers_at, od_Numbers_at, os_Numbers_at, kV_Numbers_at, dc_Numbers_at, pm_Numbers_at, an_Numbers_at, cd_Numbers_at, ct_Numbers_at, l_Numbers_at, k_Numbers_at⟩ := c.def_ 27 (d := d_Numbers_at) rfl
  have F_Numbers_at := fun_mk (st := s_Numbers_at) l_Numbers_at k_Numbers_at ((He.meth_ok (c.fact 84 rfl)).kp)
  have b_Numbers_at := F_Numbers_at.binds (ps := P_Numbers_at) fun _ _ _ _ _ _ us hl => match us, hl with | [_, _], _ => rfl
  obtain ⟨oc_Numbers_go, od_Numbers_go, os_Numbers_go, kV_Numbers_go, dc_Numbers_go, pm_Numbers_go, an_Numbers_go, cd_Numbers_go, ct_Numbers_go, l_Numbers_go, k_Numbers_go⟩ := c.def_ 28 (d := d_Numbers_go) rfl
  have F_Numbers_go := fun_mk (st := s_Numbers_go) l_Numbers_go k_Numbers_go ((He.meth_ok (c.fact 85 rfl)).kp)
  have b_Numbers_go := F_Numbers_go.binds (ps := P_Numbers_go) fun _ _ _ _ _ _ us hl => match us, hl with | [_, _], _ => rfl
  obtain ⟨oc_Numbers_note, od_Numbers_note, os_Numbers_note, kV_Numbers_note, dc_Numbers_note, pm_Numbers_note, an_Numbers_note, cd_Numbers_note, ct_Numbers_note, l_Numbers_note, k_Numbers_note⟩ := c.def_ 29 (d := d_Numbers_note) rfl
  have F_Numbers_note := fun_mk (st := s_Numbers_note) l_Numbers_note k_Numbers_note ((He.meth_ok (c.fact 86 rfl)).kp)
  have b_Numbers_note := F_Numbers_note.binds (ps := P_Numbers_note) fun _ _ _ _ _ _ us hl => match us, hl with | [_, _], _ => rfl
  obtain ⟨oc_Numbers_copying, od_Numbers_copying, os_Numbers_copying, kV_Numbers_copying, dc_Numbers_copying, pm_Numbers_copying, an_Numbers_copying, cd_Numbers_copying, ct_Numbers_copying, l_Numbers_copying, k_Numbers_copying⟩ := c.def_ 30 (d := d_Numbers_copying) rfl
  have F_Numbers_copying := fun_mk (st := s_Numbers_copying) l_Numbers_copying k_Numbers_copying ((He.meth_ok (c.fact 87 rfl)).kp)
  have b_Numbers_copying := F_Numbers_copying.binds (ps := P_Numbers_copying) fun _ _ _ _ _ _ us hl => match us, hl with | [_, _], _ => rfl
  obtain ⟨oc_Numbers_back_at, od_Numbers_back_at, os_Numbers_back_at, kV_Numbers_back_at, dc_Numbers_back_at, pm_Numbers_back_at, an_Numbers_back_at, cd_Numbers_back_at, ct_Numbers_back_at, l_Numbers_back_at, k_Numbers_back_at⟩ := c.def_ 31 (d := d_Numbers_back_at) rfl
  have F_Numbers_back_at := fun_mk (st := s_Numbers_back_at) l_Numbers_back_at k_Numbers_back_at ((He.meth_ok (c.fact 88 rfl)).kp)
  have b_Numbers_back_at := F_Numbers_back_at.binds (ps := P_Numbers_back_at) fun _ _ _ _ _ _ us hl => match us, hl with | [_, _], _ => rfl
  obtain ⟨oc_Numbers_back_enter, od_Numbers_back_enter, os_Numbers_back_enter, kV_Numbers_back_enter, dc_Numbers_back_enter, pm_Numbers_back_enter, an_Numbers_back_enter, cd_Numbers_back_enter, ct_Numbers_back_enter, l_Numbers_back_enter, k_Numbers_back_enter⟩ := c.def_ 32 (d := d_Numbers_back_enter) rfl
  have F_Numbers_back_enter := fun_mk (st := s_Numbers_back_enter) l_Numbers_back_enter k_Numbers_back_enter ((He.meth_ok (c.fact 89 rfl)).kp)
  have b_Numbers_back_enter := F_Numbers_back_enter.binds (ps := P_Numbers_back_enter) fun _ _ _ _ _ _ us hl => match us, hl with | [_, _], _ => rfl
  obtain ⟨oc_Numbers_back_note, od_Numbers_back_note, os_Numbers_back_note, kV_Numbers_back_note, dc_Numbers_back_note, pm_Numbers_back_note, an_Numbers_back_note, cd_Numbers_back_note, ct_Numbers_back_note, l_Numbers_back_note, k_Numbers_back_note⟩ := c.def_ 33 (d := d_Numbers_back_note) rfl
  have F_Numbers_back_note := fun_mk (st := s_Numbers_back_note) l_Numbers_back_note k_Numbers_back_note ((He.meth_ok (c.fact 90 rfl)).kp)
  have b_Numbers_back_note := F_Numbers_back_note.binds (ps := P_Numbers_back_note) fun _ _ _ _ _ _ us hl => match us, hl with | [_, _], _ => rfl
  obtain ⟨oc_Numbers_back_go, od_Numbers_back_go, os_Numbers_back_go, kV_Numbers_back_go, dc_Numbers_back_go, pm_Numbers_back_go, an_Numbers_back_go, cd_Numbers_back_go, ct_Numbers_back_go, l_Numbers_back_go, k_Numbers_back_go⟩ := c.def_ 34 (d := d_Numbers_back_go) rfl
  have F_Numbers_back_go := fun_mk (st := s_Numbers_back_go) l_Numbers_back_go k_Numbers_back_go ((He.meth_ok (c.fact 91 rfl)).kp)
  have b_Numbers_back_go := F_Numbers_back_go.binds (ps := P_Numbers_back_go) fun _ _ _ _ _ _ us hl => match us, hl with | [_, _], _ => rfl
  obtain ⟨oc_same, od_same, os_same, kV_same, dc_same, pm_same, an_same, cd_same, ct_same, l_same, k_same⟩ := c.def_ 35 (d := d_same) rfl
  have F_same := fun_mk (st := s_same) l_same k_same (He.keep_ok (c.fact 92 rfl))
  have b_same := F_same.binds (ps := P_same) fun _ _ _ _ _ _ us hl => match us, hl with | [_, _, _], _ => rfl
  obtain ⟨oc_forth, od_forth, os_forth, kV_forth, dc_forth, pm_forth, an_forth, cd_forth, ct_forth, l_forth, k_forth⟩ := c.def_ 36 (d := d_forth) rfl
  have F_forth := fun_mk (st := s_forth) l_forth k_forth (He.keep_ok (c.fact 94 rfl))
  have b_forth := F_forth.binds (ps := P_forth) fun _ _ _ _ _ _ us hl => match us, hl with | [_], _ => rfl
  obtain ⟨oc_copying, od_copying, os_copying, kV_copying, dc_copying, pm_copying, an_copying, cd_copying, ct_copying, l_copying, k_copying⟩ := c.def_ 37 (d := d_copying) rfl
  have F_copying := fun_mk (st := s_copying) l_copying k_copying (He.keep_ok (c.fact 96 rfl))
  have b_copying := F_copying.binds (ps := P_copying) fun _ _ _ _ _ _ us hl => match us, hl with | [_], _ => rfl
  obtain ⟨oc_back, od_back, os_back, kV_back, dc_back, pm_back, an_back, cd_back, ct_back, l_back, k_back⟩ := c.def_ 38 (d := d_back) rfl
  have F_back := fun_mk (st := s_back) l_back k_back (He.keep_ok (c.fact 98 rfl))
  have b_back := F_back.binds (ps := P_back) fun _ _ _ _ _ _ us hl => match us, hl with | [_], _ => rfl
  obtain ⟨oc_clean, od_clean, os_clean, kV_clean, dc_clean, pm_clean, an_clean, cd_clean, ct_clean, l_clean, k_clean⟩ := c.def_ 39 (d := d_clean) rfl
  have F_clean := fun_mk (st := s_clean) l_clean k_clean (He.keep_ok (c.fact 100 rfl))
  have b_clean := F_clean.binds (ps := P_clean) fun _ _ _ _ _ _ us hl => match us, hl with | [_], _ => rfl
  obtain ⟨oc_clean_begin, od_clean_begin, os_clean_begin, kV_clean_begin, dc_clean_begin, pm_clean_begin, an_clean_begin, cd_clean_begin, ct_clean_begin, l_clean_begin, k_clean_begin⟩ := c.def_ 40 (d := d_clean_begin) rfl
  have F_clean_begin := fun_mk (st := s_clean_begin) l_clean_begin k_clean_begin (He.keep_ok (c.fact 102 rfl))
  have b_clean_begin := F_clean_begin.binds (ps := P_clean_begin) fun _ _ _ _ _ _ us hl => match us, hl with | [_], _ => rfl
  obtain ⟨oc_clean_end, od_clean_end, os_clean_end, kV_clean_end, dc_clean_end, pm_clean_end, an_clean_end, cd_clean_end, ct_clean_end, l_clean_end, k_clean_end⟩ := c.def_ 41 (d := d_clean_end) rfl
  have F_clean_end := fun_mk (st := s_clean_end) l_clean_end k_clean_end (He.keep_ok (c.fact 104 rfl))
  have b_clean_end := F_clean_end.binds (ps := P_clean_end) fun _ _ _ _ _ _ us hl => match us, hl with | [_, _, _], _ => rfl
  obtain ⟨oc_shown, od_shown, os_shown, kV_shown, dc_shown, pm_shown, an_shown, cd_shown, ct_shown, l_shown, k_shown⟩ := c.def_ 42 (d := d_shown) rfl
  have F_shown := fun_mk (st := s_shown) l_shown k_shown (He.keep_ok (c.fact 106 rfl))
  have b_shown := F_shown.binds (ps := P_shown) fun _ _ _ _ _ _ us hl => match us, hl with | [_, _], _ => rfl
  obtain ⟨oc_lent, od_lent, os_lent, kV_lent, dc_lent, pm_lent, an_lent, cd_lent, ct_lent, l_lent, k_lent⟩ := c.def_ 43 (d := d_lent) rfl
  have F_lent := fun_mk (st := s_lent) l_lent k_lent (He.keep_ok (c.fact 108 rfl))
  have b_lent := F_lent.binds (ps := P_lent) fun _ _ _ _ _ _ us hl => match us, hl with | [_], _ => rfl
  obtain ⟨oc_law_draws, od_law_draws, os_law_draws, kV_law_draws, dc_law_draws, pm_law_draws, an_law_draws, cd_law_draws, ct_law_draws, l_law_draws, k_law_draws⟩ := c.def_ 44 (d := d_law_draws) rfl
  have F_law_draws := fun_mk (st := s_law_draws) l_law_draws k_law_draws (He.keep_ok (c.fact 110 rfl))
  have b_law_draws := F_law_draws.binds (ps := P_law_draws) fun _ _ _ _ _ _ us hl => match us, hl with | [_, _], _ => rfl
  obtain ⟨oc_law_machine, od_law_machine, os_law_machine, kV_law_machine, dc_law_machine, pm_law_machine, an_law_machine, cd_law_machine, ct_law_machine, l_law_machine, k_law_machine⟩ := c.def_ 45 (d := d_law_machine) rfl
  have F_law_machine := fun_mk (st := s_law_machine) l_law_machine k_law_machine (He.keep_ok (c.fact 112 rfl))
  have b_law_machine := F_law_machine.binds (ps := P_law_machine) fun _ _ _ _ _ _ us hl => match us, hl with | [_, _, _], _ => rfl
  obtain ⟨oc_law_trimmed, od_law_trimmed, os_law_trimmed, kV_law_trimmed, dc_law_trimmed, pm_law_trimmed, an_law_trimmed, cd_law_trimmed, ct_law_trimmed, l_law_trimmed, k_law_trimmed⟩ := c.def_ 46 (d := d_law_trimmed) rfl
  have F_law_trimmed := fun_mk (st := s_law_trimmed) l_law_trimmed k_law_trimmed (He.keep_ok (c.fact 114 rfl))
  have b_law_trimmed := F_law_trimmed.binds (ps := P_law_trimmed) fun _ _ _ _ _ _ us hl => match us, hl with | [_], _ => rfl
  obtain ⟨oc_law_configuration, od_law_configuration, os_law_configuration, kV_law_configuration, dc_law_configuration, pm_law_configuration, an_law_configuration, cd_law_configuration, ct_law_configuration, l_law_configuration, k_law_configuration⟩ := c.def_ 47 (d := d_law_configuration) rfl
  have F_law_configuration := fun_mk (st := s_law_configuration) l_law_configuration k_law_configuration (He.keep_ok (c.fact 116 rfl))
  have b_law_configuration := F_law_configuration.binds (ps := P_law_configuration) fun _ _ _ _ _ _ us hl => match us, hl with | [_, _, _, _], _ => rfl
  obtain ⟨oc_law_step, od_law_step, os_law_step, kV_law_step, dc_law_step, pm_law_step, an_law_step, cd_law_step, ct_law_step, l_law_step, k_law_step⟩ := c.def_ 48 (d := d_law_step) rfl
  have F_law_step := fun_mk (st := s_law_step) l_law_step k_law_step (He.keep_ok (c.fact 118 rfl))
  have b_law_step := F_law_step.binds (ps := P_law_step) fun _ _ _ _ _ _ us hl => match us, hl with | [_, _, _], _ => rfl
  obtain ⟨oc_law_notes, od_law_notes, os_law_notes, kV_law_notes, dc_law_notes, pm_law_notes, an_law_notes, cd_law_notes, ct_law_notes, l_law_notes, k_law_notes⟩ := c.def_ 49 (d := d_law_notes) rfl
  have F_law_notes := fun_mk (st := s_law_notes) l_law_notes k_law_notes (He.keep_ok (c.fact 120 rfl))
  have b_law_notes := F_law_notes.binds (ps := P_law_notes) fun _ _ _ _ _ _ us hl => match us, hl with | [_, _, _], _ => rfl
  obtain ⟨oc_law_answer, od_law_answer, os_law_answer, kV_law_answer, dc_law_answer, pm_law_answer, an_law_answer, cd_law_answer, ct_law_answer, l_law_answer, k_law_answer⟩ := c.def_ 50 (d := d_law_answer) rfl
  have F_law_answer := fun_mk (st := s_law_answer) l_law_answer k_law_answer (He.keep_ok (c.fact 122 rfl))
  have b_law_answer := F_law_answer.binds (ps := P_law_answer) fun _ _ _ _ _ _ us hl => match us, hl with | [_], _ => rfl
  obtain ⟨oc_law_off_the_run, od_law_off_the_run, os_law_off_the_run, kV_law_off_the_run, dc_law_off_the_run, pm_law_off_the_run, an_law_off_the_run, cd_law_off_the_run, ct_law_off_the_run, l_law_off_the_run, k_law_off_the_run⟩ := c.def_ 51 (d := d_law_off_the_run) rfl
  have F_law_off_the_run := fun_mk (st := s_law_off_the_run) l_law_off_the_run k_law_off_the_run (He.keep_ok (c.fact 124 rfl))
  have b_law_off_the_run := F_law_off_the_run.binds (ps := P_law_off_the_run) fun _ _ _ _ _ _ us hl => match us, hl with | [_, _, _, _], _ => rfl
  obtain ⟨oc_law, od_law, os_law, kV_law, dc_law, pm_law, an_law, cd_law, ct_law, l_law, k_law⟩ := c.def_ 52 (d := d_law) rfl
  have F_law := fun_mk (st := s_law) l_law k_law (He.keep_ok (c.fact 126 rfl))
  have b_law := F_law.binds (ps := P_law) fun _ _ _ _ _ _ us hl => match us, hl with | [_], _ => rfl
  refine ⟨{
    b_isinstance := He.free_ok X G (c.fact 0 rfl),
    b_int := He.free_ok X G (c.fact 1 rfl),
    b_bool := He.free_ok X G (c.fact 2 rfl),
    b_len := He.free_ok X G (c.fact 3 rfl),
    b_tuple := He.free_ok X G (c.fact 4 rfl),
    b_list := He.free_ok X G (c.fact 5 rfl),
    b_range := He.free_ok X G (c.fact 6 rfl),
    b_any := He.free_ok X G (c.fact 7 rfl),
    b_all := He.free_ok X G (c.fact 8 rfl),
    b_enumerate := He.free_ok X G (c.fact 9 rfl),
    b_zip := He.free_ok X G (c.fact 10 rfl),
    b_abs := He.free_ok X G (c.fact 11 rfl),
    t_MOST_MARKS_tape := t_MOST_MARKS_tape,
    c_MOST_MARKS_tape := c_MOST_MARKS_tape,
    t_MOST_STATES_tape := t_MOST_STATES_tape,
    c_MOST_STATES_tape := c_MOST_STATES_tape,
    t_MOST_TAPES := t_MOST_TAPES,
    c_MOST_TAPES := c_MOST_TAPES,
    t_MOST_MARKS_several := t_MOST_MARKS_several,
    c_MOST_MARKS_several := c_MOST_MARKS_several,
    t_MOST_STATES_several := t_MOST_STATES_several,
    c_MOST_STATES_several := c_MOST_STATES_several,
    t_MOST_ROWS := t_MOST_ROWS,
    c_MOST_ROWS := c_MOST_ROWS,
    t_COPYING := t_COPYING,
    c_COPYING := c_COPYING,
    C_Tape := He.ga K "Tape",
    cl_Tape := He.cls_ok (c.fact 19 rfl),
    g_Tape := He.glo_ok X G (c.fact 20 rfl),
    n_Tape_marks := He.noat_ok (c.fact 21 rfl),
    n_Tape_states := He.noat_ok (c.fact 22 rfl),
    n_Tape_rows := He.noat_ok (c.fact 23 rfl),
    C_Several := He.ga K "Several",
    cl_Several := He.cls_ok (c.fact 24 rfl),
    g_Several := He.glo_ok X G (c.fact 25 rfl),
    n_Several_tapes := He.noat_ok (c.fact 26 rfl),
    n_Several_marks := He.noat_ok (c.fact 27 rfl),
    n_Several_states := He.noat_ok (c.fact 28 rfl),
    n_Several_rows := He.noat_ok (c.fact 29 rfl),
    n_Several_back_clash := He.noat_ok (c.fact 30 rfl),
    n_Several_by_state := He.noat_ok (c.fact 31 rfl),
    n_Several_by_next := He.noat_ok (c.fact 32 rfl),
    C_Numbers := He.ga K "Numbers",
    cl_Numbers := He.cls_ok (c.fact 33 rfl),
    g_Numbers := He.glo_ok X G (c.fact 34 rfl),
    n_Numbers_machine := He.noat_ok (c.fact 35 rfl),
    n_Numbers_states := He.noat_ok (c.fact 36 rfl),
    n_Numbers_pairs := He.noat_ok (c.fact 37 rfl),
    n_Numbers_halt := He.noat_ok (c.fact 38 rfl),
    n_Numbers_undo := He.noat_ok (c.fact 39 rfl),
    n_Numbers_end := He.noat_ok (c.fact 40 rfl),
    is_integer := ⟨_, _, F_is_integer, b_is_integer, He.glo_ok X G (c.fact 42 rfl)⟩,
    trimmed := ⟨_, _, F_trimmed, b_trimmed, He.glo_ok X G (c.fact 44 rfl)⟩,
    Tape_init := ⟨_, _, F_Tape_init, b_Tape_init, He.mkr_ok (c.fact 45 rfl)⟩,
    Tape_is_row := ⟨_, _, F_Tape_is_row, b_Tape_is_row, He.meth_ok (c.fact 47 rfl)⟩,
    Tape_table := ⟨_, _, F_Tape_table, b_Tape_table, He.meth_ok (c.fact 48 rfl)⟩,
    Tape_row := ⟨_, _, F_Tape_row, b_Tape_row, He.meth_ok (c.fact 49 rfl)⟩,
    is_number := ⟨_, _, F_is_number, b_is_number, He.glo_ok X G (c.fact 51 rfl)⟩,
    is_tuple := ⟨_, _, F_is_tuple, b_is_tuple, He.glo_ok X G (c.fact 53 rfl)⟩,
    backward := ⟨_, _, F_backward, b_backward, He.glo_ok X G (c.fact 55 rfl)⟩,
    first_clash := ⟨_, _, F_first_clash, b_first_clash, He.glo_ok X G (c.fact 57 rfl)⟩,
    clash_among := ⟨_, _, F_clash_among, b_clash_among, He.glo_ok X G (c.fact 59 rfl)⟩,
    Several_init := ⟨_, _, F_Several_init, b_Several_init, He.mkr_ok (c.fact 60 rfl)⟩,
    Several_is_row := ⟨_, _, F_Several_is_row, b_Several_is_row, He.meth_ok (c.fact 62 rfl)⟩,
    Several_step := ⟨_, _, F_Several_step, b_Several_step, He.meth_ok (c.fact 63 rfl)⟩,
    Several_stopped := ⟨_, _, F_Several_stopped, b_Several_stopped, He.meth_ok (c.fact 64 rfl)⟩,
    Several_run := ⟨_, _, F_Several_run, b_Several_run, He.meth_ok (c.fact 65 rfl)⟩,
    Several_back := ⟨_, _, F_Several_back, b_Several_back, He.meth_ok (c.fact 66 rfl)⟩,
    Several_run_back := ⟨_, _, F_Several_run_back, b_Several_run_back, He.meth_ok (c.fact 67 rfl)⟩,
    Several_check_back := ⟨_, _, F_Several_check_back, b_Several_check_back, He.meth_ok (c.fact 68 rfl)⟩,
    table_of := ⟨_, _, F_table_of, b_table_of, He.glo_ok X G (c.fact 70 rfl)⟩,
    moved_tape := ⟨_, _, F_moved_tape, b_moved_tape, He.glo_ok X G (c.fact 72 rfl)⟩,
    taken := ⟨_, _, F_taken, b_taken, He.glo_ok X G (c.fact 74 rfl)⟩,
    run := ⟨_, _, F_run, b_run, He.glo_ok X G (c.fact 76 rfl)⟩,
    pairs_of := ⟨_, _, F_pairs_of, b_pairs_of, He.glo_ok X G (c.fact 78 rfl)⟩,
    answer_of := ⟨_, _, F_answer_of, b_answer_of, He.glo_ok X G (c.fact 80 rfl)⟩,
    Numbers_init := ⟨_, _, F_Numbers_init, b_Numbers_init, He.mkr_ok (c.fact 81 rfl)⟩,
    Numbers_enter := ⟨_, _, F_Numbers_enter, b_Numbers_enter, He.meth_ok (c.fact 83 rfl)⟩,
    Numbers_at := ⟨_, _, F_Numbers_at, b_Numbers_at, He.meth_ok (c.fact 84 rfl)⟩,
    Numbers_go := ⟨_, _, F_Numbers_go, b_Numbers_go, He.meth_ok (c.fact 85 rfl)⟩,
    Numbers_note := ⟨_, _, F_Numbers_note, b_Numbers_note, He.meth_ok (c.fact 86 rfl)⟩,
    Numbers_copying := ⟨_, _, F_Numbers_copying, b_Numbers_copying, He.meth_ok (c.fact 87 rfl)⟩,
    Numbers_back_at := ⟨_, _, F_Numbers_back_at, b_Numbers_back_at, He.meth_ok (c.fact 88 rfl)⟩,
    Numbers_back_enter := ⟨_, _, F_Numbers_back_enter, b_Numbers_back_enter, He.meth_ok (c.fact 89 rfl)⟩,
    Numbers_back_note := ⟨_, _, F_Numbers_back_note, b_Numbers_back_note, He.meth_ok (c.fact 90 rfl)⟩,
    Numbers_back_go := ⟨_, _, F_Numbers_back_go, b_Numbers_back_go, He.meth_ok (c.fact 91 rfl)⟩,
    same := ⟨_, _, F_same, b_same, He.glo_ok X G (c.fact 93 rfl)⟩,
    forth := ⟨_, _, F_forth, b_forth, He.glo_ok X G (c.fact 95 rfl)⟩,
    copying := ⟨_, _, F_copying, b_copying, He.glo_ok X G (c.fact 97 rfl)⟩,
    back := ⟨_, _, F_back, b_back, He.glo_ok X G (c.fact 99 rfl)⟩,
    clean := ⟨_, _, F_clean, b_clean, He.glo_ok X G (c.fact 101 rfl)⟩,
    clean_begin := ⟨_, _, F_clean_begin, b_clean_begin, He.glo_ok X G (c.fact 103 rfl)⟩,
    clean_end := ⟨_, _, F_clean_end, b_clean_end, He.glo_ok X G (c.fact 105 rfl)⟩,
    shown := ⟨_, _, F_shown, b_shown, He.glo_ok X G (c.fact 107 rfl)⟩,
    lent := ⟨_, _, F_lent, b_lent, He.glo_ok X G (c.fact 109 rfl)⟩,
    law_draws := ⟨_, _, F_law_draws, b_law_draws, He.glo_ok X G (c.fact 111 rfl)⟩,
    law_machine := ⟨_, _, F_law_machine, b_law_machine, He.glo_ok X G (c.fact 113 rfl)⟩,
    law_trimmed := ⟨_, _, F_law_trimmed, b_law_trimmed, He.glo_ok X G (c.fact 115 rfl)⟩,
    law_configuration := ⟨_, _, F_law_configuration, b_law_configuration, He.glo_ok X G (c.fact 117 rfl)⟩,
    law_step := ⟨_, _, F_law_step, b_law_step, He.glo_ok X G (c.fact 119 rfl)⟩,
    law_notes := ⟨_, _, F_law_notes, b_law_notes, He.glo_ok X G (c.fact 121 rfl)⟩,
    law_answer := ⟨_, _, F_law_answer, b_law_answer, He.glo_ok X G (c.fact 123 rfl)⟩,
    law_off_the_run := ⟨_, _, F_law_off_the_run, b_law_off_the_run, He.glo_ok X G (c.fact 125 rfl)⟩,
    law := ⟨_, _, F_law, b_law, He.glo_ok X G (c.fact 127 rfl)⟩ }, rfl, fun s v => ?_⟩
  exact .of_eq rfl
end BK
set_option maxRecDepth 100000
set_option maxHeartbeats 0
/-! ZB: the end. -/
namespace BK
open PySem PySem.Spec PyProof.Rows L2 DL CM
theorem facts {P : Program} {w : World} {K : PySem.W.Frag} {h : Heap} {mg : Str → Option Value} {f : Addr} (X : K.In h) (G : h.Ns mainGlobals mg) (hfa : mg ("law" : Str) = some (.ref f)) (c : He.SaysE hdF hdD K) :
    ∃ fd : FuncData, (∀ (s : Shared) (v : Value), BindsTo s fd ⟨[v], []⟩ [("_law_script", v)]) ∧ ∀ base : Heap, K.In base → base.Ns mainGlobals mg → FnOk P w K mg base CX0 7 f fd ["_law_script"] (spR (R_law K)) := by
  obtain ⟨T, _, hb⟩ := txt_mk X G c
  have e := hfa.symm.trans T.law.g
  cases e
  exact ⟨T.law.fd, hb, fun base _ _ => ok_law T⟩
theorem law_sp {K : PySem.W.Frag} {H : Hp} {a : Addr} {ns : List Int} (h : SqL K H a (ns.map V.int)) {E : XK} : spR (R_law K) [.ref a] H (fun v _ => v = .bl true) E :=
  ⟨H, [.ob (ScrAt K ns)], .d (.bool true), Evl.Ex.refl H, ⟨⟨ScrAt.mono, a, rfl, h⟩, trivial⟩, ⟨ns, rfl, rfl⟩, fun v B' H' g hv => by
    cases (show DD B' v (.bool true) from hv)
    rfl⟩
end BK
open PySem PySem.W PySem.Calls PyProof.Rows
theorem PySem.Challenge.cw_backstair_k26_whole_clean_runs_holds : PySem.Challenge.rw_backstair_k26_whole_clean_runs.Holds := by
  w_on; o_law
  refine HandSHeadRun.head_any (r := OpenLaw.row PySem.Challenge.rw_backstair_k26_whole_clean_runs) (q := view (OpenLaw.row PySem.Challenge.rw_backstair_k26_whole_clean_runs).prog [50]) (H := BK.hdK) (ob := BK.hdO) (M := 6000) (loose := BK.hdN) (d := HandSHeadRun.topDef (OpenLaw.row PySem.Challenge.rw_backstair_k26_whole_clean_runs).prog 50) (kwd := []) BK.hdO_eq
    (by kernel_rfl) (fun s => by kernel_rfl) BK.hd_run (by kernel_rfl) (by kernel_rfl) (by kernel_rfl) (by rfl) (by first | assumption | decide +kernel) (by decide +kernel) ⟨rfl, rfl, rfl, rfl, rfl, by decide +kernel⟩ ?hw ?hc
  case hw => w_witness2
  case hc =>
    refine L2.walk_ofE (l := PySem.Challenge.rw_backstair_k26_whole_clean_runs) (n := 63) (k := 7) (x := "_law_script") (CX := L2.CX0) rfl (by decide) (by kernel_rfl) ⟨rfl, by decide, by decide⟩ ?F (fun _ _ _ _ z => z)
    intro w mg fa h Y G hmg0
    obtain ⟨K, KX, c⟩ := Y
    have hmg : mg ("law" : PySem.Str) = some (.ref fa) := by
      have e : (HandSHeadRun.topDef (OpenLaw.row PySem.Challenge.rw_backstair_k26_whole_clean_runs).prog 50).name = ("law" : PySem.Str) := by kernel_rfl
      rw [← e]
      exact hmg0
    obtain ⟨fd, hb, hF⟩ := BK.facts (P := (PySem.Challenge.rw_backstair_k26_whole_clean_runs).prog) (w := w) KX G hmg c
    exact ⟨K, fd, DL.spR (BK.R_law K), KX, hb, fun H a ns hl _ hS => BK.law_sp hS, hF⟩
#print axioms PySem.Challenge.cw_backstair_k26_whole_clean_runs_holds
