import PyProof.Rows.All
import Wide.All
import OpenK.AllK
import Wide.FinOn
import HandS.ForMost
import HandS.Walk
import HandS.IsInst
import HandS.Zip
import HandS.TupLe
import HandS.Style
import HandS.TupAny
import HandS.TupMul
import KE.GoesEnum
import HandS.SetFor
import HandS.Strs
import HandS.Conv
import PySem.Challenge.RW_chainshapes_k01_whole_orders
set_option Elab.async false
set_option linter.all false
set_option maxRecDepth 100000
set_option maxHeartbeats 6000000
/-! A data layer over HandS: values stand for plain data (PyData); lists and dicts that a def owns are cells of its state. -/
namespace DL
open L2 PyProof.Rows PySem PySem.Spec

theorem sqt_same {K : PySem.W.Frag} {H H' : Hp} {a : Addr} {xs : List V} (e : Same H H') (h : SqT K H a xs) : SqT K H' a xs := by
  rcases h with (h | ⟨o, h⟩) | h
  · exact .inl (.inl (e _ _ h))
  · exact .inl (.inr ⟨o, e _ _ h⟩)
  · exact .inr h

mutual
theorem dp_same {K : PySem.W.Frag} {R R' : Hp} (e : Same R R') : ∀ {v : V} {d : PyData}, Dp K R v d → Dp K R' v d
  | _, _, .non => .non
  | _, _, .bl b => .bl b
  | _, _, .int i => .int i
  | _, _, .str x => .str x
  | _, _, .lst h a => .lst (e.seq h) (dps_same e a)
  | _, _, .tup h a => .tup (sqt_same e h) (dps_same e a)
theorem dps_same {K : PySem.W.Frag} {R R' : Hp} (e : Same R R') : ∀ {vs : List V} {ds : List PyData}, DpAll K R vs ds → DpAll K R' vs ds
  | _, _, .nil => .nil
  | _, _, .cons h t => .cons (dp_same e h) (dps_same e t)
end

section
variable {K : PySem.W.Frag} {R : Hp}
theorem dps_len : ∀ {vs : List V} {ds : List PyData}, DpAll K R vs ds → vs.length = ds.length
  | _, _, .nil => rfl
  | _, _, .cons _ t => by rw [List.length_cons, List.length_cons, dps_len t]
theorem dps_get : ∀ {vs : List V} {ds : List PyData} {i : Nat} {v : V}, DpAll K R vs ds → vs[i]? = some v → ∃ d, ds[i]? = some d ∧ Dp K R v d
  | _, _, _, _, .nil, h => by simp at h
  | _, _, 0, _, .cons h _, e => by simp at e; subst e; exact ⟨_, rfl, h⟩
  | _, _, i + 1, _, .cons _ t, e => by
    obtain ⟨d, h1, h2⟩ := dps_get (i := i) t (by simpa using e)
    exact ⟨d, by simpa using h1, h2⟩
theorem dps_get' : ∀ {vs : List V} {ds : List PyData} {i : Nat} {d : PyData}, DpAll K R vs ds → ds[i]? = some d → ∃ v, vs[i]? = some v ∧ Dp K R v d
  | _, _, _, _, .nil, h => by simp at h
  | _, _, 0, _, .cons h _, e => by simp at e; subst e; exact ⟨_, rfl, h⟩
  | _, _, i + 1, _, .cons _ t, e => by
    obtain ⟨d, h1, h2⟩ := dps_get' (i := i) t (by simpa using e)
    exact ⟨d, by simpa using h1, h2⟩
theorem dps_append : ∀ {vs us : List V} {ds es : List PyData}, DpAll K R vs ds → DpAll K R us es → DpAll K R (vs ++ us) (ds ++ es)
  | _, _, _, _, .nil, s => s
  | _, _, _, _, .cons h t, s => .cons h (dps_append t s)
theorem dps_take : ∀ {vs : List V} {ds : List PyData} (n : Nat), DpAll K R vs ds → DpAll K R (vs.take n) (ds.take n)
  | _, _, 0, _ => .nil
  | _, _, _ + 1, .nil => .nil
  | _, _, n + 1, .cons h t => .cons h (dps_take n t)
theorem dps_drop : ∀ {vs : List V} {ds : List PyData} (n : Nat), DpAll K R vs ds → DpAll K R (vs.drop n) (ds.drop n)
  | _, _, 0, t => t
  | _, _, _ + 1, .nil => .nil
  | _, _, n + 1, .cons _ t => dps_drop n t
theorem dps_set {v : V} {d : PyData} (hv : Dp K R v d) : ∀ {vs : List V} {ds : List PyData} (i : Nat), DpAll K R vs ds → DpAll K R (vs.set i v) (ds.set i d)
  | _, _, _, .nil => .nil
  | _, _, 0, .cons _ t => .cons hv t
  | _, _, i + 1, .cons h t => .cons h (dps_set hv i t)
theorem dps_rev : ∀ {vs : List V} {ds : List PyData}, DpAll K R vs ds → DpAll K R vs.reverse ds.reverse
  | _, _, .nil => .nil
  | _, _, .cons h t => by rw [List.reverse_cons, List.reverse_cons]; exact dps_append (dps_rev t) (.cons h .nil)
theorem dps_one {v : V} {d : PyData} (h : Dp K R v d) : DpAll K R [v] [d] := .cons h .nil
theorem dps_ints : ∀ {vs : List V} {ns : List Int}, DpAll K R vs (ns.map PyData.int) → vs = ns.map V.int
  | _, [], .nil => rfl
  | _, n :: ns, .cons h t => by
    cases h
    rw [List.map_cons, ← dps_ints t]
theorem dps_bools : ∀ {vs : List V} {ns : List Bool}, DpAll K R vs (ns.map PyData.bool) → vs = ns.map V.bl
  | _, [], .nil => rfl
  | _, n :: ns, .cons h t => by
    cases h
    rw [List.map_cons, ← dps_bools t]
theorem dps_strs : ∀ {vs : List V} {ns : List Str}, DpAll K R vs (ns.map PyData.str) → vs = ns.map V.str
  | _, [], .nil => rfl
  | _, n :: ns, .cons h t => by
    cases h
    rw [List.map_cons, ← dps_strs t]
theorem dps_of_ints : ∀ (ns : List Int), DpAll K R (ns.map V.int) (ns.map PyData.int)
  | [] => .nil
  | _ :: r => .cons (.int _) (dps_of_ints r)
theorem dps_of_strs : ∀ (ns : List Str), DpAll K R (ns.map V.str) (ns.map PyData.str)
  | [] => .nil
  | _ :: r => .cons (.str _) (dps_of_strs r)
end

/-! ### cells, slots, states -/
inductive Cel where
  | lst (ds : List PyData)
  | dic (kvs : List (Key × PyData))
  | dct (kvs : List (List Key × PyData))
  | gro (C dx q : Addr) (os : List PyData)
def Cel.fp : Cel → List Addr
  | .gro _ dx q _ => [dx, q]
  | _ => []
def KD {κ : Type} (K : PySem.W.Frag) (R : Hp) (vs : List (κ × V)) (kvs : List (κ × PyData)) : Prop := vs.map (·.1) = kvs.map (·.1) ∧ DpAll K R (vs.map (·.2)) (kvs.map (·.2))
def cok (K : PySem.W.Frag) (R H : Hp) (p : Addr) : Cel → Prop
  | .lst ds => ∃ vs, H p = some (.lst vs) ∧ DpAll K R vs ds
  | .dic kvs => ∃ vs, H p = some (.dK vs) ∧ KD K R vs kvs
  | .dct kvs => ∃ vs, H p = some (.dT vs) ∧ KD K R vs kvs
  | .gro C dx q os => H p = some (.ins C dx [("orders", .ref q)]) ∧ H dx = some (.own p) ∧ ∃ vs, H q = some (.lst vs) ∧ DpAll K R vs os
inductive Sl where
  | un
  | dat (d : PyData)
  | own (p : Addr) (c : Cel)
def slok (K : PySem.W.Frag) (R H : Hp) : Sl → Option (Option V) → Prop
  | .un, _ => True
  | .dat d, o => ∃ v, o = some (some v) ∧ Dp K R v d
  | .own p c, o => o = some (some (.ref p)) ∧ cok K R H p c
def owned : List Sl → List Addr
  | [] => []
  | .own p c :: r => (p :: c.fp) ++ owned r
  | .un :: r => owned r
  | .dat _ :: r => owned r
structure Ok (K : PySem.W.Frag) (R : Hp) (Γ : List Sl) (σ : L2.St) (H : Hp) : Prop where
  rh : Same R H
  len : Γ.length = σ.length
  sl : ∀ (i : Nat) s, Γ[i]? = some s → slok K R H s σ[i]?
  ow : ∀ p ∈ owned Γ, R p = none ∧ H p ≠ none
  nd : (owned Γ).Nodup
structure Step (R : Hp) (Γ : List Sl) (H : Hp) (R' : Hp) (Γ' : List Sl) (H' : Hp) : Prop where
  rr : Same R R'
  fr : ∀ b o, H b = some o → b ∉ owned Γ → H' b = some o
  al : ∀ b, H b ≠ none → H' b ≠ none
  gw : ∀ b, R b = none → H b ≠ none → b ∉ owned Γ → R' b = none
  ow : ∀ p ∈ owned Γ', p ∈ owned Γ ∨ H p = none
theorem Step.refl (R : Hp) (Γ : List Sl) (H : Hp) : Step R Γ H R Γ H := ⟨Same.refl R, fun _ _ h _ => h, fun _ h => h, fun _ h _ _ => h, fun _ h => .inl h⟩
theorem Step.trans {R R1 R2 : Hp} {Γ Γ1 Γ2 : List Sl} {H H1 H2 : Hp} (a : Step R Γ H R1 Γ1 H1) (b : Step R1 Γ1 H1 R2 Γ2 H2) : Step R Γ H R2 Γ2 H2 := by
  have key : ∀ c, H c ≠ none → c ∉ owned Γ → c ∉ owned Γ1 := fun c hc hn h1 => by
    rcases a.ow c h1 with h | h
    · exact hn h
    · exact hc h
  refine ⟨a.rr.trans b.rr, fun c o h hn => ?_, fun c h => b.al c (a.al c h), fun c h1 h2 h3 => ?_, fun p hp => ?_⟩
  · exact b.fr c o (a.fr c o h hn) (key c (by rw [h]; simp) hn)
  · exact b.gw c (a.gw c h1 h2 h3) (a.al c h2) (key c h2 h3)
  · rcases b.ow p hp with h | h
    · exact a.ow p h
    · refine .inr ?_
      cases q : H p with
      | none => rfl
      | some o => exact absurd h (a.al p (by rw [q]; simp))

theorem owned_mem {Γ : List Sl} : ∀ {p : Addr}, p ∈ owned Γ ↔ ∃ (i : Nat) (q : Addr) (c : Cel), Γ[i]? = some (.own q c) ∧ p ∈ q :: c.fp := by
  induction Γ with
  | nil => intro p; constructor
           · intro h; cases h
           · rintro ⟨i, q, c, h, _⟩; simp at h
  | cons s r ih =>
    intro p
    constructor
    · intro h
      cases s with
      | un => obtain ⟨i, q, c, h1, h2⟩ := ih.mp h; exact ⟨i + 1, q, c, by simpa using h1, h2⟩
      | dat d => obtain ⟨i, q, c, h1, h2⟩ := ih.mp h; exact ⟨i + 1, q, c, by simpa using h1, h2⟩
      | own q c =>
        have h' : p ∈ (q :: c.fp) ++ owned r := h
        rcases List.mem_append.mp h' with h' | h'
        · exact ⟨0, q, c, rfl, h'⟩
        · obtain ⟨i, q, c, h1, h2⟩ := ih.mp h'; exact ⟨i + 1, q, c, by simpa using h1, h2⟩
    · rintro ⟨i, q, c, h1, h2⟩
      cases i with
      | zero =>
        have e : s = .own q c := by simpa using h1
        subst e
        exact List.mem_append_left _ h2
      | succ i =>
        have h3 : p ∈ owned r := ih.mpr ⟨i, q, c, by simpa using h1, h2⟩
        cases s with
        | un => exact h3
        | dat d => exact h3
        | own q c => exact List.mem_append_right _ h3
theorem owned_at {Γ : List Sl} {i : Nat} {q : Addr} {c : Cel} (h : Γ[i]? = some (.own q c)) : q ∈ owned Γ := owned_mem.mpr ⟨i, q, c, h, List.mem_cons_self⟩

/-- what a slot's cell leans on -/
theorem cok_keep {K : PySem.W.Frag} {R R' H H' : Hp} {p : Addr} {c : Cel} (h : cok K R H p c) (e : Same R R') (k : ∀ q ∈ p :: c.fp, H' q = H q) : cok K R' H' p c := by
  have kp : H' p = H p := k p List.mem_cons_self
  cases c with
  | lst ds => obtain ⟨vs, a, b⟩ := h; exact ⟨vs, kp.trans a, dps_same e b⟩
  | dic kvs => obtain ⟨vs, a, b, c⟩ := h; exact ⟨vs, kp.trans a, b, dps_same e c⟩
  | dct kvs => obtain ⟨vs, a, b, c⟩ := h; exact ⟨vs, kp.trans a, b, dps_same e c⟩
  | gro C dx q os =>
    obtain ⟨a, b, vs, c, d⟩ := h
    exact ⟨kp.trans a, (k dx (by simp [Cel.fp])).trans b, vs, (k q (by simp [Cel.fp])).trans c, dps_same e d⟩

/-! ### results -/
inductive Rs where
  | dat (d : PyData)
  | new (c : Cel)
def rsok (K : PySem.W.Frag) (H R' : Hp) (Γ' : List Sl) (H' : Hp) : Rs → V → Prop
  | .dat d, v => Dp K R' v d
  | .new c, v => ∃ p, v = .ref p ∧ cok K R' H' p c ∧ (∀ q ∈ p :: c.fp, H q = none ∧ R' q = none ∧ H' q ≠ none ∧ q ∉ owned Γ') ∧ (p :: c.fp).Nodup
theorem none_back {H H1 : Hp} (al : ∀ b, H b ≠ none → H1 b ≠ none) {q : Addr} (h : H1 q = none) : H q = none := by
  cases e : H q with
  | none => rfl
  | some o => exact absurd h (al q (by rw [e]; simp))
theorem rsok_back {K : PySem.W.Frag} {H H1 R' H' : Hp} {Γ' : List Sl} {r : Rs} {v : V} (al : ∀ b, H b ≠ none → H1 b ≠ none) (h : rsok K H1 R' Γ' H' r v) : rsok K H R' Γ' H' r v := by
  cases r with
  | dat d => exact h
  | new c =>
    obtain ⟨p, e, c1, c2, c3⟩ := h
    exact ⟨p, e, c1, fun q hq => ⟨none_back al (c2 q hq).1, (c2 q hq).2⟩, c3⟩

/-! ### the judgements -/
theorem pe_mono {X : Cx} {e : Expr} {t t' : TE} (h : PE X e t) (m : ∀ σ H Q, t' σ H Q → t σ H Q) : PE X e t' := ⟨fun pins s σ H Q I q => h.run pins s σ H Q I (m σ H Q q)⟩
theorem pt_mono {X : Cx} {e : Expr} {t t' : TT} (h : PT X e t) (m : ∀ σ H Q, t' σ H Q → t σ H Q) : PT X e t' := ⟨fun pins s σ H Q I q => h.run pins s σ H Q I (m σ H Q q)⟩
theorem pa_mono {X : Cx} {e : List Expr} {t t' : TA} (h : PA X e t) (m : ∀ σ H Q, t' σ H Q → t σ H Q) : PA X e t' := ⟨fun pos pins s σ H Q I q => h.run pos pins s σ H Q I (m σ H Q q)⟩
theorem ps_mono {X : Cx} {e : Stmt} {t t' : TS} (h : PS X e t) (m : ∀ D σ H, t' D σ H → t D σ H) : PS X e t' := ⟨fun pins s σ H D I q => h.run pins s σ H D I (m D σ H q)⟩
theorem pss_mono {X : Cx} {e : List Stmt} {t t' : TS} (h : PSs X e t) (m : ∀ D σ H, t' D σ H → t D σ H) : PSs X e t' := ⟨fun pins s σ H D I q => h.run pins s σ H D I (m D σ H q)⟩

def tE (K : PySem.W.Frag) (Γ : List Sl) (r : Rs) (Γ' : List Sl) : TE := fun σ H Q => ∃ R, Ok K R Γ σ H ∧ ∀ v H' R', Step R Γ H R' Γ' H' → Ok K R' Γ' σ H' → rsok K H R' Γ' H' r v → Q v H'
def EJ (X : Cx) (Γ : List Sl) (e : Expr) (r : Rs) (Γ' : List Sl) : Prop := PE X e (tE X.K Γ r Γ')
def tT (K : PySem.W.Frag) (Γ : List Sl) (b : Bool) (Γ' : List Sl) : TT := fun σ H Q => ∃ R, Ok K R Γ σ H ∧ ∀ H' R', Step R Γ H R' Γ' H' → Ok K R' Γ' σ H' → Q b H'
def TJ (X : Cx) (Γ : List Sl) (e : Expr) (b : Bool) (Γ' : List Sl) : Prop := PT X e (tT X.K Γ b Γ')
/-- arguments that are data -/
def tD (K : PySem.W.Frag) (Γ : List Sl) (xs : List PyData) (Γ' : List Sl) : TA := fun σ H Q => ∃ R, Ok K R Γ σ H ∧ ∀ vs H' R', Step R Γ H R' Γ' H' → Ok K R' Γ' σ H' → DpAll K R' vs xs → Q vs H'
def DJ (X : Cx) (Γ : List Sl) (es : List Expr) (xs : List PyData) (Γ' : List Sl) : Prop := PA X es (tD X.K Γ xs Γ')

/-- what a value-level operation may do -/
structure Gw (R H R' H' : Hp) : Prop where
  hh : Same H H'
  rr : Same R R'
  rh : Same R' H'
  gw : ∀ b, R b = none → H b ≠ none → R' b = none
theorem Gw.refl {R H : Hp} (rh : Same R H) : Gw R H R H := ⟨Same.refl H, Same.refl R, rh, fun _ h _ => h⟩
theorem same_new {H : Hp} {p : Addr} {o : HO} (h : H p = none) : Same H (upd H p o) := fun b x e => by
  rw [upd_ne (ne_of_none e h)]
  exact e
theorem same_none {R H : Hp} (rh : Same R H) {p : Addr} (h : H p = none) : R p = none := Same.free rh h
/-- a new frozen object -/
theorem Gw.new {R H : Hp} (rh : Same R H) {p : Addr} {o : HO} (h : H p = none) : Gw R H (upd R p o) (upd H p o) := by
  refine ⟨same_new h, same_new (same_none rh h), fun b x e => ?_, fun b h1 h2 => ?_⟩
  · by_cases hb : b = p
    · subst hb; rw [upd_same] at e ⊢; exact e
    · rw [upd_ne hb] at e ⊢; exact rh b x e
  · have : b ≠ p := fun z => by subst z; exact h2 h
    rw [upd_ne this]; exact h1
/-- a new object, not frozen -/
theorem Gw.newH {R H : Hp} (rh : Same R H) {p : Addr} {o : HO} (h : H p = none) : Gw R H R (upd H p o) :=
  ⟨same_new h, Same.refl R, rh.trans (same_new h), fun _ h1 _ => h1⟩
theorem same_al {H H' : Hp} (e : Same H H') (b : Addr) (h : H b ≠ none) : H' b ≠ none := by
  cases q : H b with
  | none => exact absurd q h
  | some o => rw [e b o q]; simp
theorem Gw.trans {R H R1 H1 R2 H2 : Hp} (a : Gw R H R1 H1) (b : Gw R1 H1 R2 H2) : Gw R H R2 H2 :=
  ⟨a.hh.trans b.hh, a.rr.trans b.rr, b.rh, fun c h1 h2 => b.gw c (a.gw c h1 h2) (same_al a.hh c h2)⟩
theorem Ok.grow {K : PySem.W.Frag} {R H R' H' : Hp} {Γ : List Sl} {σ : L2.St} (o : Ok K R Γ σ H) (g : Gw R H R' H') : Ok K R' Γ σ H' := by
  refine ⟨g.rh, o.len, fun i s h => ?_, fun p hp => ⟨g.gw p (o.ow p hp).1 (o.ow p hp).2, same_al g.hh p (o.ow p hp).2⟩, o.nd⟩
  have q := o.sl i s h
  cases s with
  | un => trivial
  | dat d => obtain ⟨v, a, b⟩ := q; exact ⟨v, a, dp_same g.rr b⟩
  | own p c =>
    refine ⟨q.1, cok_keep q.2 g.rr fun x hx => ?_⟩
    have hm : x ∈ owned Γ := owned_mem.mpr ⟨i, p, c, h, hx⟩
    cases e : H x with
    | none => exact absurd e (o.ow x hm).2
    | some o' => exact g.hh x o' e
theorem Gw.step {R H R' H' : Hp} {Γ : List Sl} (g : Gw R H R' H') : Step R Γ H R' Γ H' :=
  ⟨g.rr, fun b o h _ => g.hh b o h, fun b h => same_al g.hh b h, fun b h1 h2 _ => g.gw b h1 h2, fun _ h => .inl h⟩

/-- what is told of a value-level result -/
def rs0 (K : PySem.W.Frag) (H R' H' : Hp) : Rs → V → Prop
  | .dat d, v => Dp K R' v d
  | .new c, v => ∃ p, v = .ref p ∧ cok K R' H' p c ∧ H p = none ∧ R' p = none ∧ c.fp = []
def VO (K : PySem.W.Frag) (R H : Hp) (r : Rs) (Q : VK) : Prop := ∀ w R' H', Gw R H R' H' → rs0 K H R' H' r w → Q w H'
theorem cok_ne {K : PySem.W.Frag} {R H : Hp} {p : Addr} {c : Cel} (h : cok K R H p c) : H p ≠ none := by
  cases c with
  | lst ds => obtain ⟨vs, a, _⟩ := h; rw [a]; simp
  | dic ds => obtain ⟨vs, a, _⟩ := h; rw [a]; simp
  | dct ds => obtain ⟨vs, a, _⟩ := h; rw [a]; simp
  | gro C dx q ds => obtain ⟨a, _⟩ := h; rw [a]; simp
theorem rs_of {K : PySem.W.Frag} {R H R' H' : Hp} {Γ : List Sl} {σ : L2.St} {r : Rs} {v : V} (o : Ok K R Γ σ H) (g : Gw R H R' H') (h : rs0 K H R' H' r v) : rsok K H R' Γ H' r v := by
  cases r with
  | dat d => exact h
  | new c =>
    obtain ⟨p, e, c1, c2, c3, c4⟩ := h
    refine ⟨p, e, c1, fun q hq => ?_, by rw [c4]; simp⟩
    have hq' : q = p := by rw [c4] at hq; simpa using hq
    subst hq'
    exact ⟨c2, c3, cok_ne c1, fun hm => (o.ow q hm).2 c2⟩
def OpD (K : PySem.W.Frag) (r : R2) (x y : PyData) (z : Rs) : Prop := ∀ (v u : V) (R H : Hp) (Q : VK), Same R H → Dp K R v x → Dp K R u y → VO K R H z Q → r v u H Q
def UnD (K : PySem.W.Frag) (r : V → Hp → VK → Prop) (x : PyData) (z : Rs) : Prop := ∀ (v : V) (R H : Hp) (Q : VK), Same R H → Dp K R v x → VO K R H z Q → r v H Q
def CallD (K : PySem.W.Frag) (r : List V → Hp → VK → Prop) (xs : List PyData) (z : Rs) : Prop := ∀ (vs : List V) (R H : Hp) (Q : VK), Same R H → DpAll K R vs xs → VO K R H z Q → r vs H Q
def MtD (K : PySem.W.Frag) (r : V → List V → Hp → VK → Prop) (x : PyData) (xs : List PyData) (z : Rs) : Prop := ∀ (v : V) (vs : List V) (R H : Hp) (Q : VK), Same R H → Dp K R v x → DpAll K R vs xs → VO K R H z Q → r v vs H Q

section
variable {X : Cx} {Γ Γ1 Γ2 Γ3 : List Sl} {a b c e : Expr} {es : List Expr} {pos p : Pos} {x y z : Str}

theorem tE_fin {K : PySem.W.Frag} {R H R1 H1 : Hp} {σ : L2.St} {r : Rs} {Q : VK} (s : Step R Γ H R1 Γ1 H1) (o : Ok K R1 Γ1 σ H1) (k : ∀ v H' R', Step R Γ H R' Γ1 H' → Ok K R' Γ1 σ H' → rsok K H R' Γ1 H' r v → Q v H') : VO K R1 H1 r Q := fun w R' H' g h =>
  k w H' R' (s.trans g.step) (o.grow g) (rsok_back s.al (rs_of o g h))

theorem ej_var {i : Nat} {d : PyData} (hN : X.N[i]? = some x) (hv : Vis X.env.scope x) (hΓ : Γ[i]? = some (.dat d)) (hd : (x == ("__debug__" : Str)) = false := by decide) (hcd : (x == ("__classdict__" : Str)) = false := by decide) : EJ X Γ (.Name x pos) (.dat d) Γ :=
  pe_mono (pe_var hN hv hd hcd) fun σ H Q h => by
    obtain ⟨R, o, k⟩ := h
    obtain ⟨v, e, q⟩ := o.sl i _ hΓ
    exact ⟨v, e, k v H R (Step.refl _ _ _) o q⟩
theorem ej_c {v : V} {d : PyData} (h : PE X e (tC v)) (hd : ∀ R, Dp X.K R v d) : EJ X Γ e (.dat d) Γ := pe_mono h fun σ H Q h => by
    obtain ⟨R, o, k⟩ := h
    exact k v H R (Step.refl _ _ _) o (hd R)
theorem ej_int {i : Int} {j} : EJ X Γ (.Constant (.int i) j pos) (.dat (.int i)) Γ := ej_c pe_int fun _ => .int i
theorem ej_bl {i : Bool} {j} : EJ X Γ (.Constant (.bool i) j pos) (.dat (.bool i)) Γ := ej_c pe_bl fun _ => .bl i
theorem ej_str {i : Str} {j} : EJ X Γ (.Constant (.str i) j pos) (.dat (.str i)) Γ := ej_c pe_str fun _ => .str i
theorem ej_non {j} : EJ X Γ (.Constant .none j pos) (.dat .none) Γ := ej_c pe_non fun _ => .non

theorem ej_bin {op : Operator} {r : R2} {d1 d2 : PyData} {z : Rs} (ho : OpR X (binaryOp op) r) (hd : OpD X.K r d1 d2 z) (ha : EJ X Γ a (.dat d1) Γ1) (hb : EJ X Γ1 b (.dat d2) Γ2) : EJ X Γ (.BinOp a op b pos) z Γ2 :=
  pe_mono (pe_op ho ha hb) fun σ H Q h => by
    obtain ⟨R, o, k⟩ := h
    refine ⟨R, o, fun v H1 R1 s1 o1 q1 => ⟨R1, o1, fun u H2 R2 s2 o2 q2 => hd v u R2 H2 Q o2.rh (dp_same s2.rr q1) q2 (tE_fin (s1.trans s2) o2 k)⟩⟩
theorem ej_cmp {op : CmpOp} {r : R2} {d1 d2 : PyData} {z : Rs} (ho : OpR X (compareOp op) r) (hd : OpD X.K r d1 d2 z) (ha : EJ X Γ a (.dat d1) Γ1) (hb : EJ X Γ1 b (.dat d2) Γ2) (hm : behindInMarks op b = false) : EJ X Γ (.Compare a [op] [b] pos) z Γ2 :=
  pe_mono (pe_cmpR ho ha hb hm) fun σ H Q h => by
    obtain ⟨R, o, k⟩ := h
    refine ⟨R, o, fun v H1 R1 s1 o1 q1 => ⟨R1, o1, fun u H2 R2 s2 o2 q2 => hd v u R2 H2 Q o2.rh (dp_same s2.rr q1) q2 (tE_fin (s1.trans s2) o2 k)⟩⟩
theorem tj_cmp {op : CmpOp} {r : R2} {d1 d2 : PyData} {k0 : Bool} (ho : OpR X (compareOp op) r) (hd : OpD X.K r d1 d2 (.dat (.bool k0))) (ha : EJ X Γ a (.dat d1) Γ1) (hb : EJ X Γ1 b (.dat d2) Γ2) (hm : behindInMarks op b = false) : TJ X Γ (.Compare a [op] [b] pos) k0 Γ2 :=
  pt_mono (pt_cmpR ho ha hb hm) fun σ H Q h => by
    obtain ⟨R, o, k⟩ := h
    refine ⟨R, o, fun v H1 R1 s1 o1 q1 => ⟨R1, o1, fun u H2 R2 s2 o2 q2 => hd v u R2 H2 _ o2.rh (dp_same s2.rr q1) q2 fun w R' H' g hw => ?_⟩⟩
    cases (show Dp X.K R' w (.bool k0) from hw)
    exact ⟨k0, rfl, k H' R' ((s1.trans s2).trans g.step) (o2.grow g)⟩
theorem tj_val {b0 : Bool} (h : EJ X Γ e (.dat (.bool b0)) Γ1) (he : ∀ whole, isTrue e X.env whole = (do let v ← whole; standAt e.pos; holding [v] (truthy v)) := by intro _; rfl) : TJ X Γ e b0 Γ1 :=
  pt_mono (pt_val h he) fun σ H Q h => by
    obtain ⟨R, o, k⟩ := h
    refine ⟨R, o, fun v H1 R1 s1 o1 q1 => ?_⟩
    cases (show Dp X.K R1 v (.bool b0) from q1)
    exact ⟨b0, rfl, k H1 R1 s1 o1⟩
theorem tj_not {b0 : Bool} (h : TJ X Γ e b0 Γ1) : TJ X Γ (.UnaryOp .Not e pos) (!b0) Γ1 := pt_mono (pt_not h) fun σ H Q h => by
    obtain ⟨R, o, k⟩ := h
    exact ⟨R, o, fun H1 R1 s1 o1 => k H1 R1 s1 o1⟩
/-- a test whatever its whole is -/
def WJt (X : Cx) (Γ : List Sl) (e : Expr) (b : Bool) (Γ' : List Sl) : Prop := PW X e (tT X.K Γ b Γ')
theorem pw_mono {t t' : TT} (h : PW X e t) (m : ∀ σ H Q, t' σ H Q → t σ H Q) : PW X e t' := ⟨fun whole pins s σ H Q I q => h.run whole pins s σ H Q I (m σ H Q q)⟩
theorem tj_w {b0 : Bool} (h : WJt X Γ e b0 Γ1) : TJ X Γ e b0 Γ1 := PW.pt h
theorem wj_and1 {b0 : Bool} (h : TJ X Γ e b0 Γ1) : WJt X Γ (.BoolOp .And [e] pos) b0 Γ1 := pw_and1 h
theorem wj_or1 {b0 : Bool} (h : TJ X Γ e b0 Γ1) : WJt X Γ (.BoolOp .Or [e] pos) b0 Γ1 := pw_or1 h
theorem wj_never {e : Expr} : PW X e (fun _ _ _ => False) := ⟨fun _ _ _ _ _ _ _ h => h.elim⟩
/-- a and ..: the rest is asked where a holds -/
theorem wj_and {b1 b2 : Bool} (ha : TJ X Γ a b1 Γ1) (hb : b1 = true → WJt X Γ1 (.BoolOp .And (b :: es) pos) b2 Γ2) (hΓ : b1 = false → Γ2 = Γ1 := by intro _; rfl) : WJt X Γ (.BoolOp .And (a :: b :: es) pos) (b1 && b2) Γ2 := by
  cases b1 with
  | true =>
    refine pw_mono (pw_and ha (hb rfl)) fun σ H Q h => ?_
    obtain ⟨R, o, k⟩ := h
    refine ⟨R, o, fun H1 R1 s1 o1 => ?_⟩
    show tT X.K Γ1 b2 Γ2 σ H1 Q
    exact ⟨R1, o1, fun H2 R2 s2 o2 => k H2 R2 (s1.trans s2) o2⟩
  | false =>
    have e := hΓ rfl
    subst e
    refine pw_mono (pw_and ha wj_never) fun σ H Q h => ?_
    obtain ⟨R, o, k⟩ := h
    refine ⟨R, o, fun H1 R1 s1 o1 => ?_⟩
    show Q false H1
    exact k H1 R1 s1 o1
theorem wj_or {b1 b2 : Bool} (ha : TJ X Γ a b1 Γ1) (hb : b1 = false → WJt X Γ1 (.BoolOp .Or (b :: es) pos) b2 Γ2) (hΓ : b1 = true → Γ2 = Γ1 := by intro _; rfl) : WJt X Γ (.BoolOp .Or (a :: b :: es) pos) (b1 || b2) Γ2 := by
  cases b1 with
  | false =>
    refine pw_mono (pw_or ha (hb rfl)) fun σ H Q h => ?_
    obtain ⟨R, o, k⟩ := h
    refine ⟨R, o, fun H1 R1 s1 o1 => ?_⟩
    show tT X.K Γ1 b2 Γ2 σ H1 Q
    exact ⟨R1, o1, fun H2 R2 s2 o2 => k H2 R2 (s1.trans s2) o2⟩
  | true =>
    have e := hΓ rfl
    subst e
    refine pw_mono (pw_or ha wj_never) fun σ H Q h => ?_
    obtain ⟨R, o, k⟩ := h
    refine ⟨R, o, fun H1 R1 s1 o1 => ?_⟩
    show Q true H1
    exact k H1 R1 s1 o1
/-! the same as values -/
theorem ej_one {op} {r : Rs} (h : EJ X Γ a r Γ1) : EJ X Γ (.BoolOp op [a] pos) r Γ1 := pe_one h
theorem pe_never {e : Expr} : PE X e (fun _ _ _ => False) := ⟨fun _ _ _ _ _ _ h => h.elim⟩
theorem ej_and {b1 b2 : Bool} (ha : EJ X Γ a (.dat (.bool b1)) Γ1) (hb : b1 = true → EJ X Γ1 (.BoolOp .And (b :: es) pos) (.dat (.bool b2)) Γ2) (hΓ : b1 = false → Γ2 = Γ1 := by intro _; rfl) : EJ X Γ (.BoolOp .And (a :: b :: es) pos) (.dat (.bool (b1 && b2))) Γ2 := by
  cases b1 with
  | true =>
    refine pe_mono (pe_and ha (hb rfl)) fun σ H Q h => ?_
    obtain ⟨R, o, k⟩ := h
    refine ⟨R, o, fun v H1 R1 s1 o1 q1 => ?_⟩
    cases (show Dp X.K R1 v (.bool true) from q1)
    refine ⟨true, rfl, ?_⟩
    show tE X.K Γ1 (.dat (.bool b2)) Γ2 σ H1 Q
    exact ⟨R1, o1, fun u H2 R2 s2 o2 q2 => k u H2 R2 (s1.trans s2) o2 q2⟩
  | false =>
    have e := hΓ rfl
    subst e
    refine pe_mono (pe_and ha pe_never) fun σ H Q h => ?_
    obtain ⟨R, o, k⟩ := h
    refine ⟨R, o, fun v H1 R1 s1 o1 q1 => ?_⟩
    cases (show Dp X.K R1 v (.bool false) from q1)
    exact ⟨false, rfl, k _ H1 R1 s1 o1 q1⟩
theorem ej_or {b1 b2 : Bool} (ha : EJ X Γ a (.dat (.bool b1)) Γ1) (hb : b1 = false → EJ X Γ1 (.BoolOp .Or (b :: es) pos) (.dat (.bool b2)) Γ2) (hΓ : b1 = true → Γ2 = Γ1 := by intro _; rfl) : EJ X Γ (.BoolOp .Or (a :: b :: es) pos) (.dat (.bool (b1 || b2))) Γ2 := by
  cases b1 with
  | false =>
    refine pe_mono (pe_or ha (hb rfl)) fun σ H Q h => ?_
    obtain ⟨R, o, k⟩ := h
    refine ⟨R, o, fun v H1 R1 s1 o1 q1 => ?_⟩
    cases (show Dp X.K R1 v (.bool false) from q1)
    refine ⟨false, rfl, ?_⟩
    show tE X.K Γ1 (.dat (.bool b2)) Γ2 σ H1 Q
    exact ⟨R1, o1, fun u H2 R2 s2 o2 q2 => k u H2 R2 (s1.trans s2) o2 q2⟩
  | true =>
    have e := hΓ rfl
    subst e
    refine pe_mono (pe_or ha pe_never) fun σ H Q h => ?_
    obtain ⟨R, o, k⟩ := h
    refine ⟨R, o, fun v H1 R1 s1 o1 q1 => ?_⟩
    cases (show Dp X.K R1 v (.bool true) from q1)
    exact ⟨true, rfl, k _ H1 R1 s1 o1 q1⟩
theorem ej_not {b1 : Bool} (ha : EJ X Γ a (.dat (.bool b1)) Γ1) : EJ X Γ (.UnaryOp .Not a pos) (.dat (.bool (!b1))) Γ1 := pe_mono (pe_not ha) fun σ H Q h => by
    obtain ⟨R, o, k⟩ := h
    refine ⟨R, o, fun v H1 R1 s1 o1 q1 => ?_⟩
    cases (show Dp X.K R1 v (.bool b1) from q1)
    exact ⟨b1, rfl, k _ H1 R1 s1 o1 (.bl _)⟩
theorem ej_un {op : UnaryOp} {r : V → Hp → VK → Prop} {d1 : PyData} {z : Rs} (ho : UnR X (unaryOp op) r) (hd : UnD X.K r d1 z) (ha : EJ X Γ a (.dat d1) Γ1) : EJ X Γ (.UnaryOp op a pos) z Γ1 :=
  pe_mono (pe_un ho ha) fun σ H Q h => by
    obtain ⟨R, o, k⟩ := h
    exact ⟨R, o, fun v H1 R1 s1 o1 q1 => hd v R1 H1 Q o1.rh q1 (tE_fin s1 o1 k)⟩
/-- a if c else b -/
theorem ej_if {b0 : Bool} {r : Rs} (hc : TJ X Γ c b0 Γ1) (ha : b0 = true → EJ X Γ1 a r Γ2) (hb : b0 = false → EJ X Γ1 b r Γ2) : EJ X Γ (.IfExp c a b pos) r Γ2 := by
  cases b0 with
  | true =>
    refine pe_mono (pe_ifExp hc (ha rfl) pe_never) fun σ H Q h => ?_
    obtain ⟨R, o, k⟩ := h
    refine ⟨R, o, fun H1 R1 s1 o1 => ?_⟩
    show tE X.K Γ1 r Γ2 σ H1 Q
    exact ⟨R1, o1, fun u H2 R2 s2 o2 q2 => k u H2 R2 (s1.trans s2) o2 (rsok_back s1.al q2)⟩
  | false =>
    refine pe_mono (pe_ifExp hc pe_never (hb rfl)) fun σ H Q h => ?_
    obtain ⟨R, o, k⟩ := h
    refine ⟨R, o, fun H1 R1 s1 o1 => ?_⟩
    show tE X.K Γ1 r Γ2 σ H1 Q
    exact ⟨R1, o1, fun u H2 R2 s2 o2 q2 => k u H2 R2 (s1.trans s2) o2 (rsok_back s1.al q2)⟩
/-- a op b op' c, ints say -/
theorem ej_chain {op op' : CmpOp} {r r' : R2} {d1 d2 d3 : PyData} {k1 k2 : Bool} (ho : OpR X (compareOp op) r) (ho' : OpR X (compareOp op') r') (hd : OpD X.K r d1 d2 (.dat (.bool k1))) (hd' : OpD X.K r' d2 d3 (.dat (.bool k2)))
    (ha : EJ X Γ a (.dat d1) Γ) (hb : EJ X Γ b (.dat d2) Γ) (hc : EJ X Γ c (.dat d3) Γ) (hm : lastMarks [op, op'] [b, c] = false := by with_unfolding_all rfl) : EJ X Γ (.Compare a [op, op'] [b, c] pos) (.dat (.bool (k1 && k2))) Γ :=
  pe_mono (pe_chain ho ho' ha hb hc hm) fun σ H Q h => by
    obtain ⟨R, o, k⟩ := h
    refine ⟨R, o, fun v H1 R1 s1 o1 q1 => ⟨R1, o1, fun u H2 R2 s2 o2 q2 => hd v u R2 H2 _ o2.rh (dp_same s2.rr q1) q2 fun w R3 H3 g hw => ?_⟩⟩
    cases (show Dp X.K R3 w (.bool k1) from hw)
    have o3 := o2.grow g
    have s3 := (s1.trans s2).trans g.step
    refine ⟨k1, rfl, ?_⟩
    cases k1 with
    | true =>
      rw [if_pos rfl]
      exact ⟨R3, o3, fun u' H4 R4 s4 o4 q4 => hd' u u' R4 H4 Q o4.rh (dp_same s4.rr (dp_same g.rr q2)) q4 (tE_fin (s3.trans s4) o4 k)⟩
    | false =>
      rw [if_neg Bool.false_ne_true]
      exact k _ H3 R3 s3 o3 (.bl _)
theorem tj_chain {op op' : CmpOp} {r r' : R2} {d1 d2 d3 : PyData} {k1 k2 : Bool} (ho : OpR X (compareOp op) r) (ho' : OpR X (compareOp op') r') (hd : OpD X.K r d1 d2 (.dat (.bool k1))) (hd' : OpD X.K r' d2 d3 (.dat (.bool k2)))
    (ha : EJ X Γ a (.dat d1) Γ) (hb : EJ X Γ b (.dat d2) Γ) (hc : EJ X Γ c (.dat d3) Γ) (hm : lastMarks [op, op'] [b, c] = false := by with_unfolding_all rfl) : TJ X Γ (.Compare a [op, op'] [b, c] pos) (k1 && k2) Γ :=
  pt_mono (pt_chain ho ho' ha hb hc hm) fun σ H Q h => by
    obtain ⟨R, o, k⟩ := h
    refine ⟨R, o, fun v H1 R1 s1 o1 q1 => ⟨R1, o1, fun u H2 R2 s2 o2 q2 => hd v u R2 H2 _ o2.rh (dp_same s2.rr q1) q2 fun w R3 H3 g hw => ?_⟩⟩
    cases (show Dp X.K R3 w (.bool k1) from hw)
    have o3 := o2.grow g
    have s3 := (s1.trans s2).trans g.step
    refine ⟨k1, rfl, ?_⟩
    cases k1 with
    | true =>
      rw [if_pos rfl]
      refine ⟨R3, o3, fun u' H4 R4 s4 o4 q4 => hd' u u' R4 H4 _ o4.rh (dp_same s4.rr (dp_same g.rr q2)) q4 fun w5 R5 H5 g5 hw5 => ?_⟩
      cases (show Dp X.K R5 w5 (.bool k2) from hw5)
      exact ⟨k2, rfl, k H5 R5 ((s3.trans s4).trans g5.step) (o4.grow g5)⟩
    | false =>
      rw [if_neg Bool.false_ne_true]
      exact ⟨false, rfl, k H3 R3 s3 o3⟩

/-! ### arguments, calls, displays -/
theorem dj_nil : DJ X Γ [] [] Γ := pa_mono pa_nil fun σ H Q h => by
  obtain ⟨R, o, k⟩ := h
  exact k [] H R (Step.refl _ _ _) o .nil
theorem dj_cons {d : PyData} {ds : List PyData} (ha : EJ X Γ e (.dat d) Γ1) (hr : DJ X Γ1 es ds Γ2) (hs : starEach (e :: es) X.env = (false, eval e X.env) :: starEach es X.env := by rfl) : DJ X Γ (e :: es) (d :: ds) Γ2 :=
  pa_mono (pa_cons ha hr hs) fun σ H Q h => by
    obtain ⟨R, o, k⟩ := h
    exact ⟨R, o, fun v H1 R1 s1 o1 q1 => ⟨R1, o1, fun us H2 R2 s2 o2 q2 => k _ H2 R2 (s1.trans s2) o2 (.cons (dp_same s2.rr q1) q2)⟩⟩
theorem ej_callB {id : String} {r : List V → Hp → VK → Prop} {xs : List PyData} {z : Rs} (hc : CallR X (.builtin id) r) (hd : CallD X.K r xs z) (hg : Gl X x) (hm : X.mg x = none) (hv : bootBuiltins x = some (.builtin id)) (ha : DJ X Γ (e :: es) xs Γ1)
    (hn : x ≠ "__name__" := by decide) (hdb : (x == ("__debug__" : Str)) = false := by decide)
    (he : starEach (e :: es) X.env = (false, eval e X.env) :: starEach es X.env := by rfl) (hpl : (backTo pos (starEach es X.env)).any (·.1) = false := by rfl) : EJ X Γ (.Call (.Name x p) (e :: es) [] pos) z Γ1 :=
  pe_mono (pe_callB hc hg hm hv ha hn hdb he hpl) fun σ H Q h => by
    obtain ⟨R, o, k⟩ := h
    exact ⟨R, o, fun vs H1 R1 s1 o1 q1 => hd vs R1 H1 Q o1.rh q1 (tE_fin s1 o1 k)⟩
theorem ej_callTy {T : String} {r : List V → Hp → VK → Prop} {xs : List PyData} {z : Rs} (hc : CallR X (.type T) r) (hd : CallD X.K r xs z) (hg : Gl X x) (hm : X.mg x = none) (hv : bootBuiltins x = some (.type T)) (ha : DJ X Γ (e :: es) xs Γ1)
    (hn : x ≠ "__name__" := by decide) (hdb : (x == ("__debug__" : Str)) = false := by decide)
    (he : starEach (e :: es) X.env = (false, eval e X.env) :: starEach es X.env := by rfl) (hpl : (backTo pos (starEach es X.env)).any (·.1) = false := by rfl) : EJ X Γ (.Call (.Name x p) (e :: es) [] pos) z Γ1 :=
  pe_mono (pe_callTy hc hg hm hv ha hn hdb he hpl) fun σ H Q h => by
    obtain ⟨R, o, k⟩ := h
    exact ⟨R, o, fun vs H1 R1 s1 o1 q1 => hd vs R1 H1 Q o1.rh q1 (tE_fin s1 o1 k)⟩
theorem vo_tup {K : PySem.W.Frag} {R H : Hp} {vs : List V} {ds : List PyData} {Q : VK} (rh : Same R H) (h : DpAll K R vs ds) (k : VO K R H (.dat (.tuple ds)) Q) : ∀ p, H p = none → Q (.ref p) (upd H p (.tup vs)) := fun p hp =>
  k _ _ _ (Gw.new rh hp) (.tup (SqT.of upd_same) (dps_same (same_new (same_none rh hp)) h))
theorem vo_lst {K : PySem.W.Frag} {R H : Hp} {vs : List V} {ds : List PyData} {Q : VK} (rh : Same R H) (h : DpAll K R vs ds) (k : VO K R H (.new (.lst ds)) Q) : ∀ p, H p = none → Q (.ref p) (upd H p (.lst vs)) := fun p hp =>
  k _ _ _ (Gw.newH rh hp) ⟨p, rfl, ⟨vs, upd_same, h⟩, hp, same_none rh hp, rfl⟩
theorem ej_tup {ds : List PyData} {x1} (h : DJ X Γ es ds Γ1) (hl : ds.length ≤ sizeLine := by decide) : EJ X Γ (.Tuple es x1 pos) (.dat (.tuple ds)) Γ1 :=
  pe_mono (pe_tup h) fun σ H Q h => by
    obtain ⟨R, o, k⟩ := h
    exact ⟨R, o, fun vs H1 R1 s1 o1 q1 => ⟨by rw [dps_len q1]; exact hl, vo_tup o1.rh q1 (tE_fin s1 o1 k)⟩⟩
theorem ej_lst {ds : List PyData} (h : DJ X Γ es ds Γ1) (hl : ds.length ≤ sizeLine := by decide) : EJ X Γ (.List es pos) (.new (.lst ds)) Γ1 :=
  pe_mono (pe_lst h) fun σ H Q h => by
    obtain ⟨R, o, k⟩ := h
    exact ⟨R, o, fun vs H1 R1 s1 o1 q1 => ⟨by rw [dps_len q1]; exact hl, vo_lst o1.rh q1 (tE_fin s1 o1 k)⟩⟩
/-- a new list, frozen -/
theorem ej_frz {ds : List PyData} (h : EJ X Γ e (.new (.lst ds)) Γ1) : EJ X Γ e (.dat (.list ds)) Γ1 := pe_mono h fun σ H Q h => by
    obtain ⟨R, o, k⟩ := h
    refine ⟨R, o, fun v H1 R1 s1 o1 q1 => ?_⟩
    obtain ⟨p, rfl, ⟨vs, hp, hd⟩, hq, _⟩ := q1
    obtain ⟨h0, hr, _, hno⟩ := hq p List.mem_cons_self
    have sr : Same R1 (upd R1 p (.lst vs)) := same_new hr
    refine k _ H1 (upd R1 p (.lst vs)) ⟨s1.rr.trans sr, s1.fr, s1.al, fun b h1 h2 h3 => ?_, s1.ow⟩ ⟨fun b u e => ?_, o1.len, fun i s e => ?_, fun q hq => ?_, o1.nd⟩ (.lst (SqL.of upd_same) (dps_same sr hd))
    · have : b ≠ p := fun z => by subst z; exact h2 h0
      rw [upd_ne this]; exact s1.gw b h1 h2 h3
    · by_cases hb : b = p
      · subst hb; rw [upd_same] at e; rw [← e]; exact hp
      · rw [upd_ne hb] at e; exact o1.rh b u e
    · have q := o1.sl i s e
      cases s with
      | un => trivial
      | dat d => obtain ⟨v, a, b⟩ := q; exact ⟨v, a, dp_same sr b⟩
      | own q' c => exact ⟨q.1, cok_keep q.2 sr fun _ _ => rfl⟩
    · have : q ≠ p := fun z => hno (z ▸ hq)
      rw [upd_ne this]; exact o1.ow q hq
theorem ej_is {r r' : Rs} (h : EJ X Γ e r Γ1) (hr : r = r') : EJ X Γ e r' Γ1 := hr ▸ h
theorem tj_is {r r' : Bool} (h : TJ X Γ e r Γ1) (hr : r = r') : TJ X Γ e r' Γ1 := hr ▸ h
end
end DL

/-! The data layer: statements, loops, comprehensions, defs. -/
namespace DL
open L2 PyProof.Rows PySem PySem.Spec

/-! ### slots set -/
theorem owned_set_dat {s : Sl} (hs : owned [s] = []) : ∀ (Γ : List Sl) (i : Nat), (owned (Γ.set i s)).Sublist (owned Γ)
  | [], _ => by simp [owned]
  | a :: r, 0 => by
    show (owned (s :: r)).Sublist (owned (a :: r))
    have e : owned (s :: r) = owned r := by
      cases s with
      | un => rfl
      | dat d => rfl
      | own p c => simp [owned] at hs
    rw [e]
    cases a with
    | un => exact List.Sublist.refl _
    | dat d => exact List.Sublist.refl _
    | own p c => exact List.sublist_append_right _ _
  | a :: r, i + 1 => by
    show (owned (a :: r.set i s)).Sublist (owned (a :: r))
    cases a with
    | un => exact owned_set_dat hs r i
    | dat d => exact owned_set_dat hs r i
    | own p c => exact List.Sublist.append (List.Sublist.refl _) (owned_set_dat hs r i)
theorem owned_set_mem {q p : Addr} {c : Cel} : ∀ {Γ : List Sl} {i : Nat}, q ∈ owned (Γ.set i (.own p c)) → q ∈ owned Γ ∨ q ∈ p :: c.fp
  | [], _, h => by simp [owned] at h
  | a :: r, 0, h => by
    have h' : q ∈ (p :: c.fp) ++ owned r := h
    rcases List.mem_append.mp h' with h' | h'
    · exact .inr h'
    · left
      cases a with
      | un => exact h'
      | dat d => exact h'
      | own p c => exact List.mem_append_right _ h'
  | a :: r, i + 1, h => by
    have h' : q ∈ owned (a :: r.set i (.own p c)) := h
    cases a with
    | un => exact owned_set_mem (Γ := r) (i := i) h'
    | dat d => exact owned_set_mem (Γ := r) (i := i) h'
    | own p' c' =>
      rcases List.mem_append.mp (show q ∈ (p' :: c'.fp) ++ owned (r.set i (.own p c)) from h') with h2 | h2
      · exact .inl (List.mem_append_left _ h2)
      · rcases owned_set_mem (Γ := r) (i := i) h2 with h3 | h3
        · exact .inl (List.mem_append_right _ h3)
        · exact .inr h3
theorem owned_set_nd {p : Addr} {c : Cel} (h1 : (p :: c.fp).Nodup) : ∀ {Γ : List Sl} {i : Nat}, (owned Γ).Nodup → (∀ q ∈ p :: c.fp, q ∉ owned Γ) → (owned (Γ.set i (.own p c))).Nodup
  | [], _, _, _ => by simp [owned]
  | a :: r, 0, h2, h3 => by
    show ((p :: c.fp) ++ owned r).Nodup
    have hr : (owned r).Nodup := by
      cases a with
      | un => exact h2
      | dat d => exact h2
      | own p c => exact (List.nodup_append.mp h2).2.1
    refine List.nodup_append.mpr ⟨h1, hr, fun x hx y hy e => ?_⟩
    subst e
    refine h3 x hx ?_
    cases a with
    | un => exact hy
    | dat d => exact hy
    | own p c => exact List.mem_append_right _ hy
  | a :: r, i + 1, h2, h3 => by
    show (owned (a :: r.set i (.own p c))).Nodup
    cases a with
    | un => exact owned_set_nd h1 (Γ := r) h2 h3
    | dat d => exact owned_set_nd h1 (Γ := r) h2 h3
    | own p' c' =>
      have h2' := List.nodup_append.mp (show ((p' :: c'.fp) ++ owned r).Nodup from h2)
      refine List.nodup_append.mpr ⟨h2'.1, owned_set_nd h1 (Γ := r) h2'.2.1 (fun q hq z => h3 q hq (List.mem_append_right _ z)), fun x hx y hy e => ?_⟩
      subst e
      rcases owned_set_mem (Γ := r) (i := i) hy with h4 | h4
      · exact h2'.2.2 x hx x h4 rfl
      · exact h3 x h4 (List.mem_append_left _ hx)
theorem owned_set_eq {p : Addr} {c c' : Cel} (hf : c'.fp = c.fp) : ∀ {Γ : List Sl} {i : Nat}, Γ[i]? = some (.own p c) → owned (Γ.set i (.own p c')) = owned Γ
  | [], _, h => by simp at h
  | a :: r, 0, h => by
    have e : a = .own p c := by simpa using h
    subst e
    show (p :: c'.fp) ++ owned r = (p :: c.fp) ++ owned r
    rw [hf]
  | a :: r, i + 1, h => by
    have ih := owned_set_eq hf (Γ := r) (i := i) (by simpa using h)
    show owned (a :: r.set i (.own p c')) = owned (a :: r)
    cases a with
    | un => exact ih
    | dat d => exact ih
    | own p' c'' => show (p' :: c''.fp) ++ owned (r.set i (.own p c')) = (p' :: c''.fp) ++ owned r; rw [ih]

section
variable {K : PySem.W.Frag} {R R' H H' : Hp} {Γ Γ' : List Sl} {σ σ' : L2.St} {i : Nat}
theorem Ok.set_dat {v : V} {d : PyData} (o : Ok K R Γ σ H) (h : Dp K R v d) : Ok K R (Γ.set i (.dat d)) (σ.set i (some v)) H := by
  have sub := owned_set_dat (s := .dat d) rfl Γ i
  refine ⟨o.rh, by rw [List.length_set, List.length_set]; exact o.len, fun j s hj => ?_, fun p hp => o.ow p (sub.subset hp), sub.nodup o.nd⟩
  rw [List.getElem?_set] at hj ⊢
  by_cases e : i = j
  · subst e
    rw [if_pos rfl] at hj ⊢
    by_cases hl : i < Γ.length
    · rw [if_pos hl] at hj
      rw [if_pos (by rw [← o.len]; exact hl)]
      cases hj
      exact ⟨v, rfl, h⟩
    · rw [if_neg hl] at hj
      cases hj
  · rw [if_neg e] at hj ⊢
    exact o.sl j s hj
/-- a slot forgotten -/
theorem Ok.set_un (o : Ok K R Γ σ H) {u : Option V} : Ok K R (Γ.set i .un) (σ.set i u) H := by
  have sub := owned_set_dat (s := .un) rfl Γ i
  refine ⟨o.rh, by rw [List.length_set, List.length_set]; exact o.len, fun j s hj => ?_, fun p hp => o.ow p (sub.subset hp), sub.nodup o.nd⟩
  rw [List.getElem?_set] at hj ⊢
  by_cases e : i = j
  · subst e
    rw [if_pos rfl] at hj
    by_cases hl : i < Γ.length
    · rw [if_pos hl] at hj
      cases hj
      trivial
    · rw [if_neg hl] at hj
      cases hj
  · rw [if_neg e] at hj ⊢
    exact o.sl j s hj
theorem Ok.set_own {p : Addr} {c : Cel} (o : Ok K R Γ σ H) (h : cok K R H p c) (hq : ∀ q ∈ p :: c.fp, R q = none ∧ H q ≠ none ∧ q ∉ owned Γ) (hn : (p :: c.fp).Nodup) : Ok K R (Γ.set i (.own p c)) (σ.set i (some (.ref p))) H := by
  refine ⟨o.rh, by rw [List.length_set, List.length_set]; exact o.len, fun j s hj => ?_, fun q hp => ?_, owned_set_nd hn o.nd fun q z => (hq q z).2.2⟩
  · rw [List.getElem?_set] at hj ⊢
    by_cases e : i = j
    · subst e
      rw [if_pos rfl] at hj ⊢
      by_cases hl : i < Γ.length
      · rw [if_pos hl] at hj
        rw [if_pos (by rw [← o.len]; exact hl)]
        cases hj
        exact ⟨rfl, h⟩
      · rw [if_neg hl] at hj
        cases hj
    · rw [if_neg e] at hj ⊢
      exact o.sl j s hj
  · rcases owned_set_mem hp with h2 | h2
    · exact o.ow q h2
    · exact ⟨(hq q h2).1, (hq q h2).2.1⟩
/-- a result goes to a slot -/
def Sl.is : Rs → Addr → Sl
  | .dat d, _ => .dat d
  | .new c, p => .own p c
theorem Ok.set_rs {H0 : Hp} {r : Rs} {v : V} (o : Ok K R Γ σ H) (h : rsok K H0 R Γ H r v) : ∃ p, Ok K R (Γ.set i (Sl.is r p)) (σ.set i (some v)) H ∧ ∀ q ∈ owned (Γ.set i (Sl.is r p)), q ∈ owned Γ ∨ H0 q = none := by
  cases r with
  | dat d => exact ⟨0, o.set_dat h, fun q hq => .inl ((owned_set_dat (s := .dat d) rfl Γ i).subset hq)⟩
  | new c =>
    obtain ⟨p, rfl, c1, c2, c3⟩ := h
    refine ⟨p, o.set_own c1 (fun q hq => ⟨(c2 q hq).2.1, (c2 q hq).2.2.1, (c2 q hq).2.2.2⟩) c3, fun q hq => ?_⟩
    rcases owned_set_mem hq with h2 | h2
    · exact .inl h2
    · exact .inr (c2 q h2).1
theorem Step.to (s : Step R Γ H R' Γ' H') {Γ2 : List Sl} (h : ∀ q ∈ owned Γ2, q ∈ owned Γ' ∨ H q = none) : Step R Γ H R' Γ2 H' :=
  ⟨s.rr, s.fr, s.al, s.gw, fun q hq => (h q hq).elim (fun z => s.ow q z) .inr⟩
/-- what is not owned, not frozen may change -/
theorem Ok.aside {p : Addr} {u : HO} (o : Ok K R Γ σ H) (hr : R p = none) (hn : p ∉ owned Γ) : Ok K R Γ σ (upd H p u) := by
  have ne : ∀ q ∈ owned Γ, q ≠ p := fun q hq z => hn (z ▸ hq)
  refine ⟨fun b x e => ?_, o.len, fun j s hj => ?_, fun q hq => ⟨(o.ow q hq).1, ?_⟩, o.nd⟩
  · rw [upd_ne (ne_of_none e hr)]; exact o.rh b x e
  · have q := o.sl j s hj
    cases s with
    | un => trivial
    | dat d => exact q
    | own q' c => exact ⟨q.1, cok_keep q.2 (Same.refl R) fun x hx => upd_ne (ne x (owned_mem.mpr ⟨j, q', c, hj, hx⟩))⟩
  · rw [upd_ne (ne q hq)]; exact (o.ow q hq).2
/-- an owned cell changes -/
theorem Ok.mut {p : Addr} {c c' : Cel} {u : HO} (o : Ok K R Γ σ H) (hi : Γ[i]? = some (.own p c)) (hf : c.fp = []) (hf' : c'.fp = []) (hc : cok K R (upd H p u) p c') :
    Ok K R (Γ.set i (.own p c')) σ (upd H p u) ∧ Step R Γ H R (Γ.set i (.own p c')) (upd H p u) := by
  have hp : p ∈ owned Γ := owned_at hi
  obtain ⟨hr, hh⟩ := o.ow p hp
  have eo : owned (Γ.set i (.own p c')) = owned Γ := owned_set_eq (by rw [hf, hf']) hi
  have one : ∀ (j : Nat) q c0, Γ[j]? = some (.own q c0) → j ≠ i → ∀ x ∈ q :: c0.fp, x ≠ p := fun j q c0 hj hne x hx z => by
    subst z
    have key : ∀ (G : List Sl) (j i : Nat) (q : Addr) (c0 : Cel), (owned G).Nodup → G[j]? = some (.own q c0) → G[i]? = some (.own x c) → x ∈ q :: c0.fp → j = i := by
      intro G
      induction G with
      | nil => intro j i q c0 _ h; simp at h
      | cons a r ih =>
        intro j i q c0 nd h1 h2 h3
        have ndr : (owned r).Nodup := by
          cases a with
          | un => exact nd
          | dat d => exact nd
          | own p c => exact (List.nodup_append.mp nd).2.1
        cases j with
        | zero =>
          cases i with
          | zero => rfl
          | succ i =>
            have e1 : a = .own q c0 := by simpa using h1
            subst e1
            have h2' : x ∈ owned r := owned_at (i := i) (by simpa using h2)
            exact absurd rfl ((List.nodup_append.mp (show ((q :: c0.fp) ++ owned r).Nodup from nd)).2.2 x h3 x h2')
        | succ j =>
          cases i with
          | zero =>
            have e1 : a = .own x c := by simpa using h2
            subst e1
            have h2' : x ∈ owned r := owned_mem.mpr ⟨j, q, c0, by simpa using h1, h3⟩
            exact absurd rfl ((List.nodup_append.mp (show ((x :: c.fp) ++ owned r).Nodup from nd)).2.2 x List.mem_cons_self x h2')
          | succ i => rw [ih j i q c0 ndr (by simpa using h1) (by simpa using h2) h3]
    exact hne (key Γ j i q c0 o.nd hj hi hx)
  refine ⟨⟨fun b x e => ?_, by rw [List.length_set]; exact o.len, fun j s hj => ?_, fun q hq => ?_, by rw [eo]; exact o.nd⟩, ⟨Same.refl R, fun b x e hb => ?_, fun b hb => ?_, fun _ h _ _ => h, fun q hq => .inl (by rw [eo] at hq; exact hq)⟩⟩
  · rw [upd_ne (ne_of_none e hr)]; exact o.rh b x e
  · rw [List.getElem?_set] at hj
    by_cases e : i = j
    · subst e
      have hl : i < Γ.length := (List.getElem?_eq_some_iff.mp hi).1
      rw [if_pos rfl, if_pos hl] at hj
      cases hj
      exact ⟨(o.sl i _ hi).1, hc⟩
    · rw [if_neg e] at hj
      have q := o.sl j s hj
      cases s with
      | un => trivial
      | dat d => exact q
      | own q' c0 => exact ⟨q.1, cok_keep q.2 (Same.refl R) fun x hx => upd_ne (one j q' c0 hj (fun z => e z.symm) x hx)⟩
  · rw [eo] at hq
    refine ⟨(o.ow q hq).1, ?_⟩
    by_cases e : q = p
    · subst e; rw [upd_same]; simp
    · rw [upd_ne e]; exact (o.ow q hq).2
  · rw [upd_ne (fun (z : b = p) => hb (by rw [z]; exact hp))]; exact e
  · by_cases e : b = p
    · subst e; rw [upd_same]; simp
    · rw [upd_ne e]; exact hb
end

/-! ### statements -/
structure Kt where
  nx : List Sl → Prop := fun _ => False
  rt : Rs → List Sl → Prop := fun _ _ => False
  bk : List Sl → Prop := fun _ => False
  ct : List Sl → Prop := fun _ => False
structure Real (K : PySem.W.Frag) (k : Kt) (R : Hp) (Γ : List Sl) (H : Hp) (D : Ends) : Prop where
  nx : ∀ Γ' σ' H' R', k.nx Γ' → Step R Γ H R' Γ' H' → Ok K R' Γ' σ' H' → D.nx σ' H'
  rt : ∀ r Γ' v σ' H' R', k.rt r Γ' → Step R Γ H R' Γ' H' → Ok K R' Γ' σ' H' → rsok K H R' Γ' H' r v → D.rt v H'
  bk : ∀ Γ' σ' H' R', k.bk Γ' → Step R Γ H R' Γ' H' → Ok K R' Γ' σ' H' → D.bk σ' H'
  ct : ∀ Γ' σ' H' R', k.ct Γ' → Step R Γ H R' Γ' H' → Ok K R' Γ' σ' H' → D.ct σ' H'
theorem Real.step {K : PySem.W.Frag} {k : Kt} {R R1 : Hp} {Γ Γ1 : List Sl} {H H1 : Hp} {D : Ends} (r : Real K k R Γ H D) (s : Step R Γ H R1 Γ1 H1) : Real K k R1 Γ1 H1 D :=
  ⟨fun Γ' σ' H' R' a b c => r.nx Γ' σ' H' R' a (s.trans b) c, fun q Γ' v σ' H' R' a b c d => r.rt q Γ' v σ' H' R' a (s.trans b) c (rsok_back s.al d), fun Γ' σ' H' R' a b c => r.bk Γ' σ' H' R' a (s.trans b) c, fun Γ' σ' H' R' a b c => r.ct Γ' σ' H' R' a (s.trans b) c⟩
def tB (K : PySem.W.Frag) (Γ : List Sl) (k : Kt) : TS := fun D σ H => ∃ R, Ok K R Γ σ H ∧ Real K k R Γ H D
def SJ (X : Cx) (Γ : List Sl) (st : Stmt) (k : Kt) : Prop := PS X st (tB X.K Γ k)
def BJ (X : Cx) (Γ : List Sl) (sts : List Stmt) (k : Kt) : Prop := PSs X sts (tB X.K Γ k)
section
variable {X : Cx} {Γ Γ1 Γ2 Γ3 : List Sl} {a b c e tg iter : Expr} {es : List Expr} {st : Stmt} {sts rest body A B : List Stmt} {pos p : Pos} {x y z : Str} {k : Kt}
theorem bj_nil (h : k.nx Γ) : BJ X Γ [] k := pss_mono pss_nil fun D σ H q => by
  obtain ⟨R, o, r⟩ := q
  exact r.nx Γ σ H R h (Step.refl _ _ _) o
/-- a statement, what it leads to, the rest -/
theorem bj_cons (N : List Sl → Prop) (h1 : SJ X Γ st { k with nx := N }) (h2 : ∀ Γ', N Γ' → BJ X Γ' rest k) : BJ X Γ (st :: rest) k := by
  have hr : PSs X rest (fun D σ H => ∃ R Γ', N Γ' ∧ Ok X.K R Γ' σ H ∧ Real X.K k R Γ' H D) := ⟨fun pins s σ H D I q => by
    obtain ⟨R, Γ', hN, o, r⟩ := q
    exact (h2 Γ' hN).run pins s σ H D I ⟨R, o, r⟩⟩
  refine pss_mono (pss_cons h1 hr) fun D σ H q => ?_
  obtain ⟨R, o, r⟩ := q
  exact ⟨R, o, ⟨fun Γ' σ' H' R' hN s' o' => ⟨R', Γ', hN, o', r.step s'⟩, r.rt, r.bk, r.ct⟩⟩
theorem bj_one (h1 : SJ X Γ st k) : BJ X Γ [st] k := bj_cons k.nx h1 fun _ h => bj_nil h
theorem sj_mono {k' : Kt} (h : SJ X Γ st k) (hn : ∀ G, k.nx G → k'.nx G) (hr : ∀ r G, k.rt r G → k'.rt r G) (hb : ∀ G, k.bk G → k'.bk G) (hc : ∀ G, k.ct G → k'.ct G) : SJ X Γ st k' := ps_mono h fun D σ H q => by
  obtain ⟨R, o, r⟩ := q
  exact ⟨R, o, ⟨fun G _ _ _ z => r.nx G _ _ _ (hn G z), fun q G _ _ _ _ z => r.rt q G _ _ _ _ (hr q G z), fun G _ _ _ z => r.bk G _ _ _ (hb G z), fun G _ _ _ z => r.ct G _ _ _ (hc G z)⟩⟩
theorem sj_pass (h : k.nx Γ) : SJ X Γ (.Pass pos) k := ps_mono ps_pass fun D σ H q => by
  obtain ⟨R, o, r⟩ := q
  exact r.nx Γ σ H R h (Step.refl _ _ _) o
theorem sj_break (h : k.bk Γ) : SJ X Γ (.Break pos) k := ps_mono ps_break fun D σ H q => by
  obtain ⟨R, o, r⟩ := q
  exact r.bk Γ σ H R h (Step.refl _ _ _) o
theorem sj_continue (h : k.ct Γ) : SJ X Γ (.Continue pos) k := ps_mono ps_continue fun D σ H q => by
  obtain ⟨R, o, r⟩ := q
  exact r.ct Γ σ H R h (Step.refl _ _ _) o
theorem sj_ret {r : Rs} (he : EJ X Γ e r Γ1) (h : k.rt r Γ1) : SJ X Γ (.Return (some e) pos) k := ps_mono (ps_ret he) fun D σ H q => by
  obtain ⟨R, o, r⟩ := q
  exact ⟨R, o, fun v H' R' s' o' q' => r.rt _ Γ1 v σ H' R' h s' o' q'⟩
theorem bj_ret {r : Rs} (he : EJ X Γ e r Γ1) (h : k.rt r Γ1) : BJ X Γ (.Return (some e) pos :: rest) k := bj_cons (fun _ => False) (sj_ret he h) fun _ h => h.elim
theorem sj_expr {r : Rs} (he : EJ X Γ e r Γ1) (h : k.nx Γ1) (hs : swapsWith e none pos.line X.env = pure false := by rfl) : SJ X Γ (.Expr e pos) k := ps_mono (ps_expr he hs) fun D σ H q => by
  obtain ⟨R, o, r⟩ := q
  exact ⟨R, o, fun v H' R' s' o' _ => r.nx Γ1 σ H' R' h s' o'⟩
theorem bj_expr {r : Rs} (he : EJ X Γ e r Γ1) (h : BJ X Γ1 rest k) (hs : swapsWith e none pos.line X.env = pure false := by rfl) : BJ X Γ (.Expr e pos :: rest) k :=
  bj_cons (fun G => G = Γ1) (sj_expr he rfl hs) fun _ e => e ▸ h
/-- x = e -/
theorem sj_set {i : Nat} {r : Rs} {pos' : Pos} (hN : X.N.Nodup) (hi : X.N[i]? = some x) (hx : Loc X.env.scope x) (he : EJ X Γ e r Γ1) (h : ∀ p, k.nx (Γ1.set i (Sl.is r p)))
    (hs : swapsWith e (some (.Name x pos')) pos.line X.env = pure false := by rfl) (hf : X.fn x = true ∨ X.env.scope.names.lookup x = some .local := by first | exact .inl rfl | exact .inr rfl | assumption) : SJ X Γ (.Assign [.Name x pos'] e pos) k :=
  ps_mono (ps_set hN hi hx he hs hf) fun D σ H q => by
    obtain ⟨R, o, q⟩ := q
    refine ⟨R, o, fun v H' R' s' o' q' => ?_⟩
    obtain ⟨p, o2, w⟩ := o'.set_rs (i := i) q'
    exact q.nx _ _ H' R' (h p) (s'.to w) o2
theorem bj_set {i : Nat} {r : Rs} {pos' : Pos} (hN : X.N.Nodup) (hi : X.N[i]? = some x) (hx : Loc X.env.scope x) (he : EJ X Γ e r Γ1) (h : ∀ p, BJ X (Γ1.set i (Sl.is r p)) rest k)
    (hs : swapsWith e (some (.Name x pos')) pos.line X.env = pure false := by rfl) (hf : X.fn x = true ∨ X.env.scope.names.lookup x = some .local := by first | exact .inl rfl | exact .inr rfl | assumption) : BJ X Γ (.Assign [.Name x pos'] e pos :: rest) k :=
  bj_cons (fun G => ∃ p, G = Γ1.set i (Sl.is r p)) (sj_set hN hi hx he (fun p => ⟨p, rfl⟩) hs hf) fun _ ⟨p, e⟩ => e ▸ h p
/-- if -/
theorem sj_if {b0 : Bool} (hc : TJ X Γ c b0 Γ1) (ha : b0 = true → BJ X Γ1 A k) (hb : b0 = false → BJ X Γ1 B k) : SJ X Γ (.If c A B pos) k := by
  cases b0 with
  | true =>
    refine ps_mono (ps_if hc (ha rfl) (pss_never (sts := B))) fun D σ H q => ?_
    obtain ⟨R, o, q⟩ := q
    refine ⟨R, o, fun H1 R1 s1 o1 => ?_⟩
    show tB X.K Γ1 k D σ H1
    exact ⟨R1, o1, q.step s1⟩
  | false =>
    refine ps_mono (ps_if hc (pss_never (sts := A)) (hb rfl)) fun D σ H q => ?_
    obtain ⟨R, o, q⟩ := q
    refine ⟨R, o, fun H1 R1 s1 o1 => ?_⟩
    show tB X.K Γ1 k D σ H1
    exact ⟨R1, o1, q.step s1⟩
theorem bj_if {b0 : Bool} (hc : TJ X Γ c b0 Γ1) (ha : b0 = true → BJ X Γ1 A { k with nx := fun G => BJ X G rest k }) (hb : b0 = false → BJ X Γ1 B { k with nx := fun G => BJ X G rest k }) : BJ X Γ (.If c A B pos :: rest) k :=
  bj_cons (fun G => BJ X G rest k) (sj_if hc ha hb) fun _ h => h
/-- if c: (an end), no else -/
theorem bj_ifret {b0 : Bool} (hc : TJ X Γ c b0 Γ1) (ha : b0 = true → BJ X Γ1 A { k with nx := fun _ => False }) (hb : b0 = false → BJ X Γ1 rest k) : BJ X Γ (.If c A [] pos :: rest) k :=
  bj_if hc (fun h => pss_mono (ha h) fun D σ H q => by
    obtain ⟨R, o, q⟩ := q
    exact ⟨R, o, ⟨fun _ _ _ _ z => z.elim, q.rt, q.bk, q.ct⟩⟩) fun h => bj_nil (hb h)

/-! ### targets, sources, for -/
inductive Tg where
  | nm (i : Nat)
  | pr (i j : Nat)
def Tg.bd : Tg → PyData → List Sl → List Sl
  | .nm i, d, Γ => Γ.set i (.dat d)
  | .pr i j, .tuple [a, b], Γ => (Γ.set i (.dat a)).set j (.dat b)
  | .pr _ _, _, Γ => Γ
def Tg.ok : Tg → PyData → Prop
  | .nm _, _ => True
  | .pr _ _, d => ∃ a b, d = .tuple [a, b]
def Tg.g (K : PySem.W.Frag) : Tg → TG
  | .nm i => gName i
  | .pr i j => gTup K 2 (gCons (gName i) (gCons (gName j) gNil))
def Tg.slots : Tg → List Nat
  | .nm i => [i]
  | .pr i j => [i, j]
def TgP (X : Cx) (tg : Expr) (T : Tg) : Prop := PG X tg (T.g X.K)
theorem sqt_inj_data {K : PySem.W.Frag} {R : Hp} {v : V} {ds : List PyData} (h : Dp K R v (.tuple ds)) : ∃ a vs, v = .ref a ∧ SqT K R a vs ∧ DpAll K R vs ds := by
  cases h with
  | tup h a => exact ⟨_, _, rfl, h, a⟩
theorem sql_inj_data {K : PySem.W.Frag} {R : Hp} {v : V} {ds : List PyData} (h : Dp K R v (.list ds)) : ∃ a vs, v = .ref a ∧ SqL K R a vs ∧ DpAll K R vs ds := by
  cases h with
  | lst h a => exact ⟨_, _, rfl, h, a⟩
theorem tg_run {K : PySem.W.Frag} {T : Tg} {R H : Hp} {σ : L2.St} {v : V} {d : PyData} {Q : L2.St → Hp → Prop} (o : Ok K R Γ σ H) (h : Dp K R v d) (hd : T.ok d)
    (q : ∀ σ', Ok K R (T.bd d Γ) σ' H → (∃ us, σ' = us ∧ ∀ j, j ∉ T.slots → σ'[j]? = σ[j]?) → Q σ' H) : T.g K v σ H Q := by
  cases T with
  | nm i =>
    show Q (σ.set i (some v)) H
    refine q _ (o.set_dat h) ⟨_, rfl, fun j hj => ?_⟩
    rw [List.getElem?_set_ne (fun z => hj (by simp [Tg.slots, z]))]
  | pr i j =>
    obtain ⟨a, b, rfl⟩ := hd
    obtain ⟨ad, vs, rfl, h1, h2⟩ := sqt_inj_data h
    cases h2 with
    | cons ha h2 =>
      cases h2 with
      | cons hb h2 =>
        cases h2
        refine ⟨ad, _, rfl, sqt_same o.rh h1, rfl, _, _, rfl, _, _, rfl, rfl, ?_⟩
        refine q _ ((o.set_dat ha).set_dat hb) ⟨_, rfl, fun l hl => ?_⟩
        rw [List.getElem?_set_ne (fun z => hl (by simp [Tg.slots, z])), List.getElem?_set_ne (fun z => hl (by simp [Tg.slots, z]))]
theorem tg_owned {Γ : List Sl} {T : Tg} {d : PyData} : (owned (T.bd d Γ)).Sublist (owned Γ) := by
  cases T with
  | nm i => exact owned_set_dat (s := .dat d) rfl Γ i
  | pr i j =>
    by_cases h : ∃ a b, d = .tuple [a, b]
    · obtain ⟨a, b, rfl⟩ := h
      exact List.Sublist.trans (owned_set_dat (s := .dat b) rfl _ _) (owned_set_dat (s := .dat a) rfl Γ _)
    · have e : Tg.bd (.pr i j) d Γ = Γ := by
        unfold Tg.bd
        split
        · rename_i h0; cases h0
        · exact absurd ⟨_, _, rfl⟩ h
        · rfl
      rw [e]
      exact List.Sublist.refl _
/-- what is walked: the items as data, while R stands -/
def WalkD (K : PySem.W.Frag) (R : Hp) (J : It) (items : List PyData) : Prop :=
  Walk J items.length (fun H => Same R H) (fun i H x H' => ∃ d, items[i]? = some d ∧ ∀ R1, Same R R1 → Same R1 H → ∃ R2, Gw R1 H R2 H' ∧ Dp K R2 x d)
def tW (K : PySem.W.Frag) (Γ : List Sl) (items : List PyData) (Γ' : List Sl) : TI := fun σ H k => ∃ R, Ok K R Γ σ H ∧ ∀ J H' R', Step R Γ H R' Γ' H' → Ok K R' Γ' σ H' → WalkD K R' J items → k J H'
def WJ (X : Cx) (Γ : List Sl) (tg iter : Expr) (items : List PyData) (Γ' : List Sl) : Prop := PI X tg iter (tW X.K Γ items Γ')
theorem pi_mono {t t' : TI} (h : PI X tg iter t) (m : ∀ σ H Q, t' σ H Q → t σ H Q) : PI X tg iter t' := ⟨fun pins s σ H Q I q => h.run pins s σ H Q I (m σ H Q q)⟩
theorem walkd_at {K : PySem.W.Frag} {R : Hp} {J : It} {xs : List V} {items : List PyData} (hd : DpAll K R xs items) (G : Hp → Prop) (hG : ∀ H, Same R H → G H) (w : Walk J xs.length G (YAt xs)) : WalkD K R J items := by
  unfold WalkD
  rw [← dps_len hd]
  refine w.mono (fun H h => hG H h) fun i H x H' hi hR y => ?_
  obtain ⟨e, hx⟩ := y
  subst e
  obtain ⟨d, h1, h2⟩ := dps_get hd hx
  exact ⟨d, h1, fun R1 r1 r2 => ⟨R1, Gw.refl r2, dp_same r1 h2⟩⟩
theorem wj_list {ds : List PyData} (h : EJ X Γ e (.dat (.list ds)) Γ1) : WJ X Γ tg e ds Γ1 := pi_mono (pi_list h) fun σ H Q q => by
  obtain ⟨R, o, k⟩ := q
  refine ⟨R, o, fun v H1 R1 s1 o1 q1 => ?_⟩
  obtain ⟨a, vs, rfl, h1, h2⟩ := sql_inj_data q1
  exact ⟨a, rfl, ⟨vs, o1.rh.seq h1⟩, k _ H1 R1 s1 o1 (walkd_at h2 _ (fun H e => e.seq h1) walk_list)⟩
theorem wj_tup {ds : List PyData} (h : EJ X Γ e (.dat (.tuple ds)) Γ1) : WJ X Γ tg e ds Γ1 := pi_mono (pi_tup h) fun σ H Q q => by
  obtain ⟨R, o, k⟩ := q
  refine ⟨R, o, fun v H1 R1 s1 o1 q1 => ?_⟩
  obtain ⟨a, vs, rfl, h1, h2⟩ := sqt_inj_data q1
  exact ⟨a, rfl, ⟨vs, sqt_same o1.rh h1⟩, k _ H1 R1 s1 o1 (walkd_at h2 _ (fun H e => sqt_same e h1) walk_tup)⟩
def upto (lo : Int) (n : Nat) : List PyData := (List.range n).map fun (i : Nat) => PyData.int (lo + i)
theorem upto_get {lo : Int} {n i : Nat} (h : i < n) : (upto lo n)[i]? = some (.int (lo + i)) := by simp [upto, h]
theorem upto_len {lo : Int} {n : Nat} : (upto lo n).length = n := by simp [upto]
theorem walkd_range {K : PySem.W.Frag} {R : Hp} {lo : Int} {n : Nat} : WalkD K R (Itr lo n) (upto lo n) := by
  unfold WalkD
  rw [upto_len]
  refine walk_range.mono (fun H _ => trivial) fun i H x H' hi hR y => ?_
  obtain ⟨e, hx⟩ := y
  subst e hx
  exact ⟨_, upto_get hi, fun R1 r1 r2 => ⟨R1, Gw.refl r2, .int _⟩⟩
theorem wj_range1 {n : Int} (hg : Gl X "range") (hm : X.mg "range" = none) (ha : DJ X Γ [a] [.int n] Γ1) (hn : -(2 ^ 62) ≤ n ∧ n < 2 ^ 62) (hs : starEach [a] X.env = [(false, eval a X.env)] := by rfl) : WJ X Γ tg (.Call (.Name "range" p) [a] [] pos) (upto 0 n.toNat) Γ1 :=
  pi_mono (pi_range1 hg hm ha hs) fun σ H Q q => by
    obtain ⟨R, o, k⟩ := q
    refine ⟨R, o, fun vs H1 R1 s1 o1 q1 => ?_⟩
    cases q1 with
    | cons h1 h2 =>
      cases h2
      cases h1
      exact ⟨n, rfl, hn.1, hn.2, k _ H1 R1 s1 o1 walkd_range⟩
theorem wj_range2 {lo n : Int} (hg : Gl X "range") (hm : X.mg "range" = none) (ha : DJ X Γ [a, b] [.int lo, .int n] Γ1) (hn : -(2 ^ 62) ≤ lo ∧ lo < 2 ^ 62 ∧ -(2 ^ 62) ≤ n ∧ n < 2 ^ 62)
    (hs : starEach [a, b] X.env = [(false, eval a X.env), (false, eval b X.env)] := by rfl) (hs2 : starEach [b] X.env = [(false, eval b X.env)] := by rfl) : WJ X Γ tg (.Call (.Name "range" p) [a, b] [] pos) (upto lo (n - lo).toNat) Γ1 :=
  pi_mono (pi_range2 hg hm ha hs hs2) fun σ H Q q => by
    obtain ⟨R, o, k⟩ := q
    refine ⟨R, o, fun vs H1 R1 s1 o1 q1 => ?_⟩
    cases q1 with
    | cons h1 h2 =>
      cases h2 with
      | cons h2 h3 =>
        cases h3
        cases h1
        cases h2
        exact ⟨lo, n, rfl, hn, k _ H1 R1 s1 o1 walkd_range⟩
/-- for tg in iter: body -/
theorem sj_for {T : Tg} {items : List PyData} (hp : PassesOwn (model X.prog X.w) X.A X.env X.xe) (hc : X.calm = true) (src : WJ X Γ tg iter items Γ1) (ht : TgP X tg T) (I : Nat → List Sl → Prop)
    (h0 : I 0 Γ1) (hs : ∀ (i : Nat) d G, items[i]? = some d → I i G → T.ok d ∧ BJ X (T.bd d G) body { nx := I (i + 1), ct := I (i + 1), bk := k.nx, rt := k.rt }) (hd : ∀ G, I items.length G → k.nx G)
    (hfs : ∀ x, foldedSetIterable iter X.env x = pure x := by intro _; rfl) : SJ X Γ (.For tg iter body [] pos) k := by
  have hb : PSs X body (fun D σ H => ∃ R i d G, items[i]? = some d ∧ I i G ∧ Ok X.K R (T.bd d G) σ H ∧ Real X.K { nx := I (i + 1), ct := I (i + 1), bk := k.nx, rt := k.rt } R (T.bd d G) H D) := ⟨fun pins s σ H D J q => by
    obtain ⟨R, i, d, G, h1, h2, o, r⟩ := q
    exact ((hs i d G h1 h2).2).run pins s σ H D J ⟨R, o, r⟩⟩
  refine ps_mono (ps_for hp hc src ht hb hfs) fun D σ H q => ?_
  obtain ⟨R, o, q⟩ := q
  refine ⟨R, o, fun J H1 R1 s1 o1 w => ?_⟩
  refine for_it (D := D) (g := T.g X.K) (tb := fun D σ H => ∃ R i d G, items[i]? = some d ∧ I i G ∧ Ok X.K R (T.bd d G) σ H ∧ Real X.K { nx := I (i + 1), ct := I (i + 1), bk := k.nx, rt := k.rt } R (T.bd d G) H D) w (fun i σ' H' => ∃ R' G, I i G ∧ Ok X.K R' G σ' H' ∧ Step R Γ H R' G H' ∧ Same R1 R') ⟨R1, Γ1, h0, o1, s1, Same.refl R1⟩ ?_ ?_ ?_
  · intro i σ' H' _ hP
    obtain ⟨R', G, _, o', _, e⟩ := hP
    exact e.trans o'.rh
  · intro i v σ' H2 H3 hi hP hy
    obtain ⟨R', G, hI, o', s', e⟩ := hP
    obtain ⟨d, hd', hy⟩ := hy
    obtain ⟨R2, g, hv⟩ := hy R' e o'.rh
    have o2 := o'.grow g
    have s2 := s'.trans g.step
    refine tg_run o2 hv (hs i d G hd' hI).1 fun σ3 o3 _ => ?_
    refine ⟨R2, i, d, G, hd', hI, o3, ?_⟩
    have sb : Step R Γ H R2 (T.bd d G) H3 := s2.to fun q hq => .inl (tg_owned.subset hq)
    refine ⟨fun Γ' σ' H' R'' hN st o4 => ?_, fun r Γ' v σ' H' R'' hN st o4 hr => ?_, fun Γ' σ' H' R'' hN st o4 => ?_, fun Γ' σ' H' R'' hN st o4 => ?_⟩
    · exact ⟨R'', Γ', hN, o4, sb.trans st, (e.trans g.rr).trans st.rr⟩
    · exact q.rt r Γ' v σ' H' R'' hN (sb.trans st) o4 (rsok_back sb.al hr)
    · exact q.nx Γ' σ' H' R'' hN (sb.trans st) o4
    · exact ⟨R'', Γ', hN, o4, sb.trans st, (e.trans g.rr).trans st.rr⟩
  · intro σ' H' hP
    obtain ⟨R', G, hI, o', s', _⟩ := hP
    exact q.nx G σ' H' R' (hd G hI) s' o'
theorem bj_for {T : Tg} {items : List PyData} (hp : PassesOwn (model X.prog X.w) X.A X.env X.xe) (hc : X.calm = true) (src : WJ X Γ tg iter items Γ1) (ht : TgP X tg T) (I : Nat → List Sl → Prop)
    (h0 : I 0 Γ1) (hs : ∀ (i : Nat) d G, items[i]? = some d → I i G → T.ok d ∧ BJ X (T.bd d G) body { nx := I (i + 1), ct := I (i + 1), bk := fun G => BJ X G rest k, rt := k.rt }) (hd : ∀ G, I items.length G → BJ X G rest k)
    (hfs : ∀ x, foldedSetIterable iter X.env x = pure x := by intro _; rfl) : BJ X Γ (.For tg iter body [] pos :: rest) k :=
  bj_cons (fun G => BJ X G rest k) (sj_for hp hc src ht I h0 hs hd hfs) fun _ h => h
/-- while c: body, by an invariant and a measure over α -/
theorem bj_while {α : Type} (hp : PassesOwn (model X.prog X.w) X.A X.env X.xe) (S : α → List Sl → Prop) (μ : α → Nat) (t : α → Bool) (a0 : α) (h0 : S a0 Γ) (hc : ∀ a G, S a G → TJ X G c (t a) G)
    (hs : ∀ a G, S a G → t a = true → BJ X G body { nx := fun G' => ∃ a', S a' G' ∧ μ a' < μ a, ct := fun G' => ∃ a', S a' G' ∧ μ a' < μ a, bk := fun G => BJ X G rest k, rt := k.rt })
    (hd : ∀ a G, S a G → t a = false → BJ X G rest k) : BJ X Γ (.While c body [] pos :: rest) k := by
  refine bj_cons (fun G => BJ X G rest k) ?_ fun _ h => h
  have hc' : PT X c (fun σ H Q => ∃ R a G, S a G ∧ Ok X.K R G σ H ∧ ∀ H' R', Step R G H R' G H' → Ok X.K R' G σ H' → Q (t a) H') := ⟨fun pins s σ H Q J q => by
    obtain ⟨R, a, G, h1, o, kk⟩ := q
    exact (hc a G h1).run pins s σ H Q J ⟨R, o, kk⟩⟩
  have hb : PSs X body (fun D σ H => ∃ R a G, S a G ∧ t a = true ∧ Ok X.K R G σ H ∧ Real X.K { nx := fun G' => ∃ a', S a' G' ∧ μ a' < μ a, ct := fun G' => ∃ a', S a' G' ∧ μ a' < μ a, bk := fun G => BJ X G rest k, rt := k.rt } R G H D) := ⟨fun pins s σ H D J q => by
    obtain ⟨R, a, G, h1, h2, o, r⟩ := q
    exact (hs a G h1 h2).run pins s σ H D J ⟨R, o, r⟩⟩
  refine ps_mono (ps_while hp hc' hb) fun D σ H q => ?_
  obtain ⟨R, o, q⟩ := q
  refine ⟨fun m σ' H' => ∃ R' a G, S a G ∧ m = μ a ∧ Ok X.K R' G σ' H' ∧ Step R Γ H R' G H', ⟨μ a0, R, a0, Γ, h0, rfl, o, Step.refl _ _ _⟩, ?_⟩
  rintro m σ' H' ⟨R', a, G, hS, rfl, o', s'⟩
  refine ⟨R', a, G, hS, o', fun H2 R2 s2 o2 => ?_⟩
  have s3 := s'.trans s2
  show if t a = true then _ else _
  by_cases ht : t a = true
  · rw [if_pos ht]
    refine ⟨fun σ4 H4 => ∃ m', m' < μ a ∧ ∃ R' a G, S a G ∧ m' = μ a ∧ Ok X.K R' G σ4 H4 ∧ Step R Γ H R' G H4, fun σ4 H4 z => z, R2, a, G, hS, ht, o2, ?_⟩
    refine ⟨fun Γ' σ' H' R'' hN st o4 => ?_, fun r Γ' v σ' H' R'' hN st o4 hr => ?_, fun Γ' σ' H' R'' hN st o4 => ?_, fun Γ' σ' H' R'' hN st o4 => ?_⟩
    · obtain ⟨a', ha, hm⟩ := hN
      exact ⟨μ a', hm, R'', a', Γ', ha, rfl, o4, s3.trans st⟩
    · exact q.rt r Γ' v σ' H' R'' hN (s3.trans st) o4 (rsok_back s3.al hr)
    · exact q.nx Γ' σ' H' R'' hN (s3.trans st) o4
    · obtain ⟨a', ha, hm⟩ := hN
      exact ⟨μ a', hm, R'', a', Γ', ha, rfl, o4, s3.trans st⟩
  · rw [if_neg ht]
    exact q.nx G σ' H2 R2 (hd a G hS (by simpa using ht)) s3 o2
end
end DL

/-! The data layer: comprehensions, calls, defs. -/
namespace DL
open L2 PyProof.Rows PySem PySem.Spec

def wipeG (Γ : List Sl) : List Nat → List Sl
  | [] => Γ
  | v :: vs => (wipeG Γ vs).set v .un
theorem wipeG_get {Γ : List Sl} {j : Nat} : ∀ {vs : List Nat}, (wipeG Γ vs)[j]? = if j ∈ vs then (Γ[j]?).map (fun _ => Sl.un) else Γ[j]?
  | [] => by simp [wipeG]
  | v :: vs => by
    unfold wipeG
    rw [List.getElem?_set, wipeG_get (vs := vs)]
    have hl : (wipeG Γ vs).length = Γ.length := by
      induction vs with
      | nil => rfl
      | cons a r ih => unfold wipeG; rw [List.length_set]; exact ih
    by_cases e : v = j
    · subst e
      rw [if_pos rfl, hl]
      rw [if_pos (show v ∈ v :: vs from List.mem_cons_self)]
      by_cases h : v < Γ.length
      · rw [if_pos h, List.getElem?_eq_getElem h]; rfl
      · rw [if_neg h, List.getElem?_eq_none (by omega)]; rfl
    · rw [if_neg e]
      have : (j ∈ v :: vs) ↔ j ∈ vs := by simp [Ne.symm e]
      simp only [this]
theorem wipe_get {σ : L2.St} {j : Nat} : ∀ {vs : List Nat}, (wipe σ vs)[j]? = if j ∈ vs then (σ[j]?).map (fun _ => Option.none) else σ[j]?
  | [] => by simp [wipe]
  | v :: vs => by
    unfold wipe
    rw [List.getElem?_set, wipe_get (vs := vs), wipe_length]
    by_cases e : v = j
    · subst e
      rw [if_pos rfl, if_pos (show v ∈ v :: vs from List.mem_cons_self)]
      by_cases h : v < σ.length
      · rw [if_pos h, List.getElem?_eq_getElem h]; rfl
      · rw [if_neg h, List.getElem?_eq_none (by omega)]; rfl
    · rw [if_neg e]
      have : (j ∈ v :: vs) ↔ j ∈ vs := by simp [Ne.symm e]
      simp only [this]
theorem wipe_eq {σ σ' : L2.St} {vs : List Nat} (hl : σ'.length = σ.length) (h : ∀ j, j ∉ vs → σ'[j]? = σ[j]?) : wipe σ' vs = wipe σ vs := by
  apply List.ext_getElem?
  intro j
  rw [wipe_get, wipe_get]
  by_cases hj : j ∈ vs
  · rw [if_pos hj, if_pos hj]
    by_cases hx : j < σ.length
    · rw [List.getElem?_eq_getElem hx, List.getElem?_eq_getElem (by omega)]; rfl
    · rw [List.getElem?_eq_none (by omega), List.getElem?_eq_none (by omega)]
  · rw [if_neg hj, if_neg hj]
    exact h j hj
def noOwn (Γ : List Sl) (vs : List Nat) : Bool := vs.all fun v => match Γ[v]? with | some (.own _ _) => false | _ => true
theorem noOwn_at {Γ : List Sl} {vs : List Nat} (h : noOwn Γ vs = true) {v : Nat} (hv : v ∈ vs) {p : Addr} {c : Cel} : Γ[v]? ≠ some (.own p c) := fun e => by
  have q := List.all_eq_true.mp h v hv
  rw [e] at q
  cases q
theorem owned_set_keep {s : Sl} (hs : owned [s] = []) : ∀ {Γ : List Sl} {i : Nat}, (∀ p c, Γ[i]? ≠ some (.own p c)) → owned (Γ.set i s) = owned Γ
  | [], _, _ => rfl
  | a :: r, 0, h => by
    have e : ∀ t, owned [t] = [] → owned (t :: r) = owned r := fun t ht => by
      cases t with
      | un => rfl
      | dat d => rfl
      | own p c => simp [owned] at ht
    show owned (s :: r) = owned (a :: r)
    rw [e s hs, e a (by
      cases a with
      | un => rfl
      | dat d => rfl
      | own p c => exact absurd rfl (h p c))]
  | a :: r, i + 1, h => by
    have ih := owned_set_keep hs (Γ := r) (i := i) (by simpa using h)
    show owned (a :: r.set i s) = owned (a :: r)
    cases a with
    | un => exact ih
    | dat d => exact ih
    | own p c => show (p :: c.fp) ++ owned (r.set i s) = (p :: c.fp) ++ owned r; rw [ih]
theorem owned_wipeG {Γ : List Sl} : ∀ {vs : List Nat}, noOwn Γ vs = true → owned (wipeG Γ vs) = owned Γ
  | [], _ => rfl
  | v :: vs, h => by
    have h' : noOwn Γ vs = true := (Bool.and_eq_true_iff.mp (show (_ && noOwn Γ vs) = true from h)).2
    unfold wipeG
    rw [owned_set_keep rfl, owned_wipeG h']
    intro p c
    rw [wipeG_get]
    split
    · cases Γ[v]? <;> simp
    · exact noOwn_at h List.mem_cons_self
theorem owned_bd {Γ : List Sl} {T : Tg} {d : PyData} {vs : List Nat} (hT : ∀ i ∈ T.slots, i ∈ vs) : owned (T.bd d (wipeG Γ vs)) = owned (wipeG Γ vs) := by
  have un : ∀ i, i ∈ vs → ∀ p c, (wipeG Γ vs)[i]? ≠ some (.own p c) := fun i hi p c => by
    rw [wipeG_get, if_pos hi]
    cases Γ[i]? <;> simp
  cases T with
  | nm i => exact owned_set_keep rfl (un i (hT i (by simp [Tg.slots])))
  | pr i j =>
    by_cases h : ∃ a b, d = .tuple [a, b]
    · obtain ⟨a, b, rfl⟩ := h
      show owned (((wipeG Γ vs).set i (.dat a)).set j (.dat b)) = _
      rw [owned_set_keep rfl, owned_set_keep rfl (un i (hT i (by simp [Tg.slots])))]
      intro p c
      rw [List.getElem?_set]
      split
      · split <;> simp
      · exact un j (hT j (by simp [Tg.slots])) p c
    · have e : Tg.bd (.pr i j) d (wipeG Γ vs) = wipeG Γ vs := by
        unfold Tg.bd
        split
        · rename_i h0; cases h0
        · exact absurd ⟨_, _, rfl⟩ h
        · rfl
      rw [e]
theorem bd_get {Γ : List Sl} {T : Tg} {d : PyData} {j : Nat} (hj : j ∉ T.slots) : (T.bd d Γ)[j]? = Γ[j]? := by
  cases T with
  | nm i => exact List.getElem?_set_ne (fun z => hj (by simp [Tg.slots, z]))
  | pr i l =>
    unfold Tg.bd
    split
    · rename_i h0; cases h0
    · rename_i h0
      cases h0
      rw [List.getElem?_set_ne (fun z => hj (by simp [Tg.slots, z])), List.getElem?_set_ne (fun z => hj (by simp [Tg.slots, z]))]
    · rfl
theorem bd_len {Γ : List Sl} {T : Tg} {d : PyData} : (T.bd d Γ).length = Γ.length := by
  cases T with
  | nm i => exact List.length_set
  | pr i l =>
    unfold Tg.bd
    split
    · exact List.length_set
    · rw [List.length_set, List.length_set]
    · rfl
theorem wipeG_len {Γ : List Sl} : ∀ {vs : List Nat}, (wipeG Γ vs).length = Γ.length
  | [] => rfl
  | v :: vs => by unfold wipeG; rw [List.length_set, wipeG_len]
theorem Ok.wipe {K : PySem.W.Frag} {R H : Hp} {Γ : List Sl} {σ : L2.St} (o : Ok K R Γ σ H) : ∀ vs : List Nat, Ok K R (wipeG Γ vs) (wipe σ vs) H
  | [] => o
  | v :: vs => (o.wipe vs).set_un

def TsJ (X : Cx) (Γ : List Sl) (ifs : List Expr) (b : Bool) (Γ' : List Sl) : Prop := PTs X ifs (tT X.K Γ b Γ')
theorem ts_nil {X : Cx} {Γ : List Sl} : TsJ X Γ [] true Γ := ⟨fun pins s σ H Q I q => by
  obtain ⟨R, o, k⟩ := q
  exact pts_nil.run pins s σ H Q I (k H R (Step.refl _ _ _) o)⟩
theorem ts_one {X : Cx} {Γ Γ' : List Sl} {c : Expr} {b : Bool} (h : TJ X Γ c b Γ') : TsJ X Γ [c] b Γ' := pts_one h
def outs (t : Nat → Bool) (f : Nat → PyData) (n : Nat) : List PyData := ((List.range n).filter t).map f
theorem outs_succ (t : Nat → Bool) (f : Nat → PyData) (n : Nat) : outs t f (n + 1) = outs t f n ++ (if t n = true then [f n] else []) := by
  unfold outs
  rw [List.range_succ, List.filter_append, List.map_append]
  congr 1
  by_cases h : t n = true
  · rw [if_pos h, List.filter_cons, if_pos h]; rfl
  · rw [if_neg h, List.filter_cons, if_neg h]; rfl
theorem outs_len (t : Nat → Bool) (f : Nat → PyData) (n : Nat) : (outs t f n).length ≤ n := by
  unfold outs
  rw [List.length_map]
  exact Nat.le_trans (List.length_filter_le _ _) (by simp)
section
variable {X : Cx} {Γ Γ1 : List Sl} {tg iter elt : Expr} {ifs : List Expr} {scope : Scope} {own : List (Str × Nat)} {pos spos py : Pos} {T : Tg} {items : List PyData}
/-- what a comprehension asks, in general: G the states by the turn -/
structure Lc (X : Cx) (Γ : List Sl) (elt tg iter : Expr) (ifs : List Expr) (scope : Scope) (own : List (Str × Nat)) (T : Tg) (items : List PyData) (G : Nat → List Sl) (t : Nat → Bool) (f : Nat → PyData) : Prop where
  src : WJ X Γ tg iter items (G 0)
  ok : BlkOk X.N X.env.scope scope own
  hT : ∀ i ∈ T.slots, i ∈ own.map (·.2)
  htg : ∀ (s : Shared) (H : Hp) (C : Addr) (cl : List (Str × Addr)) (fp : List Addr), TgP (X.blk s H scope (compEnvC scope cl C X.env) fp) tg T
  hok : ∀ (i : Nat) d, items[i]? = some d → T.ok d
  turn : ∀ (i : Nat) d, items[i]? = some d → ∃ M, (∀ (s : Shared) (H : Hp) (C : Addr) (cl : List (Str × Addr)) (fp : List Addr), TsJ (X.blk s H scope (compEnvC scope cl C X.env) fp) (T.bd d (wipeG (G i) (own.map (·.2)))) ifs (t i) M) ∧
    (t i = true → ∀ (s : Shared) (H : Hp) (C : Addr) (cl : List (Str × Addr)) (fp : List Addr), EJ (X.blk s H scope (compEnvC scope cl C X.env) fp) M elt (.dat (f i)) (T.bd d (wipeG (G (i + 1)) (own.map (·.2))))) ∧
    (t i = false → M = T.bd d (wipeG (G (i + 1)) (own.map (·.2))))
  now : ∀ i, noOwn (G i) (own.map (·.2)) = true
  hv : ∀ i v, v ∈ own.map (·.2) → (G (i + 1))[v]? = (G i)[v]?
  len : items.length ≤ 1000000
def lcT (X : Cx) (elt : Expr) (ifs : List Expr) (scope : Scope) (own : List (Str × Nat)) (T : Tg) (items : List PyData) (G : Nat → List Sl) (t : Nat → Bool) (f : Nat → PyData) : TT := fun σ H Q => ∃ R i d M, items[i]? = some d ∧ (∀ (s : Shared) (H : Hp) (C : Addr) (cl : List (Str × Addr)) (fp : List Addr), TsJ (X.blk s H scope (compEnvC scope cl C X.env) fp) (T.bd d (wipeG (G i) (own.map (·.2)))) ifs (t i) M) ∧ Ok X.K R (T.bd d (wipeG (G i) (own.map (·.2)))) σ H ∧ ∀ H' R', Step R (T.bd d (wipeG (G i) (own.map (·.2)))) H R' M H' → Ok X.K R' M σ H' → Q (t i) H'
def lcE (X : Cx) (elt : Expr) (ifs : List Expr) (scope : Scope) (own : List (Str × Nat)) (T : Tg) (items : List PyData) (G : Nat → List Sl) (t : Nat → Bool) (f : Nat → PyData) : TE := fun σ H Q => ∃ R i d M, items[i]? = some d ∧ t i = true ∧ (∀ (s : Shared) (H : Hp) (C : Addr) (cl : List (Str × Addr)) (fp : List Addr), EJ (X.blk s H scope (compEnvC scope cl C X.env) fp) M elt (.dat (f i)) (T.bd d (wipeG (G (i + 1)) (own.map (·.2))))) ∧ Ok X.K R M σ H ∧ ∀ v H' R', Step R M H R' (T.bd d (wipeG (G (i + 1)) (own.map (·.2)))) H' → Ok X.K R' (T.bd d (wipeG (G (i + 1)) (own.map (·.2)))) σ H' → Dp X.K R' v (f i) → Q v H'
theorem lc_pe {G : Nat → List Sl} {t : Nat → Bool} {f : Nat → PyData} (L : Lc X Γ elt tg iter ifs scope own T items G t f) :
    ∃ tt te, (∀ (s : Shared) (H : Hp) (C : Addr) (cl : List (Str × Addr)) (fp : List Addr), PTs (X.blk s H scope (compEnvC scope cl C X.env) fp) ifs tt) ∧
      (∀ (s : Shared) (H : Hp) (C : Addr) (cl : List (Str × Addr)) (fp : List Addr), PE (X.blk s H scope (compEnvC scope cl C X.env) fp) elt te) ∧
      ∀ σ H Q, tE X.K Γ (.new (.lst (outs t f items.length))) (G items.length) σ H Q → tLc (tW X.K Γ items (G 0)) (T.g X.K) tt te (own.map (·.2)) σ H Q := by
  refine ⟨lcT X elt ifs scope own T items G t f, lcE X elt ifs scope own T items G t f, ?_, ?_, ?_⟩
  · intro s H C cl fp
    refine ⟨fun pins s' σ H' Q I q => ?_⟩
    obtain ⟨R, i, d, M, h1, h2, o, k⟩ := q
    exact (h2 s H C cl fp).run pins s' σ H' Q I ⟨R, o, k⟩
  · intro s H C cl fp
    refine ⟨fun pins s' σ H' Q I q => ?_⟩
    obtain ⟨R, i, d, M, h1, h2, h3, o, k⟩ := q
    exact (h3 s H C cl fp).run pins s' σ H' Q I ⟨R, o, k⟩
  · intro σ H Q q
    obtain ⟨R, o, q⟩ := q
    refine ⟨R, o, fun J H1 R1 s1 o1 w D hD => ?_⟩
    have sz : ∀ i, i ≤ items.length → ∀ acc : List V, ∀ R', DpAll X.K R' acc (outs t f i) → acc.length ≤ 1000000 := fun i hi acc R' ha => by
      rw [dps_len ha]
      exact Nat.le_trans (outs_len t f i) (Nat.le_trans hi L.len)
    refine lc_it (g := T.g X.K) (tt := lcT X elt ifs scope own T items G t f) (te := lcE X elt ifs scope own T items G t f) (vs := own.map (·.2)) (σ := σ) (D := D) (H1 := H1) (Qd := Q (.ref D)) w (fun i H' => ∃ R' acc, Ok X.K R' (G i) σ H' ∧ Step R Γ H R' (G i) H' ∧ Same R1 R' ∧ H' D = some (.lst acc) ∧ DpAll X.K R' acc (outs t f i) ∧ R' D = none ∧ D ∉ owned (G i)) ?_ ?_ ?_ ?_
    · have hDo : D ∉ owned (G 0) := fun z => (o1.ow D z).2 hD
      have hr := same_none o1.rh hD
      exact ⟨R1, [], o1.aside hr hDo, s1.trans (Gw.newH o1.rh hD).step, Same.refl R1, upd_same, .nil, hr, hDo⟩
    · intro i H' _ hP
      obtain ⟨R', acc, o', _, e, _⟩ := hP
      exact e.trans o'.rh
    · intro i v H2 H3 hi hP hy
      obtain ⟨R', acc, o', s', e, hacc, hdp, hRD, hDo⟩ := hP
      obtain ⟨d, hd', hy⟩ := hy
      obtain ⟨R2, g, hv⟩ := hy R' e o'.rh
      have o2 := o'.grow g
      have oW := o2.wipe (own.map (·.2))
      have eo := owned_wipeG (L.now i)
      have eo' := owned_wipeG (L.now (i + 1))
      have eb : owned (T.bd d (wipeG (G i) (own.map (·.2)))) = owned (G i) := (owned_bd L.hT).trans eo
      have eb' : owned (T.bd d (wipeG (G (i + 1)) (own.map (·.2)))) = owned (G (i + 1)) := (owned_bd L.hT).trans eo'
      obtain ⟨M, m1, m2, m3⟩ := L.turn i d hd'
      refine tg_run oW hv (L.hok i d hd') fun σ2 o3 hσ => ?_
      obtain ⟨_, _, hσ⟩ := hσ
      have hl2 : σ2.length = σ.length := by
        rw [← o3.len, bd_len, wipeG_len, o2.len]
      have hσ2 : ∀ j, j ∉ own.map (·.2) → σ2[j]? = σ[j]? := fun j hj => by
        rw [hσ j fun z => hj (L.hT j z), wipe_get, if_neg hj]
      refine ⟨wipe_eq hl2 hσ2, R2, i, d, M, hd', m1, o3, fun H4 R4 s4 o4 => ?_⟩
      -- the end of a turn: from the block's state to the def's
      have fin : ∀ R5 H5, Ok X.K R5 (T.bd d (wipeG (G (i + 1)) (own.map (·.2)))) σ2 H5 → Step R2 (T.bd d (wipeG (G i) (own.map (·.2)))) H3 R5 (T.bd d (wipeG (G (i + 1)) (own.map (·.2)))) H5 →
          Ok X.K R5 (G (i + 1)) σ H5 ∧ Step R Γ H R5 (G (i + 1)) H5 ∧ Same R1 R5 ∧ H5 D = some (.lst acc) ∧ DpAll X.K R5 acc (outs t f i) ∧ R5 D = none ∧ D ∉ owned (G (i + 1)) := fun R5 H5 o5 s5 => by
        have hD3 : H3 D = some (.lst acc) := g.hh D _ hacc
        have hDn : D ∉ owned (T.bd d (wipeG (G i) (own.map (·.2)))) := by rw [eb]; exact hDo
        have hR2D : R2 D = none := g.gw D hRD (by rw [hacc]; simp)
        refine ⟨⟨o5.rh, ?_, fun j s hj => ?_, fun p hp => o5.ow p (by rw [eb']; exact hp), by rw [← eb']; exact o5.nd⟩, ?_, (e.trans g.rr).trans s5.rr, s5.fr D _ hD3 hDn, dps_same (g.rr.trans s5.rr) hdp, s5.gw D hR2D (by rw [hD3]; simp) hDn, fun z => ?_⟩
        · rw [← hl2, ← o5.len, bd_len, wipeG_len]
        · by_cases hjv : j ∈ own.map (·.2)
          · rw [L.hv i j hjv] at hj
            have q := o2.sl j s hj
            cases s with
            | un => trivial
            | dat d => obtain ⟨v, a, b⟩ := q; exact ⟨v, a, dp_same s5.rr b⟩
            | own p c => exact absurd hj (noOwn_at (L.now i) hjv)
          · have q := o5.sl j s (by rw [bd_get (fun z => hjv (L.hT j z)), wipeG_get, if_neg hjv]; exact hj)
            rw [hσ2 j hjv] at q
            exact q
        · have sa : Step R Γ H R2 (T.bd d (wipeG (G i) (own.map (·.2)))) H3 := (s'.trans g.step).to fun q hq => .inl (by rw [eb] at hq; exact hq)
          exact (sa.trans s5).to fun q hq => .inl (by rw [eb']; exact hq)
        · rw [← eb'] at z
          rcases s5.ow D z with h | h
          · exact hDn h
          · rw [hD3] at h; cases h
      show if t i = true then _ else _
      by_cases ht : t i = true
      · rw [if_pos ht]
        refine ⟨R4, i, d, M, hd', ht, m2 ht, o4, fun y H5 R5 s5 o5 hy5 => ?_⟩
        obtain ⟨a1, a2, a3, a4, a5, a6, a7⟩ := fin R5 H5 o5 (s4.trans s5)
        have hlen := sz i (Nat.le_of_lt hi) acc R5 a5
        refine ⟨acc, a4, Nat.lt_of_le_of_lt hlen (by decide), R5, acc ++ [y], a1.aside a6 a7, ⟨a2.rr, fun b u hb hn => ?_, fun b hb => ?_, a2.gw, a2.ow⟩, a3, upd_same, ?_, a6, a7⟩
        · rw [upd_ne (fun (z : b = D) => ?_)]
          · exact a2.fr b u hb hn
          · subst z
            have := s1.al b (by rw [hb]; simp)
            exact this hD
        · by_cases z : b = D
          · subst z; rw [upd_same]; simp
          · rw [upd_ne z]; exact a2.al b hb
        · rw [outs_succ, if_pos ht]
          exact dps_append a5 (.cons hy5 .nil)
      · rw [if_neg ht]
        have hf : t i = false := by simpa using ht
        have hM := m3 hf
        subst hM
        obtain ⟨a1, a2, a3, a4, a5, a6, a7⟩ := fin R4 H4 o4 s4
        exact ⟨R4, acc, a1, a2, a3, a4, by rw [outs_succ, if_neg ht, List.append_nil]; exact a5, a6, a7⟩
    · intro H' hP
      obtain ⟨R', acc, o', s', e, hacc, hdp, hRD, hDo⟩ := hP
      refine q _ H' R' s' o' ⟨D, rfl, ⟨acc, hacc, hdp⟩, fun q hq => ?_, by simp [Cel.fp]⟩
      have e : q = D := by simpa [Cel.fp] using hq
      subst e
      exact ⟨none_back s1.al hD, hRD, by rw [hacc]; simp, hDo⟩
theorem ej_lcG {G : Nat → List Sl} {t : Nat → Bool} {f : Nat → PyData} (hc : X.calm = true) (hN : X.N.Nodup) (L : Lc X Γ elt tg iter ifs scope own T items G t f) (hs : ∀ x, foldedSetIterable iter X.env x = pure x := by intro _; rfl) :
    EJ X Γ (.ListComp elt [⟨tg, iter, ifs, 0⟩] scope pos) (.new (.lst (outs t f items.length))) (G items.length) := by
  obtain ⟨tt, te, h1, h2, h3⟩ := lc_pe L
  exact pe_mono (pe_lc (g := T.g X.K) hc hN L.src L.ok L.htg h1 h2 hs) h3
theorem sj_setLcG {i : Nat} {y : Str} {G : Nat → List Sl} {t : Nat → Bool} {f : Nat → PyData} {k : Kt} (hc : X.calm = true) (hN : X.N.Nodup) (hy : X.N[i]? = some y) (hyl : X.env.scope.names.lookup y = some .local)
    (hsw : swapsWith (.ListComp elt [⟨tg, iter, ifs, 0⟩] scope pos) (some (.Name y py)) spos.line X.env = pure true) (L : Lc X Γ elt tg iter ifs scope own T items G t f) (h : ∀ p, k.nx ((G items.length).set i (.own p (.lst (outs t f items.length)))))
    (hs : ∀ x, foldedSetIterable iter X.env x = pure x := by intro _; rfl) : SJ X Γ (.Assign [.Name y py] (.ListComp elt [⟨tg, iter, ifs, 0⟩] scope pos) spos) k := by
  obtain ⟨tt, te, h1, h2, h3⟩ := lc_pe L
  refine ps_mono (ps_setLc (g := T.g X.K) hc hN hy hyl hsw L.src L.ok L.htg h1 h2 hs) fun D σ H q => ?_
  obtain ⟨R, o, q⟩ := q
  refine h3 σ H _ ⟨R, o, fun v H' R' s' o' q' => ?_⟩
  obtain ⟨p, o2, w⟩ := o'.set_rs (i := i) q'
  exact q.nx _ _ H' R' (h p) (s'.to w) o2
/-- pure: the states stand -/
theorem lc_pure {α : Type} {xs : List α} {inj : α → PyData} (t : α → Bool) (f : α → PyData) (src : WJ X Γ tg iter (xs.map inj) Γ1) (ok : BlkOk X.N X.env.scope scope own) (hT : ∀ i ∈ T.slots, i ∈ own.map (·.2))
    (htg : ∀ (s : Shared) (H : Hp) (C : Addr) (cl : List (Str × Addr)) (fp : List Addr), TgP (X.blk s H scope (compEnvC scope cl C X.env) fp) tg T) (hok : ∀ x ∈ xs, T.ok (inj x))
    (ht : ∀ x ∈ xs, ∀ (s : Shared) (H : Hp) (C : Addr) (cl : List (Str × Addr)) (fp : List Addr), TsJ (X.blk s H scope (compEnvC scope cl C X.env) fp) (T.bd (inj x) (wipeG Γ1 (own.map (·.2)))) ifs (t x) (T.bd (inj x) (wipeG Γ1 (own.map (·.2)))))
    (he : ∀ x ∈ xs, t x = true → ∀ (s : Shared) (H : Hp) (C : Addr) (cl : List (Str × Addr)) (fp : List Addr), EJ (X.blk s H scope (compEnvC scope cl C X.env) fp) (T.bd (inj x) (wipeG Γ1 (own.map (·.2)))) elt (.dat (f x)) (T.bd (inj x) (wipeG Γ1 (own.map (·.2)))))
    (now : noOwn Γ1 (own.map (·.2)) = true) (len : xs.length ≤ 1000000) :
    Lc X Γ elt tg iter ifs scope own T (xs.map inj) (fun _ => Γ1) (fun i => match xs[i]? with | some x => t x | none => false) (fun i => match xs[i]? with | some x => f x | none => .none) := by
  have at_ : ∀ (i : Nat) d, (xs.map inj)[i]? = some d → ∃ x, x ∈ xs ∧ xs[i]? = some x ∧ d = inj x := fun i d h => by
    rw [List.getElem?_map] at h
    cases e : xs[i]? with
    | none => rw [e] at h; cases h
    | some x => rw [e] at h; exact ⟨x, List.mem_of_getElem? e, rfl, (Option.some.inj h).symm⟩
  refine ⟨src, ok, hT, htg, fun i d h => ?_, fun i d h => ?_, fun _ => now, fun _ _ _ => rfl, by rw [List.length_map]; exact len⟩
  · obtain ⟨x, hx, _, rfl⟩ := at_ i d h
    exact hok x hx
  · obtain ⟨x, hx, e, rfl⟩ := at_ i d h
    refine ⟨_, fun s H C cl fp => ?_, fun htt s H C cl fp => ?_, fun _ => rfl⟩
    · rw [e]; exact ht x hx s H C cl fp
    · rw [e] at htt ⊢; exact he x hx htt s H C cl fp
theorem outs_pure {α : Type} (xs : List α) (t : α → Bool) (f : α → PyData) : outs (fun i => match xs[i]? with | some x => t x | none => false) (fun i => match xs[i]? with | some x => f x | none => .none) xs.length = (xs.filter t).map f := by
  have key : ∀ n, n ≤ xs.length → outs (fun i => match xs[i]? with | some x => t x | none => false) (fun i => match xs[i]? with | some x => f x | none => .none) n = ((xs.take n).filter t).map f := by
    intro n
    induction n with
    | zero => intro _; rfl
    | succ n ih =>
      intro hn
      have hn' : n < xs.length := hn
      rw [outs_succ, ih (Nat.le_of_lt hn'), List.take_add_one, List.filter_append, List.map_append, List.getElem?_eq_getElem hn']
      congr 1
      show (if t xs[n] = true then [f xs[n]] else []) = List.map f (List.filter t [xs[n]])
      by_cases h : t xs[n] = true
      · rw [if_pos h, List.filter_cons, if_pos h]; rfl
      · rw [if_neg h, List.filter_cons, if_neg h]; rfl
  rw [key _ (Nat.le_refl _), List.take_length]
theorem ej_lc {α : Type} {xs : List α} {inj : α → PyData} (t : α → Bool) (f : α → PyData) (hc : X.calm = true) (hN : X.N.Nodup) (src : WJ X Γ tg iter (xs.map inj) Γ1) (ok : BlkOk X.N X.env.scope scope own) (hT : ∀ i ∈ T.slots, i ∈ own.map (·.2))
    (htg : ∀ (s : Shared) (H : Hp) (C : Addr) (cl : List (Str × Addr)) (fp : List Addr), TgP (X.blk s H scope (compEnvC scope cl C X.env) fp) tg T) (hok : ∀ x ∈ xs, T.ok (inj x))
    (ht : ∀ x ∈ xs, ∀ (s : Shared) (H : Hp) (C : Addr) (cl : List (Str × Addr)) (fp : List Addr), TsJ (X.blk s H scope (compEnvC scope cl C X.env) fp) (T.bd (inj x) (wipeG Γ1 (own.map (·.2)))) ifs (t x) (T.bd (inj x) (wipeG Γ1 (own.map (·.2)))))
    (he : ∀ x ∈ xs, t x = true → ∀ (s : Shared) (H : Hp) (C : Addr) (cl : List (Str × Addr)) (fp : List Addr), EJ (X.blk s H scope (compEnvC scope cl C X.env) fp) (T.bd (inj x) (wipeG Γ1 (own.map (·.2)))) elt (.dat (f x)) (T.bd (inj x) (wipeG Γ1 (own.map (·.2)))))
    (now : noOwn Γ1 (own.map (·.2)) = true) (len : xs.length ≤ 1000000) (hs : ∀ x, foldedSetIterable iter X.env x = pure x := by intro _; rfl) : EJ X Γ (.ListComp elt [⟨tg, iter, ifs, 0⟩] scope pos) (.new (.lst ((xs.filter t).map f))) Γ1 := by
  have h := ej_lcG (pos := pos) hc hN (lc_pure t f src ok hT htg hok ht he now len) hs
  rw [List.length_map, outs_pure] at h
  exact h
theorem bj_setLc {α : Type} {xs : List α} {inj : α → PyData} {i : Nat} {y : Str} {k : Kt} {rest : List Stmt} (t : α → Bool) (f : α → PyData) (hc : X.calm = true) (hN : X.N.Nodup) (hy : X.N[i]? = some y) (hyl : X.env.scope.names.lookup y = some .local)
    (hsw : swapsWith (.ListComp elt [⟨tg, iter, ifs, 0⟩] scope pos) (some (.Name y py)) spos.line X.env = pure true)
    (src : WJ X Γ tg iter (xs.map inj) Γ1) (ok : BlkOk X.N X.env.scope scope own) (hT : ∀ i ∈ T.slots, i ∈ own.map (·.2))
    (htg : ∀ (s : Shared) (H : Hp) (C : Addr) (cl : List (Str × Addr)) (fp : List Addr), TgP (X.blk s H scope (compEnvC scope cl C X.env) fp) tg T) (hok : ∀ x ∈ xs, T.ok (inj x))
    (ht : ∀ x ∈ xs, ∀ (s : Shared) (H : Hp) (C : Addr) (cl : List (Str × Addr)) (fp : List Addr), TsJ (X.blk s H scope (compEnvC scope cl C X.env) fp) (T.bd (inj x) (wipeG Γ1 (own.map (·.2)))) ifs (t x) (T.bd (inj x) (wipeG Γ1 (own.map (·.2)))))
    (he : ∀ x ∈ xs, t x = true → ∀ (s : Shared) (H : Hp) (C : Addr) (cl : List (Str × Addr)) (fp : List Addr), EJ (X.blk s H scope (compEnvC scope cl C X.env) fp) (T.bd (inj x) (wipeG Γ1 (own.map (·.2)))) elt (.dat (f x)) (T.bd (inj x) (wipeG Γ1 (own.map (·.2)))))
    (now : noOwn Γ1 (own.map (·.2)) = true) (len : xs.length ≤ 1000000) (h : ∀ p, BJ X (Γ1.set i (.own p (.lst ((xs.filter t).map f)))) rest k) (hs : ∀ x, foldedSetIterable iter X.env x = pure x := by intro _; rfl) :
    BJ X Γ (.Assign [.Name y py] (.ListComp elt [⟨tg, iter, ifs, 0⟩] scope pos) spos :: rest) k := by
  refine bj_cons (fun G => ∃ p, G = Γ1.set i (.own p (.lst ((xs.filter t).map f)))) (sj_setLcG hc hN hy hyl hsw (lc_pure t f src ok hT htg hok ht he now len) (fun p => ⟨p, ?_⟩) hs) fun _ ⟨p, e⟩ => e ▸ h p
  rw [List.length_map, outs_pure]
end
end DL

/-! The data layer: calls of defs, defs. -/
namespace DL
open L2 PyProof.Rows PySem PySem.Spec

/-- a def's promise over data: the parameters' slots, the result, the parameters' slots behind -/
def Ct (K : PySem.W.Frag) (rel : List Sl → Rs → List Sl → Prop) : Sp := fun vs H Q _ => ∃ (R : Hp) (Γ : List Sl) (r : Rs) (Γ' : List Sl), rel Γ r Γ' ∧ Ok K R Γ (vs.map some) H ∧
  ∀ v H' R', Step R Γ H R' Γ' H' → Ok K R' Γ' (vs.map some) H' → rsok K H R' Γ' H' r v → Q v H'

/-- the slots of the parameters at the end -/
def ends : List Sl → List Sl → List Sl → Prop
  | [], _, [] => True
  | .dat d :: Γ, _ :: G, .dat d' :: Γ' => d' = d ∧ ends Γ G Γ'
  | .own p c :: Γ, .own p' c' :: G, .own p'' c'' :: Γ' => p' = p ∧ p'' = p ∧ c'' = c' ∧ c'.fp = c.fp ∧ ends Γ G Γ'
  | _, _, _ => False
theorem ends_owned : ∀ {Γ G Γ' : List Sl}, ends Γ G Γ' → owned Γ' = owned Γ
  | [], _, [], _ => rfl
  | .dat d :: Γ, _ :: G, .dat d' :: Γ', h => ends_owned (Γ := Γ) (G := G) (Γ' := Γ') h.2
  | .own p c :: Γ, .own p' c' :: G, .own p'' c'' :: Γ', h => by
    obtain ⟨rfl, rfl, rfl, e, t⟩ := h
    show (_ :: c''.fp) ++ owned Γ' = (_ :: c.fp) ++ owned Γ
    rw [e, ends_owned (Γ := Γ) (G := G) (Γ' := Γ') t]
  | [], _, _ :: _, h => by cases h
  | .un :: _, _, _, h => by cases h
  | .dat _ :: _, [], _, h => by cases h
  | .dat _ :: _, _ :: _, [], h => by cases h
  | .dat _ :: _, _ :: _, .un :: _, h => by cases h
  | .dat _ :: _, _ :: _, .own _ _ :: _, h => by cases h
  | .own _ _ :: _, [], _, h => by cases h
  | .own _ _ :: _, .un :: _, _, h => by cases h
  | .own _ _ :: _, .dat _ :: _, _, h => by cases h
  | .own _ _ :: _, .own _ _ :: _, [], h => by cases h
  | .own _ _ :: _, .own _ _ :: _, .un :: _, h => by cases h
  | .own _ _ :: _, .own _ _ :: _, .dat _ :: _, h => by cases h
theorem ends_len : ∀ {Γ G Γ' : List Sl}, ends Γ G Γ' → Γ'.length = Γ.length
  | [], _, [], _ => rfl
  | .dat d :: Γ, _ :: G, .dat d' :: Γ', h => by rw [List.length_cons, List.length_cons, ends_len (Γ := Γ) (G := G) (Γ' := Γ') h.2]
  | .own p c :: Γ, .own p' c' :: G, .own p'' c'' :: Γ', h => by rw [List.length_cons, List.length_cons, ends_len (Γ := Γ) (G := G) (Γ' := Γ') h.2.2.2.2]
  | [], _, _ :: _, h => by cases h
  | .un :: _, _, _, h => by cases h
  | .dat _ :: _, [], _, h => by cases h
  | .dat _ :: _, _ :: _, [], h => by cases h
  | .dat _ :: _, _ :: _, .un :: _, h => by cases h
  | .dat _ :: _, _ :: _, .own _ _ :: _, h => by cases h
  | .own _ _ :: _, [], _, h => by cases h
  | .own _ _ :: _, .un :: _, _, h => by cases h
  | .own _ _ :: _, .dat _ :: _, _, h => by cases h
  | .own _ _ :: _, .own _ _ :: _, [], h => by cases h
  | .own _ _ :: _, .own _ _ :: _, .un :: _, h => by cases h
  | .own _ _ :: _, .own _ _ :: _, .dat _ :: _, h => by cases h
theorem ends_at : ∀ {Γ G Γ' : List Sl}, ends Γ G Γ' → ∀ (i : Nat) s, Γ'[i]? = some s → (∃ d, s = .dat d ∧ Γ[i]? = some (.dat d)) ∨ ∃ p c c', s = .own p c' ∧ Γ[i]? = some (.own p c) ∧ G[i]? = some (.own p c')
  | [], _, [], _, i, s, e => by simp at e
  | .dat d :: Γ, g :: G, .dat d' :: Γ', h, 0, s, e => by
    obtain ⟨rfl, _⟩ := h
    left
    refine ⟨d', ?_, rfl⟩
    simpa using e.symm
  | .dat d :: Γ, g :: G, .dat d' :: Γ', h, i + 1, s, e => by
    simpa using ends_at (Γ := Γ) (G := G) (Γ' := Γ') h.2 i s (by simpa using e)
  | .own p c :: Γ, .own p' c' :: G, .own p'' c'' :: Γ', h, 0, s, e => by
    obtain ⟨rfl, rfl, rfl, _, _⟩ := h
    right
    exact ⟨_, c, _, by simpa using e.symm, rfl, rfl⟩
  | .own p c :: Γ, .own p' c' :: G, .own p'' c'' :: Γ', h, i + 1, s, e => by
    simpa using ends_at (Γ := Γ) (G := G) (Γ' := Γ') h.2.2.2.2 i s (by simpa using e)
  | [], _, _ :: _, h, _, _, _ => by cases h
  | .un :: _, _, _, h, _, _, _ => by cases h
  | .dat _ :: _, [], _, h, _, _, _ => by cases h
  | .dat _ :: _, _ :: _, [], h, _, _, _ => by cases h
  | .dat _ :: _, _ :: _, .un :: _, h, _, _, _ => by cases h
  | .dat _ :: _, _ :: _, .own _ _ :: _, h, _, _, _ => by cases h
  | .own _ _ :: _, [], _, h, _, _, _ => by cases h
  | .own _ _ :: _, .un :: _, _, h, _, _, _ => by cases h
  | .own _ _ :: _, .dat _ :: _, _, h, _, _, _ => by cases h
  | .own _ _ :: _, .own _ _ :: _, [], h, _, _, _ => by cases h
  | .own _ _ :: _, .own _ _ :: _, .un :: _, h, _, _, _ => by cases h
  | .own _ _ :: _, .own _ _ :: _, .dat _ :: _, h, _, _, _ => by cases h
theorem owned_app : ∀ (Γ Δ : List Sl), owned (Γ ++ Δ) = owned Γ ++ owned Δ
  | [], _ => rfl
  | .un :: r, Δ => owned_app r Δ
  | .dat _ :: r, Δ => owned_app r Δ
  | .own p c :: r, Δ => by
    show (p :: c.fp) ++ owned (r ++ Δ) = ((p :: c.fp) ++ owned r) ++ owned Δ
    rw [owned_app r Δ, List.append_assoc]
theorem owned_uns : ∀ n, owned (List.replicate n Sl.un) = []
  | 0 => rfl
  | n + 1 => owned_uns n
theorem Ok.params {K : PySem.W.Frag} {R R' H H' : Hp} {Γ Δ G Γ' : List Sl} {σ0 σ' : L2.St} (o : Ok K R Γ σ0 H) (s : Step R (Γ ++ Δ) H R' G H') (o' : Ok K R' G σ' H') (hΔ : owned Δ = []) (e : ends Γ G Γ') :
    Ok K R' Γ' σ0 H' ∧ Step R Γ H R' Γ' H' := by
  have eo := ends_owned e
  have ea : owned (Γ ++ Δ) = owned Γ := by rw [owned_app, hΔ, List.append_nil]
  refine ⟨⟨o'.rh, ?_, fun i t hi => ?_, fun p hp => ?_, by rw [eo]; exact o.nd⟩, ⟨s.rr, fun b u h1 h2 => s.fr b u h1 (by rw [ea]; exact h2), s.al, fun b h1 h2 h3 => s.gw b h1 h2 (by rw [ea]; exact h3), fun p hp => .inl (by rw [← eo]; exact hp)⟩⟩
  · rw [ends_len e]; exact o.len
  · rcases ends_at e i t hi with ⟨d, rfl, h⟩ | ⟨p, c, c', rfl, h1, h2⟩
    · obtain ⟨v, a, b⟩ := o.sl i _ h
      exact ⟨v, a, dp_same s.rr b⟩
    · exact ⟨(o.sl i _ h1).1, (o'.sl i _ h2).2⟩
  · obtain ⟨i, q, c, hi, hp'⟩ := owned_mem.mp hp
    rcases ends_at e i _ hi with ⟨d, z, _⟩ | ⟨p', c1, c', z, h1, h2⟩
    · cases z
    · cases z
      exact o'.ow p (owned_mem.mpr ⟨i, _, _, h2, hp'⟩)
section
variable {P : Program} {w : World} {K : PySem.W.Frag} {mg : Str → Option Value} {base : Heap}
/-- A DEF keeps its promise over data -/
theorem fn_ct {x qual : Str} {st : Stmt} {f : Addr} {fd : FuncData} {N ps : List Str} {k : Nat} {rel : List Sl → Rs → List Sl → Prop} (F : Fun K x qual st f fd) (S : FnScope N ps (defScope st)) (len : ∀ Γ r Γ', rel Γ r Γ' → Γ.length = ps.length)
    (hbody : ∀ (cdv : Value) (A : Around) (outer : List Env) (s : Shared) (H : Hp) (E : XK), Room k (A.deeper (envOfC qual (defScope st) s.heap.objs.size f cdv)) → ∀ Γ r Γ', rel Γ r Γ' →
      BJ (cxOf CX0 P w K mg base N qual (defScope st) f cdv A outer s H E).nox (Γ ++ List.replicate (N.length - ps.length) .un) (defBody st) { rt := fun r' G => r' = r ∧ ends Γ G Γ', nx := fun G => r = .dat .none ∧ ends Γ G Γ' }) :
    FnOk P w K mg base CX0 (k + 1) f fd ps (Ct K rel) := by
  refine F.ok S (fun vs H Q E h => ?_) fun cdv A outer s H vs Q E hr h => ?_
  · obtain ⟨R, Γ, r, Γ', h1, o, _⟩ := h
    rw [← len Γ r Γ' h1, o.len, List.length_map]
  · obtain ⟨R, Γ, r, Γ', h1, o, q⟩ := h
    refine ⟨_, hbody cdv A outer s H E hr Γ r Γ' h1, R, ?_, ?_⟩
    · have hl : vs.length = ps.length := by rw [← len Γ r Γ' h1, o.len, List.length_map]
      refine ⟨o.rh, ?_, fun i t hi => ?_, fun p hp => o.ow p ?_, ?_⟩
      · unfold L2.start
        rw [List.length_append, List.length_append, List.length_replicate, List.length_replicate, o.len, hl]
      · unfold L2.start
        rw [List.getElem?_append] at hi
        by_cases hlt : i < Γ.length
        · rw [if_pos hlt] at hi
          rw [List.getElem?_append_left (by rw [← o.len]; exact hlt)]
          exact o.sl i t hi
        · rw [if_neg hlt] at hi
          have := List.mem_of_getElem? hi
          rw [List.mem_replicate] at this
          rw [this.2]
          trivial
      · rw [owned_app, owned_uns, List.append_nil] at hp; exact hp
      · rw [owned_app, owned_uns, List.append_nil]; exact o.nd
    · refine ⟨fun G σ' H' R' hk s' o' => ?_, fun r' G v σ' H' R' hk s' o' hr' => ?_, fun _ _ _ _ z => z.elim, fun _ _ _ _ z => z.elim⟩
      · obtain ⟨rfl, e⟩ := hk
        obtain ⟨o2, s2⟩ := o.params s' o' (owned_uns _) e
        exact q _ H' R' s2 o2 .non
      · obtain ⟨rfl, e⟩ := hk
        obtain ⟨o2, s2⟩ := o.params s' o' (owned_uns _) e
        refine q v H' R' s2 o2 ?_
        cases r' with
        | dat d => exact hr'
        | new c =>
          obtain ⟨p, e1, c1, c2, c3⟩ := hr'
          exact ⟨p, e1, c1, fun z hz => ⟨(c2 z hz).1, (c2 z hz).2.1, (c2 z hz).2.2.1, fun hm => by
            rw [ends_owned e] at hm
            exact (o.ow z hm).2 (c2 z hz).1⟩, c3⟩
end
/-- a def as a name of the module that is called -/
structure Cal (P : Program) (w : World) (K : PySem.W.Frag) (mg : Str → Option Value) (base : Heap) (k : Nat) (x : Str) (sp : Sp) (dvs : List V) : Prop where
  ex : ∃ (f : Addr) (fd : FuncData) (ps : List Str) (ds : List Value), FnOk P w K mg base CX0 k f fd ps sp ∧ mg x = some (.ref f) ∧ PySem.W.keepIn K (.ref f) = true ∧ Binds K fd ps ds ∧ Vals dvs ds
/-! ### calls -/
inductive Ar where
  | dat (d : PyData)
  | ref (i : Nat)
def arok (K : PySem.W.Frag) (R : Hp) (σ : L2.St) : Ar → V → Prop
  | .dat d, v => Dp K R v d
  | .ref i, v => σ[i]? = some (some v)
inductive Ars (K : PySem.W.Frag) (R : Hp) (σ : L2.St) : List Ar → List V → Prop
  | nil : Ars K R σ [] []
  | cons {a v as vs} : arok K R σ a v → Ars K R σ as vs → Ars K R σ (a :: as) (v :: vs)
def tAr (K : PySem.W.Frag) (Γ : List Sl) (as : List Ar) (Γ' : List Sl) : TA := fun σ H Q => ∃ R, Ok K R Γ σ H ∧ ∀ vs H' R', Step R Γ H R' Γ' H' → Ok K R' Γ' σ H' → Ars K R' σ as vs → Q vs H'
def AJ (X : Cx) (Γ : List Sl) (es : List Expr) (as : List Ar) (Γ' : List Sl) : Prop := PA X es (tAr X.K Γ as Γ')
def sub (Γ : List Sl) (as : List Ar) : List Sl := as.map fun a => match a with | .dat d => .dat d | .ref i => (Γ[i]?).getD .un
def refs : List Ar → List Nat
  | [] => []
  | .dat _ :: r => refs r
  | .ref i :: r => i :: refs r
def wr : List Sl → List Ar → List Sl → List Sl
  | Γ, .ref i :: as, s :: Δ => wr (Γ.set i s) as Δ
  | Γ, .dat _ :: as, _ :: Δ => wr Γ as Δ
  | Γ, _, _ => Γ
/-- the callee hands back what it was lent -/
def mates (Γ : List Sl) : List Ar → List Sl → Prop
  | [], [] => True
  | .dat d :: as, s :: Δ => s = .dat d ∧ mates Γ as Δ
  | .ref i :: as, s :: Δ => (∃ p c c', Γ[i]? = some (.own p c) ∧ s = .own p c' ∧ c'.fp = c.fp) ∧ mates Γ as Δ
  | _, _ => False
theorem slot_uniq {x : Addr} : ∀ {G : List Sl} {j i : Nat} {q q' : Addr} {c c' : Cel}, (owned G).Nodup → G[j]? = some (.own q c) → G[i]? = some (.own q' c') → x ∈ q :: c.fp → x ∈ q' :: c'.fp → j = i := by
  intro G
  induction G with
  | nil => intro j i q q' c c' _ h; simp at h
  | cons a r ih =>
    intro j i q q' c c' nd h1 h2 h3 h4
    have ndr : (owned r).Nodup := by
      cases a with
      | un => exact nd
      | dat d => exact nd
      | own p c => exact (List.nodup_append.mp nd).2.1
    cases j with
    | zero =>
      cases i with
      | zero => rfl
      | succ i =>
        have e1 : a = .own q c := by simpa using h1
        subst e1
        have h2' : x ∈ owned r := owned_mem.mpr ⟨i, q', c', by simpa using h2, h4⟩
        exact absurd rfl ((List.nodup_append.mp (show ((q :: c.fp) ++ owned r).Nodup from nd)).2.2 x h3 x h2')
    | succ j =>
      cases i with
      | zero =>
        have e1 : a = .own q' c' := by simpa using h2
        subst e1
        have h2' : x ∈ owned r := owned_mem.mpr ⟨j, q, c, by simpa using h1, h3⟩
        exact absurd rfl ((List.nodup_append.mp (show ((q' :: c'.fp) ++ owned r).Nodup from nd)).2.2 x h4 x h2')
      | succ i => exact congrArg Nat.succ (ih (j := j) (i := i) ndr (by simpa using h1) (by simpa using h2) h3 h4)
theorem sub_mem {Γ : List Sl} {x : Addr} : ∀ {as : List Ar}, x ∈ owned (sub Γ as) → ∃ i q c, i ∈ refs as ∧ Γ[i]? = some (.own q c) ∧ x ∈ q :: c.fp
  | [], h => by simp [sub, owned] at h
  | .dat d :: as, h => by
    obtain ⟨i, q, c, h1, h2⟩ := sub_mem (as := as) h
    exact ⟨i, q, c, h1, h2⟩
  | .ref i :: as, h => by
    have h' : x ∈ owned ((Γ[i]?).getD .un :: sub Γ as) := h
    have rest : x ∈ owned (sub Γ as) → ∃ i_1 q c, i_1 ∈ refs (.ref i :: as) ∧ Γ[i_1]? = some (.own q c) ∧ x ∈ q :: c.fp := fun z => by
      obtain ⟨j, q, c, h1, h2⟩ := sub_mem (as := as) z
      exact ⟨j, q, c, List.mem_cons_of_mem _ h1, h2⟩
    cases e : Γ[i]? with
    | none => rw [e] at h'; exact rest h'
    | some s =>
      rw [e] at h'
      cases s with
      | un => exact rest h'
      | dat d => exact rest h'
      | own q c =>
        rcases List.mem_append.mp (show x ∈ (q :: c.fp) ++ owned (sub Γ as) from h') with z | z
        · exact ⟨i, q, c, List.mem_cons_self, e, z⟩
        · exact rest z
theorem mem_sub {Γ : List Sl} {x : Addr} {i : Nat} {q : Addr} {c : Cel} (hi : Γ[i]? = some (.own q c)) (hx : x ∈ q :: c.fp) : ∀ {as : List Ar}, i ∈ refs as → x ∈ owned (sub Γ as)
  | [], h => by simp [refs] at h
  | .dat d :: as, h => mem_sub hi hx (as := as) h
  | .ref j :: as, h => by
    show x ∈ owned ((Γ[j]?).getD .un :: sub Γ as)
    rcases List.mem_cons.mp (show i ∈ j :: refs as from h) with z | z
    · subst z
      rw [hi]
      exact List.mem_append_left _ hx
    · have h2 := mem_sub hi hx (as := as) z
      cases (Γ[j]?).getD .un with
      | un => exact h2
      | dat d => exact h2
      | own p c => exact List.mem_append_right _ h2
theorem sub_nd {Γ : List Sl} (nd : (owned Γ).Nodup) : ∀ {as : List Ar}, (refs as).Nodup → (owned (sub Γ as)).Nodup
  | [], _ => by simp [sub, owned]
  | .dat d :: as, h => sub_nd nd (as := as) h
  | .ref i :: as, h => by
    have h' := List.nodup_cons.mp (show (i :: refs as).Nodup from h)
    have ih := sub_nd nd (as := as) h'.2
    show (owned ((Γ[i]?).getD .un :: sub Γ as)).Nodup
    cases e : Γ[i]? with
    | none => exact ih
    | some s =>
      cases s with
      | un => exact ih
      | dat d => exact ih
      | own q c =>
        show ((q :: c.fp) ++ owned (sub Γ as)).Nodup
        refine List.nodup_append.mpr ⟨?_, ih, fun x hx y hy z => ?_⟩
        · have key : ∀ (G : List Sl) (i : Nat), G[i]? = some (.own q c) → (owned G).Nodup → (q :: c.fp).Nodup := by
            intro G
            induction G with
            | nil => intro i h; simp at h
            | cons a r ih2 =>
              intro i h nd2
              cases i with
              | zero =>
                have e1 : a = .own q c := by simpa using h
                subst e1
                exact (List.nodup_append.mp (show ((q :: c.fp) ++ owned r).Nodup from nd2)).1
              | succ i =>
                refine ih2 i (by simpa using h) ?_
                cases a with
                | un => exact nd2
                | dat d => exact nd2
                | own p c => exact (List.nodup_append.mp nd2).2.1
          exact key Γ i e nd
        · subst z
          obtain ⟨j, q', c', h1, h2, h3⟩ := sub_mem hy
          have := slot_uniq nd e h2 hx h3
          subst this
          exact h'.1 h1
theorem sub_ok {K : PySem.W.Frag} {R H : Hp} {Γ : List Sl} {σ : L2.St} (o : Ok K R Γ σ H) : ∀ {as : List Ar} {vs : List V}, Ars K R σ as vs → ∀ (i : Nat) s, (sub Γ as)[i]? = some s → slok K R H s (vs.map some)[i]?
  | _, _, .nil, i, s, h => by simp [sub] at h
  | .dat d :: as, v :: vs, .cons ha _, 0, s, h => by
    have e : s = .dat d := by simpa [sub] using h.symm
    subst e
    exact ⟨v, rfl, ha⟩
  | .ref j :: as, v :: vs, .cons ha _, 0, s, h => by
    have e : (Γ[j]?).getD .un = s := by simpa [sub] using h
    cases ej : Γ[j]? with
    | none => rw [ej] at e; subst e; trivial
    | some t =>
      rw [ej] at e
      have e' : t = s := e
      subst e'
      have q := o.sl j t ej
      have ha' : σ[j]? = some (some v) := ha
      rw [ha'] at q
      exact q
  | .dat d :: as, v :: vs, .cons _ t, i + 1, s, h => by
    simpa using sub_ok o t i s (by simpa [sub] using h)
  | .ref j :: as, v :: vs, .cons _ t, i + 1, s, h => by
    simpa using sub_ok o t i s (by simpa [sub] using h)
theorem ars_len {K : PySem.W.Frag} {R : Hp} {σ : L2.St} : ∀ {as : List Ar} {vs : List V}, Ars K R σ as vs → as.length = vs.length
  | _, _, .nil => rfl
  | _, _, .cons _ t => by rw [List.length_cons, List.length_cons, ars_len t]
/-- what stands in the slots behind -/
theorem wr_get : ∀ {as : List Ar} {Γ Δ : List Sl} {j : Nat}, j ∉ refs as → (wr Γ as Δ)[j]? = Γ[j]?
  | [], _, _, _, _ => by simp [wr]
  | .dat d :: as, Γ, [], _, _ => by simp [wr]
  | .ref i :: as, Γ, [], _, _ => by simp [wr]
  | .dat d :: as, Γ, s :: Δ, j, h => wr_get (as := as) (Γ := Γ) (Δ := Δ) h
  | .ref i :: as, Γ, s :: Δ, j, h => by
    have h' : j ≠ i ∧ j ∉ refs as := by simpa [refs] using h
    show (wr (Γ.set i s) as Δ)[j]? = _
    rw [wr_get (as := as) h'.2, List.getElem?_set_ne (Ne.symm h'.1)]
theorem wr_len : ∀ {as : List Ar} {Γ Δ : List Sl}, (wr Γ as Δ).length = Γ.length
  | [], _, _ => by simp [wr]
  | .dat d :: as, Γ, [] => by simp [wr]
  | .ref i :: as, Γ, [] => by simp [wr]
  | .dat d :: as, Γ, s :: Δ => wr_len (as := as) (Γ := Γ) (Δ := Δ)
  | .ref i :: as, Γ, s :: Δ => by
    show (wr (Γ.set i s) as Δ).length = _
    rw [wr_len (as := as), List.length_set]
theorem mates_set {Γ : List Sl} {i : Nat} {s : Sl} : ∀ {as : List Ar} {Δ : List Sl}, i ∉ refs as → mates Γ as Δ → mates (Γ.set i s) as Δ
  | [], [], _, _ => trivial
  | .dat d :: as, _ :: Δ, h, m => ⟨m.1, mates_set (as := as) h m.2⟩
  | .ref j :: as, _ :: Δ, h, m => by
    have h' : i ≠ j ∧ i ∉ refs as := by simpa [refs] using h
    obtain ⟨⟨p, c, c', h1, h2, h3⟩, m2⟩ := m
    exact ⟨⟨p, c, c', by rw [List.getElem?_set_ne h'.1]; exact h1, h2, h3⟩, mates_set (as := as) h'.2 m2⟩
  | [], _ :: _, _, m => by cases m
  | .dat _ :: _, [], _, m => by cases m
  | .ref _ :: _, [], _, m => by cases m
theorem wr_owned : ∀ {as : List Ar} {Γ Δ : List Sl}, (refs as).Nodup → mates Γ as Δ → owned (wr Γ as Δ) = owned Γ
  | [], Γ, [], _, _ => rfl
  | .dat d :: as, Γ, _ :: Δ, h, m => wr_owned (as := as) (Γ := Γ) (Δ := Δ) h m.2
  | .ref j :: as, Γ, s :: Δ, h, m => by
    have h' := List.nodup_cons.mp (show (j :: refs as).Nodup from h)
    obtain ⟨⟨p, c, c', h1, h2, h3⟩, m2⟩ := m
    subst h2
    show owned (wr (Γ.set j (.own p c')) as Δ) = _
    rw [wr_owned (as := as) h'.2 (mates_set h'.1 m2), owned_set_eq h3 h1]
  | [], _, _ :: _, _, m => by cases m
  | .dat _ :: _, _, [], _, m => by cases m
  | .ref _ :: _, _, [], _, m => by cases m
/-- a slot that was lent: its cell behind -/
theorem wr_ref {K : PySem.W.Frag} {R : Hp} {σ : L2.St} {j : Nat} : ∀ {as : List Ar} {vs : List V} {Γ Δ : List Sl}, (refs as).Nodup → mates Γ as Δ → Ars K R σ as vs → j ∈ refs as → ∃ (l : Nat) (p : Addr) (c c' : Cel) (v : V), Γ[j]? = some (.own p c) ∧ Δ[l]? = some (.own p c') ∧ (wr Γ as Δ)[j]? = some (.own p c') ∧ vs[l]? = some v ∧ σ[j]? = some (some v)
  | [], _, _, _, _, _, _, h => by simp [refs] at h
  | .dat d :: as, v :: vs, Γ, s :: Δ, h, m, .cons _ t, hj => by
    obtain ⟨l, p, c, c', u, h1, h2, h3, h4, h5⟩ := wr_ref (as := as) (Γ := Γ) (Δ := Δ) h m.2 t hj
    exact ⟨l + 1, p, c, c', u, h1, by simpa using h2, h3, by simpa using h4, h5⟩
  | .ref i :: as, v :: vs, Γ, s :: Δ, h, m, .cons ha t, hj => by
    have h' := List.nodup_cons.mp (show (i :: refs as).Nodup from h)
    obtain ⟨⟨p, c, c', h1, h2, h3⟩, m2⟩ := m
    subst h2
    rcases List.mem_cons.mp (show j ∈ i :: refs as from hj) with z | z
    · subst z
      refine ⟨0, p, c, c', v, h1, rfl, ?_, rfl, ha⟩
      show (wr (Γ.set j (.own p c')) as Δ)[j]? = _
      rw [wr_get h'.1, List.getElem?_set_self (List.getElem?_eq_some_iff.mp h1).1]
    · obtain ⟨l, p2, c2, c2', u, g1, g2, g3, g4, g5⟩ := wr_ref (as := as) (Γ := Γ.set i (.own p c')) (Δ := Δ) h'.2 (mates_set h'.1 m2) t z
      have ne : i ≠ j := fun e => h'.1 (e ▸ z)
      rw [List.getElem?_set_ne ne] at g1
      exact ⟨l + 1, p2, c2, c2', u, g1, by simpa using g2, g3, by simpa using g4, g5⟩
  | .dat _ :: _, _, _, [], _, m, _, _ => by cases m
  | .ref _ :: _, _, _, [], _, m, _, _ => by cases m
/-- behind a call -/
theorem Ok.called {K : PySem.W.Frag} {R R' H H' : Hp} {Γ Δ : List Sl} {σ : L2.St} {as : List Ar} {vs : List V} (o : Ok K R Γ σ H) (hn : (refs as).Nodup) (ha : Ars K R σ as vs) (m : mates Γ as Δ) (s : Step R (sub Γ as) H R' Δ H') (o' : Ok K R' Δ (vs.map some) H') :
    Ok K R' (wr Γ as Δ) σ H' ∧ Step R Γ H R' (wr Γ as Δ) H' := by
  have eo : owned (wr Γ as Δ) = owned Γ := wr_owned hn m
  have subs : ∀ x, x ∈ owned (sub Γ as) → x ∈ owned Γ := fun x hx => by
    obtain ⟨i, q, c, _, h1, h2⟩ := sub_mem hx
    exact owned_mem.mpr ⟨i, q, c, h1, h2⟩
  refine ⟨⟨o'.rh, by rw [wr_len]; exact o.len, fun j t hj => ?_, fun p hp => ?_, by rw [eo]; exact o.nd⟩, ⟨s.rr, fun b u h1 h2 => s.fr b u h1 fun z => h2 (subs b z), s.al, fun b h1 h2 h3 => s.gw b h1 h2 fun z => h3 (subs b z), fun p hp => .inl (by rw [← eo]; exact hp)⟩⟩
  · by_cases hr : j ∈ refs as
    · obtain ⟨l, p, c, c', v, h1, h2, h3, h4, h5⟩ := wr_ref hn m ha hr
      rw [h3] at hj
      cases hj
      have q := o'.sl l _ h2
      rw [List.getElem?_map, h4] at q
      have q1 : some (some v) = some (some (V.ref p)) := q.1
      rw [h5]
      exact ⟨q1, q.2⟩
    · rw [wr_get hr] at hj
      have q := o.sl j t hj
      cases t with
      | un => trivial
      | dat d => obtain ⟨v, a, b⟩ := q; exact ⟨v, a, dp_same s.rr b⟩
      | own p c =>
        refine ⟨q.1, cok_keep q.2 s.rr fun x hx => ?_⟩
        have hm : x ∈ owned Γ := owned_mem.mpr ⟨j, p, c, hj, hx⟩
        have hns : x ∉ owned (sub Γ as) := fun z => by
          obtain ⟨i, q', c', h0, h1, h2⟩ := sub_mem z
          have := slot_uniq o.nd hj h1 hx h2
          subst this
          exact hr h0
        cases e : H x with
        | none => exact absurd e (o.ow x hm).2
        | some u => exact s.fr x u e hns
  · rw [eo] at hp
    by_cases hs : p ∈ owned (sub Γ as)
    · obtain ⟨i, q, c, h0, h1, h2⟩ := sub_mem hs
      obtain ⟨l, p', c1, c', v, g1, g2, g3, g4, g5⟩ := wr_ref hn m ha h0
      rw [h1] at g1
      cases g1
      have hd : p ∈ owned Δ := by
        refine owned_mem.mpr ⟨l, _, c', g2, ?_⟩
        have fp : c'.fp = c.fp := by
          have key : ∀ {as : List Ar} {Γ0 Δ : List Sl} {vs : List V}, (refs as).Nodup → mates Γ0 as Δ → Ars K R σ as vs → i ∈ refs as → ∀ {c c'}, Γ0[i]? = some (.own q c) → (wr Γ0 as Δ)[i]? = some (.own q c') → c'.fp = c.fp := by
            intro as
            induction as with
            | nil => intro _ _ _ _ _ _ h; simp [refs] at h
            | cons a as ih =>
              intro Γ0 Δ vs hn m ha hi c c' e1 e2
              cases Δ with
              | nil => cases a <;> cases m
              | cons s0 Δ =>
                cases vs with
                | nil => cases ha
                | cons v0 vs =>
                  cases ha with
                  | cons ha0 ha1 =>
                    cases a with
                    | dat d => exact ih hn m.2 ha1 hi e1 e2
                    | ref k =>
                      have h' := List.nodup_cons.mp (show (k :: refs as).Nodup from hn)
                      obtain ⟨⟨pp, cc, cc', f1, f2, f3⟩, m2⟩ := m
                      subst f2
                      rcases List.mem_cons.mp (show i ∈ k :: refs as from hi) with z | z
                      · subst z
                        rw [f1] at e1
                        cases e1
                        have e2' : (wr (Γ0.set i (.own q cc')) as Δ)[i]? = some (.own q c') := e2
                        rw [wr_get h'.1, List.getElem?_set_self (List.getElem?_eq_some_iff.mp f1).1] at e2'
                        cases e2'
                        exact f3
                      · have ne : k ≠ i := fun e => h'.1 (e ▸ z)
                        exact ih h'.2 (mates_set h'.1 m2) ha1 z (by rw [List.getElem?_set_ne ne]; exact e1) e2
          exact key hn m ha h0 h1 g3
        rw [fp]; exact h2
      exact o'.ow p hd
    · obtain ⟨h1, h2⟩ := o.ow p hp
      exact ⟨s.gw p h1 h2 hs, s.al p h2⟩
section
variable {X : Cx} {Γ Γ1 Γ2 Δ : List Sl} {e : Expr} {es : List Expr} {pos p : Pos} {x : Str} {as : List Ar}
theorem aj_nil : AJ X Γ [] [] Γ := pa_mono pa_nil fun σ H Q h => by
  obtain ⟨R, o, k⟩ := h
  exact k [] H R (Step.refl _ _ _) o .nil
theorem aj_dat {d : PyData} (ha : EJ X Γ e (.dat d) Γ1) (hr : AJ X Γ1 es as Γ2) (hs : starEach (e :: es) X.env = (false, eval e X.env) :: starEach es X.env := by rfl) : AJ X Γ (e :: es) (.dat d :: as) Γ2 :=
  pa_mono (pa_cons ha hr hs) fun σ H Q h => by
    obtain ⟨R, o, k⟩ := h
    exact ⟨R, o, fun v H1 R1 s1 o1 q1 => ⟨R1, o1, fun us H2 R2 s2 o2 q2 => k _ H2 R2 (s1.trans s2) o2 (.cons (dp_same s2.rr q1) q2)⟩⟩
/-- an owned slot, by reference -/
theorem aj_ref {i : Nat} {q : Addr} {c : Cel} (hN : X.N[i]? = some x) (hv : Vis X.env.scope x) (hΓ : Γ[i]? = some (.own q c)) (hr : AJ X Γ es as Γ2) (hs : starEach (.Name x pos :: es) X.env = (false, eval (.Name x pos) X.env) :: starEach es X.env := by rfl)
    (hd : (x == ("__debug__" : Str)) = false := by decide) (hcd : (x == ("__classdict__" : Str)) = false := by decide) : AJ X Γ (.Name x pos :: es) (.ref i :: as) Γ2 :=
  pa_mono (pa_cons (pe_var hN hv hd hcd) hr hs) fun σ H Q h => by
    obtain ⟨R, o, k⟩ := h
    obtain ⟨e1, _⟩ := o.sl i _ hΓ
    exact ⟨.ref q, e1, R, o, fun us H2 R2 s2 o2 q2 => k _ H2 R2 s2 o2 (.cons e1 q2)⟩
/-- a def called -/
theorem ej_call {k j : Nat} {rel : List Sl → Rs → List Sl → Prop} {r : Rs} (c : Cal X.prog X.w X.K X.mg X.base k x (Ct X.K rel) []) (hr : Room j X.A) (hk : k ≤ j) (hg : Gl X x) (ha : AJ X Γ (e :: es) as Γ1) (h : rel (sub Γ1 as) r Δ) (m : mates Γ1 as Δ)
    (hn : (refs as).Nodup := by decide) (hdb : (x == ("__debug__" : Str)) = false := by decide) (he : starEach (e :: es) X.env = (false, eval e X.env) :: starEach es X.env := by rfl) (hpl : (backTo pos (starEach es X.env)).any (·.1) = false := by rfl) :
    EJ X Γ (.Call (.Name x p) (e :: es) [] pos) r (wr Γ1 as Δ) := by
  obtain ⟨f, fd, ps, ds, F, h1, h2, h3, h4⟩ := c.ex
  refine pe_mono (pe_call (E := E0) F (hr.mono hk) hg h1 h2 h3 h4 pass0 ha hdb he hpl) fun σ H Q q => ?_
  obtain ⟨R, o, q⟩ := q
  refine ⟨R, o, fun vs H1 R1 s1 o1 q1 => ?_⟩
  show Ct X.K rel (vs ++ []) H1 Q E0
  rw [List.append_nil]
  refine ⟨R1, sub Γ1 as, r, Δ, h, ⟨o1.rh, ?_, sub_ok o1 q1, fun a ha => o1.ow a ?_, sub_nd o1.nd hn⟩, fun v H2 R2 s2 o2 hv => ?_⟩
  · unfold sub
    rw [List.length_map, List.length_map, ars_len q1]
  · obtain ⟨i, q', c', _, g1, g2⟩ := sub_mem ha
    exact owned_mem.mpr ⟨i, q', c', g1, g2⟩
  · obtain ⟨o3, s3⟩ := o1.called hn q1 m s2 o2
    refine q v H2 R2 (s1.trans s3) o3 (rsok_back s1.al ?_)
    cases r with
    | dat d => exact hv
    | new c =>
      obtain ⟨a, e1, c1, c2, c3⟩ := hv
      refine ⟨a, e1, c1, fun z hz => ⟨(c2 z hz).1, (c2 z hz).2.1, (c2 z hz).2.2.1, fun hm => ?_⟩, c3⟩
      rw [wr_owned hn m] at hm
      exact (o1.ow z hm).2 (c2 z hz).1
/-- all data -/
def dats (ds : List PyData) : List Sl := ds.map Sl.dat
theorem ej_callD {k j : Nat} {rel : List Sl → Rs → List Sl → Prop} {r : Rs} {ds : List PyData} (c : Cal X.prog X.w X.K X.mg X.base k x (Ct X.K rel) []) (hr : Room j X.A) (hk : k ≤ j) (hg : Gl X x) (ha : DJ X Γ (e :: es) ds Γ1) (h : rel (dats ds) r (dats ds))
    (hdb : (x == ("__debug__" : Str)) = false := by decide) (he : starEach (e :: es) X.env = (false, eval e X.env) :: starEach es X.env := by rfl) (hpl : (backTo pos (starEach es X.env)).any (·.1) = false := by rfl) :
    EJ X Γ (.Call (.Name x p) (e :: es) [] pos) r Γ1 := by
  obtain ⟨f, fd, ps, ds', F, h1, h2, h3, h4⟩ := c.ex
  have od : ∀ l : List PyData, owned (dats l) = [] := fun l => by
    induction l with
    | nil => rfl
    | cons a r ih => exact ih
  have sl : ∀ (R : Hp) (H : Hp) (l : List PyData) (vs : List V), DpAll X.K R vs l → ∀ (i : Nat) s, (dats l)[i]? = some s → slok X.K R H s (vs.map some)[i]? := fun R H l vs hl i s hs => by
    unfold dats at hs
    rw [List.getElem?_map] at hs
    cases e : l[i]? with
    | none => rw [e] at hs; cases hs
    | some d =>
      rw [e] at hs
      have e2 : s = .dat d := (Option.some.inj hs).symm
      subst e2
      obtain ⟨v, g1, g2⟩ := dps_get' hl e
      exact ⟨v, by rw [List.getElem?_map, g1]; rfl, g2⟩
  refine pe_mono (pe_call (E := E0) F (hr.mono hk) hg h1 h2 h3 h4 pass0 ha hdb he hpl) fun σ H Q q => ?_
  obtain ⟨R, o, q⟩ := q
  refine ⟨R, o, fun vs H1 R1 s1 o1 q1 => ?_⟩
  show Ct X.K rel (vs ++ []) H1 Q E0
  rw [List.append_nil]
  refine ⟨R1, dats ds, r, dats ds, h, ⟨o1.rh, by unfold dats; rw [List.length_map, List.length_map, dps_len q1], sl R1 H1 ds vs q1, fun a ha => (by rw [od] at ha; exact nomatch ha), (by rw [od]; exact List.nodup_nil)⟩, fun v H2 R2 s2 o2 hv => ?_⟩
  have g : Gw R1 H1 R2 H2 := ⟨fun b u hb => s2.fr b u hb (by rw [od]; simp), s2.rr, o2.rh, fun b hb1 hb2 => s2.gw b hb1 hb2 (by rw [od]; simp)⟩
  refine q v H2 R2 (s1.trans g.step) (o1.grow g) (rsok_back s1.al ?_)
  cases r with
  | dat d => exact hv
  | new c =>
    obtain ⟨a, e1, c1, c2, c3⟩ := hv
    exact ⟨a, e1, c1, fun z hz => ⟨(c2 z hz).1, (c2 z hz).2.1, (c2 z hz).2.2.1, fun hm => (o1.ow z hm).2 (c2 z hz).1⟩, c3⟩
end
end DL

/-! The data layer: operators and built-ins on data. -/
namespace DL
open L2 PyProof.Rows PySem PySem.Spec

def OpB (X : Cx) (f : Value → Value → Sem Value) (x y : PyData) (z : Rs) : Prop := ∃ r, OpR X f r ∧ OpD X.K r x y z
def CallB (X : Cx) (f : Value) (xs : List PyData) (z : Rs) : Prop := ∃ r, CallR X f r ∧ CallD X.K r xs z

section
variable {X : Cx} {Γ Γ1 Γ2 Γ3 : List Sl} {a b c e : Expr} {es : List Expr} {pos p : Pos} {x y : Str}
theorem ej_b {op : Operator} {d1 d2 : PyData} {z : Rs} (h : OpB X (binaryOp op) d1 d2 z) (ha : EJ X Γ a (.dat d1) Γ1) (hb : EJ X Γ1 b (.dat d2) Γ2) : EJ X Γ (.BinOp a op b pos) z Γ2 := let ⟨_, h1, h2⟩ := h; ej_bin h1 h2 ha hb
theorem ej_k {op : CmpOp} {d1 d2 : PyData} {z : Rs} (h : OpB X (compareOp op) d1 d2 z) (ha : EJ X Γ a (.dat d1) Γ1) (hb : EJ X Γ1 b (.dat d2) Γ2) (hm : behindInMarks op b = false := by first | exact nomark _ | rfl) : EJ X Γ (.Compare a [op] [b] pos) z Γ2 := let ⟨_, h1, h2⟩ := h; ej_cmp h1 h2 ha hb hm
theorem tj_k {op : CmpOp} {d1 d2 : PyData} {k : Bool} (h : OpB X (compareOp op) d1 d2 (.dat (.bool k))) (ha : EJ X Γ a (.dat d1) Γ1) (hb : EJ X Γ1 b (.dat d2) Γ2) (hm : behindInMarks op b = false := by first | exact nomark _ | rfl) : TJ X Γ (.Compare a [op] [b] pos) k Γ2 := let ⟨_, h1, h2⟩ := h; tj_cmp h1 h2 ha hb hm
theorem ej_kk {op op' : CmpOp} {d1 d2 d3 : PyData} {k1 k2 : Bool} (h : OpB X (compareOp op) d1 d2 (.dat (.bool k1))) (h' : OpB X (compareOp op') d2 d3 (.dat (.bool k2))) (ha : EJ X Γ a (.dat d1) Γ) (hb : EJ X Γ b (.dat d2) Γ) (hc : EJ X Γ c (.dat d3) Γ)
    (hm : lastMarks [op, op'] [b, c] = false := by with_unfolding_all rfl) : EJ X Γ (.Compare a [op, op'] [b, c] pos) (.dat (.bool (k1 && k2))) Γ := let ⟨_, h1, h2⟩ := h; let ⟨_, h3, h4⟩ := h'; ej_chain h1 h3 h2 h4 ha hb hc hm
theorem tj_kk {op op' : CmpOp} {d1 d2 d3 : PyData} {k1 k2 : Bool} (h : OpB X (compareOp op) d1 d2 (.dat (.bool k1))) (h' : OpB X (compareOp op') d2 d3 (.dat (.bool k2))) (ha : EJ X Γ a (.dat d1) Γ) (hb : EJ X Γ b (.dat d2) Γ) (hc : EJ X Γ c (.dat d3) Γ)
    (hm : lastMarks [op, op'] [b, c] = false := by with_unfolding_all rfl) : TJ X Γ (.Compare a [op, op'] [b, c] pos) (k1 && k2) Γ := let ⟨_, h1, h2⟩ := h; let ⟨_, h3, h4⟩ := h'; tj_chain h1 h3 h2 h4 ha hb hc hm
theorem ej_cb {id : String} {xs : List PyData} {z : Rs} (h : CallB X (.builtin id) xs z) (hg : Gl X x) (hm : X.mg x = none) (hv : bootBuiltins x = some (.builtin id)) (ha : DJ X Γ (e :: es) xs Γ1)
    (hn : x ≠ "__name__" := by decide) (hdb : (x == ("__debug__" : Str)) = false := by decide)
    (he : starEach (e :: es) X.env = (false, eval e X.env) :: starEach es X.env := by rfl) (hpl : (backTo pos (starEach es X.env)).any (·.1) = false := by rfl) : EJ X Γ (.Call (.Name x p) (e :: es) [] pos) z Γ1 := let ⟨_, h1, h2⟩ := h; ej_callB h1 h2 hg hm hv ha hn hdb he hpl
theorem ej_ct {T : String} {xs : List PyData} {z : Rs} (h : CallB X (.type T) xs z) (hg : Gl X x) (hm : X.mg x = none) (hv : bootBuiltins x = some (.type T)) (ha : DJ X Γ (e :: es) xs Γ1)
    (hn : x ≠ "__name__" := by decide) (hdb : (x == ("__debug__" : Str)) = false := by decide)
    (he : starEach (e :: es) X.env = (false, eval e X.env) :: starEach es X.env := by rfl) (hpl : (backTo pos (starEach es X.env)).any (·.1) = false := by rfl) : EJ X Γ (.Call (.Name x p) (e :: es) [] pos) z Γ1 := let ⟨_, h1, h2⟩ := h; ej_callTy h1 h2 hg hm hv ha hn hdb he hpl
end

/-! ### ints -/
section
variable {X : Cx} {i j : Int}
theorem opd_I0 {K : PySem.W.Frag} {g : Int → Int → V} {z : PyData} (h : ∀ R, Dp K R (g i j) z) : OpD K (rI0 g) (.int i) (.int j) (.dat z) := fun v u R H Q rh hv hu k => by
  cases hv
  cases hu
  exact ⟨i, j, rfl, rfl, k _ R H (Gw.refl rh) (h R)⟩
theorem opd_I {K : PySem.W.Frag} {C : Int → Int → Prop} {g : Int → Int → V} {z : PyData} (hc : C i j) (h : ∀ R, Dp K R (g i j) z) : OpD K (rI C g) (.int i) (.int j) (.dat z) := fun v u R H Q rh hv hu k => by
  cases hv
  cases hu
  exact ⟨i, j, rfl, rfl, hc, k _ R H (Gw.refl rh) (h R)⟩
theorem ob_add : OpB X (binaryOp .Add) (.int i) (.int j) (.dat (.int (i + j))) := ⟨_, op_add, opd_I0 fun _ => .int _⟩
theorem ob_sub : OpB X (binaryOp .Sub) (.int i) (.int j) (.dat (.int (i - j))) := ⟨_, op_sub, opd_I0 fun _ => .int _⟩
theorem ob_mul (h : CMul i j) : OpB X (binaryOp .Mult) (.int i) (.int j) (.dat (.int (i * j))) := ⟨_, op_mul, opd_I h fun _ => .int _⟩
theorem ob_lt : OpB X (compareOp .Lt) (.int i) (.int j) (.dat (.bool (decide (i < j)))) := ⟨_, op_lt, opd_I0 fun _ => .bl _⟩
theorem ob_le : OpB X (compareOp .LtE) (.int i) (.int j) (.dat (.bool (decide (i ≤ j)))) := ⟨_, op_le, opd_I0 fun _ => .bl _⟩
theorem ob_gt : OpB X (compareOp .Gt) (.int i) (.int j) (.dat (.bool (decide (j < i)))) := ⟨_, op_gt, opd_I0 fun _ => .bl _⟩
theorem ob_ge : OpB X (compareOp .GtE) (.int i) (.int j) (.dat (.bool (decide (j ≤ i)))) := ⟨_, op_ge, opd_I0 fun _ => .bl _⟩
end
/-! ### == of data -/
theorem ob_eq {X : Cx} {d1 d2 : PyData} (hu : X.A.units + 64 < cLine) (h1 : SeqAt.shaped d1 = true) (h2 : SeqAt.shaped d2 = true) : OpB X (compareOp .Eq) d1 d2 (.dat (.bool (PyData.eqv d1 d2))) := ⟨_, op_eqD hu, fun v u R H Q rh hv hw k =>
  ⟨d1, d2, dp_same rh hv, dp_same rh hw, h1, h2, k _ R H (Gw.refl rh) (.bl _)⟩⟩
theorem ob_ne {X : Cx} {d1 d2 : PyData} (hu : X.A.units + 64 < cLine) (h1 : SeqAt.shaped d1 = true) (h2 : SeqAt.shaped d2 = true) : OpB X (compareOp .NotEq) d1 d2 (.dat (.bool (!PyData.eqv d1 d2))) := ⟨_, op_neD hu, fun v u R H Q rh hv hw k =>
  ⟨d1, d2, dp_same rh hv, dp_same rh hw, h1, h2, k _ R H (Gw.refl rh) (.bl _)⟩⟩
theorem ob_is {X : Cx} {b1 b2 : Bool} : OpB X (compareOp .Is) (.bool b1) (.bool b2) (.dat (.bool (decide (b1 = b2)))) := ⟨_, op_is_bl, fun v u R H Q rh hv hw k => by
  cases hv; cases hw
  exact ⟨b1, b2, rfl, rfl, k _ R H (Gw.refl rh) (.bl _)⟩⟩
theorem ob_isnot {X : Cx} {b1 b2 : Bool} : OpB X (compareOp .IsNot) (.bool b1) (.bool b2) (.dat (.bool (!decide (b1 = b2)))) := ⟨_, op_isnot_bl, fun v u R H Q rh hv hw k => by
  cases hv; cases hw
  exact ⟨b1, b2, rfl, rfl, k _ R H (Gw.refl rh) (.bl _)⟩⟩
/-! ### in -/
section
variable {X : Cx} {i : Int} {ns : List Int}
theorem inV_ints (i : Int) (ns : List Int) : inV (.int i) (ns.map V.int) = ns.contains i := by
  unfold inV
  rw [List.any_map]
  induction ns with
  | nil => rfl
  | cons n r ih =>
    rw [List.any_cons, ih, List.contains_cons]
    show ((n == i) || _) = ((i == n) || _)
    congr 1
    by_cases h : n = i
    · rw [h]
    · rw [beq_false_of_ne h, beq_false_of_ne (Ne.symm h)]
theorem flat_ints (ns : List Int) : (ns.map V.int).all flatV = true := by
  rw [List.all_map, List.all_eq_true]
  intro x _
  rfl
theorem ob_inT : OpB X (compareOp .In) (.int i) (.tuple (ns.map .int)) (.dat (.bool (ns.contains i))) := ⟨_, op_in_seq, fun v u R H Q rh hv hw k => by
  cases hv
  obtain ⟨a, vs, rfl, h1, h2⟩ := sqt_inj_data hw
  have := dps_ints h2
  subst this
  refine ⟨a, _, rfl, .inr (sqt_same rh h1), rfl, flat_ints ns, ?_⟩
  show Q (.bl (inV _ _)) H
  rw [inV_ints]
  exact k _ R H (Gw.refl rh) (.bl _)⟩
theorem ob_inL : OpB X (compareOp .In) (.int i) (.list (ns.map .int)) (.dat (.bool (ns.contains i))) := ⟨_, op_in_seq, fun v u R H Q rh hv hw k => by
  cases hv
  obtain ⟨a, vs, rfl, h1, h2⟩ := sql_inj_data hw
  have := dps_ints h2
  subst this
  refine ⟨a, _, rfl, .inl (rh.seq h1), rfl, flat_ints ns, ?_⟩
  show Q (.bl (inV _ _)) H
  rw [inV_ints]
  exact k _ R H (Gw.refl rh) (.bl _)⟩
theorem ob_ninT : OpB X (compareOp .NotIn) (.int i) (.tuple (ns.map .int)) (.dat (.bool (!ns.contains i))) := ⟨_, op_notIn_seq, fun v u R H Q rh hv hw k => by
  cases hv
  obtain ⟨a, vs, rfl, h1, h2⟩ := sqt_inj_data hw
  have := dps_ints h2
  subst this
  refine ⟨a, _, rfl, .inr (sqt_same rh h1), rfl, flat_ints ns, ?_⟩
  show Q (.bl (!inV _ _)) H
  rw [inV_ints]
  exact k _ R H (Gw.refl rh) (.bl _)⟩
theorem ob_ninL : OpB X (compareOp .NotIn) (.int i) (.list (ns.map .int)) (.dat (.bool (!ns.contains i))) := ⟨_, op_notIn_seq, fun v u R H Q rh hv hw k => by
  cases hv
  obtain ⟨a, vs, rfl, h1, h2⟩ := sql_inj_data hw
  have := dps_ints h2
  subst this
  refine ⟨a, _, rfl, .inl (rh.seq h1), rfl, flat_ints ns, ?_⟩
  show Q (.bl (!inV _ _)) H
  rw [inV_ints]
  exact k _ R H (Gw.refl rh) (.bl _)⟩
end
/-! ### tuples, lists: +, slices, items -/
section
variable {X : Cx} {ds es : List PyData}
theorem ob_catT (hl : ds.length + es.length ≤ sizeLine) : OpB X (binaryOp .Add) (.tuple ds) (.tuple es) (.dat (.tuple (ds ++ es))) := ⟨_, op_catA, fun v u R H Q rh hv hw k => by
  obtain ⟨a, vs, rfl, h1, h2⟩ := sqt_inj_data hv
  obtain ⟨b, us, rfl, g1, g2⟩ := sqt_inj_data hw
  refine ⟨a, b, vs, us, rfl, rfl, sqt_same rh h1, sqt_same rh g1, by rw [dps_len h2, dps_len g2]; exact hl, fun e => ?_, fun e1 e2 => ?_, fun _ _ => vo_tup rh (dps_append h2 g2) k⟩
  · subst e
    cases h2
    exact k _ R H (Gw.refl rh) (.tup g1 g2)
  · subst e2
    cases g2
    rw [List.append_nil] at k
    exact k _ R H (Gw.refl rh) (.tup h1 h2)⟩
def rCatL (K : PySem.W.Frag) : R2 := fun x y H Q => ∃ l b xs zs, x = .ref l ∧ y = .ref b ∧ SqL K H l xs ∧ SqL K H b zs ∧ xs.length + zs.length ≤ sizeLine ∧ ∀ p, H p = none → Q (.ref p) (upd H p (.lst (xs ++ zs)))
theorem op_catL : OpR X (binaryOp .Add) (rCatL X.K) := by
  intro pins s σ H x y v u Q I rx ry h
  obtain ⟨l, b, xs, zs, rfl, rfl, hH, hB, hz, q⟩ := h
  cases rx
  cases ry
  obtain ⟨its, r, pl, hl⟩ := I.list hH
  obtain ⟨its2, r2, pl2, hl2⟩ := I.list hB
  obtain ⟨⟨c1, d1, t1, l1⟩, g1, k1, n1, a1⟩ := pl.isList
  obtain ⟨⟨c2, d2, t2, l2⟩, g2, k2, n2, a2⟩ := pl2.isList
  simp only at k1 a1 k2 a2
  subst k1 a1 k2 a2
  have z1 := r.length
  have z2 := r2.length
  have hw := PyProof.Rows.list_addW l b its.toArray its2.toArray n1 n2 d1 d2 l1 l2 (by rw [List.size_toArray, List.size_toArray]; omega)
  refine concat_meets ⟨_, g1, rfl⟩ ⟨_, g2, rfl⟩ noFill_list_add seq_list_add F.slot_list_add F.entry_list_add (F.args_list_add_2 _ _) hw ⟨g1, g2, ?_⟩
  rw [show its.toArray ++ its2.toArray = (its ++ its2).toArray by simp]
  exact ⟨.ref _, _, I.lnew (t' := s.toks) (r.append r2) (by rw [List.length_append]; omega), rfl, q _ I.fresh⟩
theorem ob_catL (hl : ds.length + es.length ≤ sizeLine) : OpB X (binaryOp .Add) (.list ds) (.list es) (.new (.lst (ds ++ es))) := ⟨_, op_catL, fun v u R H Q rh hv hw k => by
  obtain ⟨a, vs, rfl, h1, h2⟩ := sql_inj_data hv
  obtain ⟨b, us, rfl, g1, g2⟩ := sql_inj_data hw
  exact ⟨a, b, vs, us, rfl, rfl, rh.seq h1, rh.seq g1, by rw [dps_len h2, dps_len g2]; exact hl, vo_lst rh (dps_append h2 g2) k⟩⟩
def cutD {α : Type} (xs : List α) (lo hi : Option Int) : List α := (xs.drop (HT.sIx xs.length 0 lo)).take (HT.sIx xs.length xs.length hi - HT.sIx xs.length 0 lo)
theorem cut_dp {K : PySem.W.Frag} {R : Hp} {vs : List V} {ds : List PyData} (h : DpAll K R vs ds) (lo hi : Option Int) : DpAll K R (cutV vs lo hi) (cutD ds lo hi) := by
  unfold cutV cutD
  rw [dps_len h]
  exact dps_take _ (dps_drop _ h)
end
section
variable {X : Cx} {Γ Γ1 Γ2 Γ3 : List Sl} {a b c e : Expr} {lo hi : Option Expr} {pos p2 : Pos}
/-- a slice's parts -/
def tPt (K : PySem.W.Frag) (Γ : List Sl) (o : Option Int) (Γ' : List Sl) : TO := fun σ H Q => ∃ R, Ok K R Γ σ H ∧ ∀ H' R', Step R Γ H R' Γ' H' → Ok K R' Γ' σ H' → Q o H'
def PJ (X : Cx) (Γ : List Sl) (e : Option Expr) (o : Option Int) (Γ' : List Sl) : Prop := PO X e (tPt X.K Γ o Γ')
theorem po_mono {e : Option Expr} {t t' : TO} (h : PO X e t) (m : ∀ σ H Q, t' σ H Q → t σ H Q) : PO X e t' := ⟨fun pins s σ H Q I q => h.run pins s σ H Q I (m σ H Q q)⟩
theorem pj_none : PJ X Γ none none Γ := po_mono po_none fun σ H Q h => by
  obtain ⟨R, o, k⟩ := h
  exact k H R (Step.refl _ _ _) o
theorem pj_some {i : Int} (h : EJ X Γ e (.dat (.int i)) Γ1) : PJ X Γ (some e) (some i) Γ1 := po_mono (po_some h) fun σ H Q h => by
  obtain ⟨R, o, k⟩ := h
  refine ⟨R, o, fun v H1 R1 s1 o1 q1 => ?_⟩
  cases (show Dp X.K R1 v (.int i) from q1)
  exact ⟨i, rfl, k H1 R1 s1 o1⟩
theorem ej_sl {r : V → Option Int → Option Int → Hp → VK → Prop} {d : PyData} {l u : Option Int} {z : Rs} (hr : SlR X r) (hd : ∀ v R H Q, Same R H → Dp X.K R v d → VO X.K R H z Q → r v l u H Q)
    (he : EJ X Γ e (.dat d) Γ1) (hl : PJ X Γ1 lo l Γ2) (hu : PJ X Γ2 hi u Γ3) : EJ X Γ (.Subscript e (.Slice lo hi none p2) pos) z Γ3 := pe_mono (pe_slice hr he hl hu) fun σ H Q h => by
  obtain ⟨R, o, k⟩ := h
  refine ⟨R, o, fun v H1 R1 s1 o1 q1 => ⟨R1, o1, fun H2 R2 s2 o2 => ⟨R2, o2, fun H3 R3 s3 o3 => ?_⟩⟩⟩
  exact hd v R3 H3 Q o3.rh (dp_same (s2.rr.trans s3.rr) q1) (tE_fin ((s1.trans s2).trans s3) o3 k)
theorem ej_slT {ds : List PyData} {l u : Option Int} (he : EJ X Γ e (.dat (.tuple ds)) Γ1) (hl : PJ X Γ1 lo l Γ2) (hu : PJ X Γ2 hi u Γ3) : EJ X Γ (.Subscript e (.Slice lo hi none p2) pos) (.dat (.tuple (cutD ds l u))) Γ3 :=
  ej_sl sl_tupA (fun v R H Q rh hv k => by
    obtain ⟨a, vs, rfl, h1, h2⟩ := sqt_inj_data hv
    refine ⟨a, vs, rfl, sqt_same rh h1, fun w => ?_, fun _ => vo_tup rh (cut_dp h2 l u) k⟩
    have e : cutD ds l u = ds := by
      unfold cutD
      rw [← dps_len h2, w.1, w.2, List.drop_zero, Nat.sub_zero, dps_len h2, List.take_length]
    rw [e] at k
    exact k _ R H (Gw.refl rh) (.tup h1 h2)) he hl hu
theorem ej_slL {ds : List PyData} {l u : Option Int} (he : EJ X Γ e (.dat (.list ds)) Γ1) (hl : PJ X Γ1 lo l Γ2) (hu : PJ X Γ2 hi u Γ3) : EJ X Γ (.Subscript e (.Slice lo hi none p2) pos) (.new (.lst (cutD ds l u))) Γ3 :=
  ej_sl sl_list (fun v R H Q rh hv k => by
    obtain ⟨a, vs, rfl, h1, h2⟩ := sql_inj_data hv
    exact ⟨a, vs, rfl, rh.seq h1, vo_lst rh (cut_dp h2 l u) k⟩) he hl hu
theorem ej_revL {ds : List PyData} {kk : Nat} {p1 p3 : Pos} (he : EJ X Γ e (.dat (.list ds)) Γ1) : EJ X Γ (.Subscript e (.Slice none none (some (.UnaryOp .USub (.Constant (.int 1) kk p1) p2)) p3) pos) (.new (.lst ds.reverse)) Γ1 :=
  pe_mono (pe_revL he) fun σ H Q h => by
    obtain ⟨R, o, k⟩ := h
    refine ⟨R, o, fun v H1 R1 s1 o1 q1 => ?_⟩
    obtain ⟨a, vs, rfl, h1, h2⟩ := sql_inj_data q1
    exact ⟨a, vs, rfl, o1.rh.seq h1, vo_lst o1.rh (dps_rev h2) (tE_fin s1 o1 k)⟩
theorem atI_dp {K : PySem.W.Frag} {R : Hp} {vs : List V} {ds : List PyData} {i : Int} {d : PyData} (h : DpAll K R vs ds) (hd : atI ds i = some d) : ∃ v, atI vs i = some v ∧ Dp K R v d := by
  unfold atI at hd ⊢
  rw [dps_len h]
  cases e : ixN ds.length i with
  | none => rw [e] at hd; cases hd
  | some j =>
    rw [e] at hd
    exact dps_get' h hd
theorem ej_ix {r : R2} {d1 d2 z : PyData} (hr : IxR X r) (hs : PlainIx b) (hd : OpD X.K r d1 d2 (.dat z)) (ha : EJ X Γ a (.dat d1) Γ1) (hb : EJ X Γ1 b (.dat d2) Γ2) : EJ X Γ (.Subscript a b pos) (.dat z) Γ2 :=
  pe_mono (pe_ix hr ha hb hs) fun σ H Q h => by
    obtain ⟨R, o, k⟩ := h
    refine ⟨R, o, fun v H1 R1 s1 o1 q1 => ⟨R1, o1, fun u H2 R2 s2 o2 q2 => hd v u R2 H2 Q o2.rh (dp_same s2.rr q1) q2 (tE_fin (s1.trans s2) o2 k)⟩⟩
theorem ej_ixT {ds : List PyData} {i : Int} {d : PyData} (hi : atI ds i = some d) (ha : EJ X Γ a (.dat (.tuple ds)) Γ1) (hb : EJ X Γ1 b (.dat (.int i)) Γ2) (hs : PlainIx b := by exact fun _ _ => rfl) : EJ X Γ (.Subscript a b pos) (.dat d) Γ2 :=
  ej_ix ix_tup hs (fun v u R H Q rh hv hw k => by
    cases hw
    obtain ⟨a, vs, rfl, h1, h2⟩ := sqt_inj_data hv
    obtain ⟨y, g1, g2⟩ := atI_dp h2 hi
    exact ⟨a, vs, i, y, rfl, rfl, sqt_same rh h1, g1, k _ R H (Gw.refl rh) g2⟩) ha hb
theorem ej_ixL {ds : List PyData} {i : Int} {d : PyData} (hi : atI ds i = some d) (ha : EJ X Γ a (.dat (.list ds)) Γ1) (hb : EJ X Γ1 b (.dat (.int i)) Γ2) (hs : PlainIx b := by exact fun _ _ => rfl) : EJ X Γ (.Subscript a b pos) (.dat d) Γ2 :=
  ej_ix ix_list hs (fun v u R H Q rh hv hw k => by
    cases hw
    obtain ⟨a, vs, rfl, h1, h2⟩ := sql_inj_data hv
    obtain ⟨y, g1, g2⟩ := atI_dp h2 hi
    exact ⟨a, vs, i, y, rfl, rfl, rh.seq h1, g1, k _ R H (Gw.refl rh) g2⟩) ha hb
end
/-! ### built-ins -/
section
variable {X : Cx} {ds : List PyData}
theorem cb_lenT : CallB X (.builtin "len") [.tuple ds] (.dat (.int ds.length)) := ⟨_, call_len_seq, fun vs R H Q rh h k => by
  cases h with
  | cons h1 h2 =>
    cases h2
    obtain ⟨a, us, rfl, g1, g2⟩ := sqt_inj_data h1
    refine ⟨a, us, rfl, .inr (sqt_same rh g1), ?_⟩
    rw [dps_len g2]
    exact k _ R H (Gw.refl rh) (.int _)⟩
theorem cb_lenL : CallB X (.builtin "len") [.list ds] (.dat (.int ds.length)) := ⟨_, call_len_seq, fun vs R H Q rh h k => by
  cases h with
  | cons h1 h2 =>
    cases h2
    obtain ⟨a, us, rfl, g1, g2⟩ := sql_inj_data h1
    refine ⟨a, us, rfl, .inl (rh.seq g1), ?_⟩
    rw [dps_len g2]
    exact k _ R H (Gw.refl rh) (.int _)⟩
theorem cb_all (hc : X.calm = true) {bs : List Bool} : CallB X (.builtin "all") [.list (bs.map .bool)] (.dat (.bool (bs.all id))) := ⟨_, cr_all hc, fun vs R H Q rh h k => by
  cases h with
  | cons h1 h2 =>
    cases h2
    obtain ⟨a, us, rfl, g1, g2⟩ := sql_inj_data h1
    have := dps_bools g2
    subst this
    exact ⟨a, bs, rfl, rh.seq g1, k _ R H (Gw.refl rh) (.bl _)⟩⟩
theorem cb_any (hc : X.calm = true) {bs : List Bool} : CallB X (.builtin "any") [.list (bs.map .bool)] (.dat (.bool (bs.any id))) := ⟨_, cr_any hc, fun vs R H Q rh h k => by
  cases h with
  | cons h1 h2 =>
    cases h2
    obtain ⟨a, us, rfl, g1, g2⟩ := sql_inj_data h1
    have := dps_bools g2
    subst this
    exact ⟨a, bs, rfl, rh.seq g1, k _ R H (Gw.refl rh) (.bl _)⟩⟩
theorem cb_sum (hc : X.calm = true) {ns : List Int} : CallB X (.builtin "sum") [.list (ns.map .int)] (.dat (.int ns.sum)) := ⟨_, cr_sum hc, fun vs R H Q rh h k => by
  cases h with
  | cons h1 h2 =>
    cases h2
    obtain ⟨a, us, rfl, g1, g2⟩ := sql_inj_data h1
    have := dps_ints g2
    subst this
    exact ⟨a, ns, rfl, rh.seq g1, k _ R H (Gw.refl rh) (.int _)⟩⟩
theorem cb_max (hc : X.calm = true) {ns : List Int} {m : Int} (hm : m ∈ ns) (hle : ∀ y ∈ ns, y ≤ m) : CallB X (.builtin "max") [.list (ns.map .int)] (.dat (.int m)) := ⟨_, cr_max hc, fun vs R H Q rh h k => by
  cases h with
  | cons h1 h2 =>
    cases h2
    obtain ⟨a, us, rfl, g1, g2⟩ := sql_inj_data h1
    have := dps_ints g2
    subst this
    refine ⟨a, ns, rfl, rh.seq g1, List.length_pos_of_mem hm, fun m' hm' hle' => ?_⟩
    have e : m' = m := Int.le_antisymm (hle m' hm') (hle' m hm)
    subst e
    exact k _ R H (Gw.refl rh) (.int _)⟩
theorem cb_min (hc : X.calm = true) {ns : List Int} {m : Int} (hm : m ∈ ns) (hle : ∀ y ∈ ns, m ≤ y) : CallB X (.builtin "min") [.list (ns.map .int)] (.dat (.int m)) := ⟨_, cr_min hc, fun vs R H Q rh h k => by
  cases h with
  | cons h1 h2 =>
    cases h2
    obtain ⟨a, us, rfl, g1, g2⟩ := sql_inj_data h1
    have := dps_ints g2
    subst this
    refine ⟨a, ns, rfl, rh.seq g1, List.length_pos_of_mem hm, fun m' hm' hle' => ?_⟩
    have e : m' = m := Int.le_antisymm (hle' m hm) (hle m' hm')
    subst e
    exact k _ R H (Gw.refl rh) (.int _)⟩
theorem cb_max2 (hc : X.calm = true) {i j : Int} : CallB X (.builtin "max") [.int i, .int j] (.dat (.int (max i j))) := ⟨_, call_max2 hc, fun vs R H Q rh h k => by
  cases h with
  | cons h1 h2 =>
    cases h2 with
    | cons h2 h3 =>
      cases h3
      cases h1
      cases h2
      refine ⟨i, j, rfl, ?_⟩
      have e : (if j > i then j else i) = max i j := by split <;> omega
      rw [e]
      exact k _ R H (Gw.refl rh) (.int _)⟩
theorem cb_min2 (hc : X.calm = true) {i j : Int} : CallB X (.builtin "min") [.int i, .int j] (.dat (.int (min i j))) := ⟨_, call_min2 hc, fun vs R H Q rh h k => by
  cases h with
  | cons h1 h2 =>
    cases h2 with
    | cons h2 h3 =>
      cases h3
      cases h1
      cases h2
      refine ⟨i, j, rfl, ?_⟩
      have e : (if j < i then j else i) = min i j := by split <;> omega
      rw [e]
      exact k _ R H (Gw.refl rh) (.int _)⟩
theorem cb_tupleL : CallB X (.type "tuple") [.list ds] (.dat (.tuple ds)) := ⟨_, call_tuple_of, fun vs R H Q rh h k => by
  cases h with
  | cons h1 h2 =>
    cases h2
    obtain ⟨a, us, rfl, g1, g2⟩ := sql_inj_data h1
    exact ⟨a, us, rfl, .inl ⟨rh.seq g1, vo_tup rh g2 k⟩⟩⟩
theorem cb_listT : CallB X (.type "list") [.tuple ds] (.new (.lst ds)) := ⟨_, call_list_of, fun vs R H Q rh h k => by
  cases h with
  | cons h1 h2 =>
    cases h2
    obtain ⟨a, us, rfl, g1, g2⟩ := sqt_inj_data h1
    exact ⟨a, us, rfl, .inr (sqt_same rh g1), vo_lst rh g2 k⟩⟩
theorem cb_listL : CallB X (.type "list") [.list ds] (.new (.lst ds)) := ⟨_, call_list_of, fun vs R H Q rh h k => by
  cases h with
  | cons h1 h2 =>
    cases h2
    obtain ⟨a, us, rfl, g1, g2⟩ := sql_inj_data h1
    exact ⟨a, us, rfl, .inl (rh.seq g1), vo_lst rh g2 k⟩⟩
end
/-! ### isinstance -/
def tyD : PyData → String
  | .none => "NoneType"
  | .bool _ => "bool"
  | .int _ => "int"
  | .str _ => "str"
  | .list _ => "list"
  | .tuple _ => "tuple"
  | .dict _ => "dict"
theorem tyx_of {K : PySem.W.Frag} {H : Hp} {v : V} {d : PyData} (h : Dp K H v d) : TyX K H v (.type (tyD d)) := by
  cases h with
  | non => exact .base .non
  | bl b => exact .base (.bl b)
  | int i => exact .base (.int i)
  | str x => exact .base (.str x)
  | lst h _ =>
    rcases h with (h | ⟨o, h⟩) | ⟨o, its, n, h1, h2, _⟩
    · exact .base (.lst h)
    · exact .base (.frz h)
    · exact .kList h1 h2
  | tup h _ =>
    rcases h with (h | ⟨o, h⟩) | ⟨o, its, n, h1, h2, _⟩
    · exact .base (.tup h)
    · exact .fTuple h
    · exact .kTuple h1 h2
section
variable {X : Cx} {Γ Γ1 : List Sl} {e : Expr} {pos p p' : Pos} {T : Str}
theorem ej_isi {d : PyData} {n : String} {r : Bool} (hk : kitB (tyD d) n = some r) (hg : Gl X "isinstance") (hm : X.mg "isinstance" = none) (hg2 : Gl X T) (hm2 : X.mg T = none) (hv : bootBuiltins T = some (.type n)) (he : EJ X Γ e (.dat d) Γ1)
    (hn : T ≠ "__name__" := by decide) (hdb : (T == ("__debug__" : Str)) = false := by decide)
    (hs : starEach (e :: [.Name T p']) X.env = (false, eval e X.env) :: starEach [.Name T p'] X.env := by rfl) (hs2 : starEach [.Name T p'] X.env = (false, eval (.Name T p') X.env) :: starEach [] X.env := by rfl) (hpl : (backTo pos (starEach [.Name T p'] X.env)).any (·.1) = false := by rfl) :
    EJ X Γ (.Call (.Name "isinstance" p) [e, .Name T p'] [] pos) (.dat (.bool r)) Γ1 :=
  pe_mono (pe_callB (id := "isinstance") call_isi hg hm (by decide +kernel) (pa_cons he (pa_cons (pe_bltn (v := .ty n) hg2 hm2 hv rfl hn hdb) pa_nil hs2) hs) (by decide) (by decide) hs hpl) fun σ H Q h => by
    obtain ⟨R, o, k⟩ := h
    refine ⟨R, o, fun v H1 R1 s1 o1 q1 => ?_⟩
    exact ⟨v, .ty n, _, _, r, rfl, .ty n, tyx_of (dp_same o1.rh q1), kit_ty hk, k _ H1 R1 s1 o1 (.bl r)⟩
end
end DL

/-! The data layer: enumerate of a tuple; enumerate and zip as sources. -/
namespace DL
open L2 PyProof.Rows PySem PySem.Spec

theorem meets_enum1 {v : Value} {o : Obj} {H : Heap → Prop} (B : Begins v o H) :
    Meets (Builtin.«enumerate.__new__» ⟨[.type "enumerate", v], []⟩) (fun _ R s => H s.heap ∧
      R (.ok (.ret (.ref (s.heap.push o).objs.size))) { s with heap := (s.heap.push o).push { cls := .type "enumerate", data := .fields #[.none, .bool false, .ref s.heap.objs.size, rawInt 0, .none, .none] } }) :=
  .of_wp fun prog w A R s h => by
    obtain ⟨hp, g, d, tk, os⟩ := s
    obtain ⟨h1, h⟩ := h
    have hsub := sub_enumerate
    have q1 : ∀ {A' : Around} {E : Value → Shared → Prop} {Q : Value → Shared → Prop}, Q (.ref hp.objs.size) ⟨hp.push o, g, d, tk, os⟩ → wpAny (model prog w) A' (pyIter v) Q E ⟨hp, g, d, tk, os⟩ := fun q => B.iter prog w _ _ ⟨hp, g, d, tk, os⟩ _ h1 q
    wp_walk using q1
    refine wpAny_stack_any fun st => wpAny_pure ?_
    split
    · rename_i c _ _ _ _ _
      cases (c == Value.type "enumerate") <;> (wp_walk using q1; exact ⟨_, rfl, h⟩)
    · wp_walk using q1
      exact ⟨_, rfl, h⟩
section
variable {prog : Program} {w : World} {A : Around} {E : Value → Shared → Prop} {s : Shared}
theorem enum1_begins {v : Value} {o : Obj} {H : Heap → Prop} {Q : Value → Shared → Prop} (B : Begins v o H) (h1 : H s.heap)
    (h : ∀ h', IsEnum h' (s.heap.objs.size + 1) s.heap.objs.size 0 .none → h'.get? s.heap.objs.size = some o → (∀ b o, s.heap.get? b = some o → h'.get? b = some o) → Q (.ref (s.heap.objs.size + 1)) { s with heap := h' }) :
    wpAny (model prog w) A (call (.type "enumerate") [v]) Q E s := by
  refine callType_new F.called_enumerate (by decide) (F.typeCall_enumerate_1 _) (F.newCall_enumerate_1 _) (fun obj => F.args_object_init_2 obj _) F.entry_enumerate_new (meets_enum1 B) ⟨h1, ?_⟩
  have hz : (s.heap.push o).objs.size = s.heap.objs.size + 1 := Heap.size_push ..
  have he : IsEnum ((s.heap.push o).push { cls := .type "enumerate", data := .fields #[.none, .bool false, .ref s.heap.objs.size, rawInt 0, .none, .none] }) (s.heap.objs.size + 1) s.heap.objs.size 0 .none := by
    have q := Heap.get?_push_size (s.heap.push o) (o := { cls := .type "enumerate", data := .fields #[.none, .bool false, .ref s.heap.objs.size, rawInt 0, .none, .none] }) rfl
    rwa [hz] at q
  show _ ∧ _
  rw [hz]
  exact ⟨⟨_, he, rfl⟩, h _ he (Heap.get?_push_of_some _ (Heap.get?_push_size _ B.free)) fun b o x => Heap.get?_push_of_some _ (Heap.get?_push_of_some _ x)⟩
end
/-- the tuple at a, its items in new pairs with their places -/
def ItetT (K : PySem.W.Frag) (a : Addr) : It :=
  ⟨fun i H => ∃ (xs : List V) (x : V), SqT K H a xs ∧ xs[i]? = some x, fun i H v H' => ∃ T x, v = .ref T ∧ H T = none ∧ H' = upd H T (.tup [.int (i : Nat), x]) ∧ ∀ xs, SqT K H a xs → xs[i]? = some x, fun i H => ∃ xs, SqT K H a xs ∧ xs.length ≤ i⟩
theorem turn_enumT {P : Program} {w : World} {K : PySem.W.Frag} {elts : List Expr} {kk : Nat} {tpos : Pos} (a e it : Addr) (hai : a ≠ it) (hea : e ≠ a) :
    Turn P w K (.Tuple elts kk tpos) (ItetT K a) [e, it] e (fun i h => (∃ old, IsEnum h e it ((i : Nat) : Int) old) ∧ h.IsTupleIter it a i ∧ e ≠ it) where
  mem := List.mem_cons_self
  obj := fun i h st b hb => by
    obtain ⟨⟨old, he⟩, ⟨o, ho, hc, hd⟩, _⟩ := st
    rcases List.mem_cons.mp hb with z | z
    · rw [z]; exact ⟨_, he, fun v q => nomatch q⟩
    · rw [List.mem_singleton.mp z]; exact ⟨o, ho, fun v q => by rw [hd] at q; cases q⟩
  keep := fun i h h' st k => by
    obtain ⟨⟨old, he⟩, hi, hne⟩ := st
    exact ⟨⟨old, k e List.mem_cons_self _ he⟩, hi.at fun o q => k it (by simp) o q, hne⟩
  item := by
    intro X hP hw hK hc i pins s σ H E I hf st hg
    subst hP hw hK
    obtain ⟨⟨old, he⟩, hit, hne⟩ := st
    obtain ⟨xs, x, hq, hx⟩ := hg
    obtain ⟨its, rv, pt, hz⟩ := I.tuple hq
    obtain ⟨u, hu, ru⟩ := rv.get hx
    have hel : e < s.heap.objs.size := Heap.lt_size he
    have hil : it < s.heap.objs.size := by obtain ⟨_, q, _⟩ := hit; exact Heap.lt_size q
    have hlt : i < its.toArray.size := by
      rw [List.size_toArray]
      exact (List.getElem?_eq_some_iff.mp hu).1
    have D := Draws.tuple (prog := X.prog) (w := X.w) (A := X.A.in1) (show X.A.in1.handled = none from I.ok.hd hc) it a hai its.toArray
    refine wpAny_pyNext_enum_itemD D he ⟨hit, pt⟩ hlt hne (by simp [hne, hea]) fun y h' tk hy ho hst hT hsz hk => ?_
    have hyu : y = u := by
      have e1 : its[i]? = some y := by simpa using hy
      exact Option.some.inj (e1.symm.trans hu)
    subst hyu
    refine ⟨_, rfl, wpAny_letOwnedTupleGo_enum (s := { s with heap := h', toks := tk + 1 }) ho fun h'' he' sb => ?_⟩
    have hT2 := (sb.2 _ (Nat.ne_of_gt hel)).trans hT
    have new : ObjOk X.prog X.w (upd H s.heap.objs.size (.tup [.int (i : Nat), x])) h'' s.heap.objs.size (.tup [.int (i : Nat), x]) :=
      ⟨by show 2 ≤ sizeLine; decide, [.int i tk, y], .cons ⟨_, rfl⟩ (.cons ru .nil), ⟨_, hT2, rfl, _, rfl⟩⟩
    have I1 : Inv X pins σ (upd H s.heap.objs.size (.tup [.int (i : Nat), x])) { s with heap := h'', toks := tk + 1 } :=
      I.turnedNew (ch := [e, it]) (fun b ob hb q => (sb.2 b fun z => hb (by simp [z])).trans (hk b ob (fun z => hb (by simp [z])) (fun z => hb (by simp [z])) q)) hf (Nat.le_refl _) new
    refine ⟨.ref s.heap.objs.size, _, I1, rfl, ⟨_, x, rfl, I.hok.fresh (Nat.le_refl _), rfl, fun ys hy => by rw [I.tuple_inj hy hq]; exact hx⟩, ⟨⟨y, ?_⟩, hst.1.at fun o q => (sb.2 it (Ne.symm hne)).trans q, hne⟩, fun b hb => ?_⟩
    · rw [show ((i + 1 : Nat) : Int) = (i : Int) + 1 by omega]
      exact he'
    · have hb' : b < s.heap.objs.size := by
        rcases List.mem_cons.mp hb with z | z
        · rw [z]; exact hel
        · rw [List.mem_singleton.mp z]; exact hil
      rw [upd_ne (Nat.ne_of_lt hb')]
      exact (hf b hb).1
  done := by
    intro X hP hw hK hc i pins s σ H E I hf st hg
    subst hP hw hK
    obtain ⟨⟨old, he⟩, hit, hne⟩ := st
    obtain ⟨xs, hq, hx⟩ := hg
    obtain ⟨its, rv, pt, hz⟩ := I.tuple hq
    obtain ⟨f0, f1, f2, f3, f4, f5⟩ := hf it (by simp)
    have hl := rv.length
    have hno : its.toArray[i]? = none := by simp; omega
    have D : Draws X.prog X.w X.A.in1 it [it, a] i (fun _ _ => True) (fun j h => j = i ∧ h.IsTupleIter it a i ∧ h.IsTuple a its.toArray) :=
      ⟨fun _ _ st => (let ⟨o, ho, _⟩ := st.2.1; ⟨o, ho⟩), fun _ _ _ st hk => ⟨st.1, st.2.1.at fun o e => hk it (by simp) o e, st.2.2.at fun o e => hk a (by simp) o e⟩,
        fun j _ _ _ hj st => absurd st.1 (Nat.ne_of_lt hj), fun s' Q E' st hE => wpAny_nextOf_tuple_end (show X.A.in1.handled = none from I.ok.hd hc) st.2.1 st.2.2 hno hE⟩
    exact wpAny_pyNext_enum_endD D he ⟨rfl, hit, pt⟩ fun h' eb => ⟨rfl, I.turned (t' := s.toks) (fun b o hb q => eb b o hb q) f0 f1 f3 f4 f5⟩
  self := fun A i s Q E st h => let ⟨⟨_, he⟩, _⟩ := st; wpAny_pyIter_enum he h
def iEnumT (K : PySem.W.Frag) (ta : TA) : TI := fun σ H R => ta σ H fun vs H1 => ∃ a xs, vs = [.ref a] ∧ SqT K H1 a xs ∧ R (ItetT K a) H1
theorem pi_enumT {X : Cx} {e : Expr} {ta : TA} {p pos tpos : Pos} {elts : List Expr} {kk : Nat} (hg : Gl X "enumerate") (hm : X.mg "enumerate" = none) (ha : PA X [e] ta) (hs : starEach [e] X.env = [(false, eval e X.env)] := by rfl) :
    PI X (.Tuple elts kk tpos) (.Call (.Name "enumerate" p) [e] [] pos) (iEnumT X.K ta) := by
  refine ⟨fun pins s σ H R I h => ?_⟩
  refine Call_ (ld_blt I hg hm boot_enumerate (callWith_type1 (thn (ha.run pos pins s σ H _ I h) fun us s1 ⟨vs, H1, I1, r1, q1⟩ => ?_) hs rfl))
  obtain ⟨a, xs, ex, hq, q⟩ := q1
  subst ex
  obtain ⟨u, rfl, ru⟩ := vals1 r1
  cases ru
  obtain ⟨its, rv, pt, hz⟩ := I1.tuple hq
  have hal : a < s1.heap.objs.size := pt.lt
  refine enum1_begins (begins_tuple a its.toArray) pt fun h' he hit hk => wpAny_pyIter_enum he ?_
  have I2 : Inv X pins σ H1 { s1 with heap := h' } := I1.kept (t' := s1.toks) hk
  refine ⟨s1.heap.objs.size + 1, [s1.heap.objs.size + 1, s1.heap.objs.size], _, _, H1, rfl, I2, turn_enumT a _ _ (Nat.ne_of_lt hal) (fun z => absurd hal (by rw [← z]; exact Nat.not_lt.mpr (Nat.le_succ _))), ⟨⟨.none, he⟩, ⟨_, hit, rfl, rfl⟩, Nat.succ_ne_self _⟩, fun b hb => ?_, q⟩
  have hle : s1.heap.objs.size ≤ b := by
    rcases List.mem_cons.mp hb with z | z
    · rw [z]; exact Nat.le_succ _
    · rw [List.mem_singleton.mp z]; exact Nat.le_refl _
  exact I1.fpOk hle (I1.hok.fresh hle)
theorem walk_enumT {K : PySem.W.Frag} {a : Addr} {xs : List V} : Walk (ItetT K a) xs.length (fun H => SqT K H a xs) (YPair (fun i => some (.int (i : Nat))) (fun i => xs[i]?)) := by
  refine ⟨fun i _ hi q => ⟨xs, xs[i], q, by simp [hi]⟩, fun _ q => ⟨xs, q, Nat.le_refl _⟩, fun i H v H' _ q y => ?_⟩
  obtain ⟨T, x, h1, h2, h3, h4⟩ := y
  exact ⟨T, .int (i : Nat), x, h1, h2, h3, rfl, h4 xs q⟩
theorem walk_zipT {K : PySem.W.Frag} {a b : Addr} {xs ys : List V} {n : Nat} (hn : n = min xs.length ys.length) : Walk (RZ.ItzT K a b) n (fun H => SqT K H a xs ∧ SqT K H b ys) (YPair (fun i => xs[i]?) (fun i => ys[i]?)) := by
  subst hn
  refine ⟨fun i _ hi q => ?_, fun _ q => ⟨xs, ys, q.1, q.2, by omega⟩, fun i H v H' _ q y => ?_⟩
  · have h1 : i < xs.length := by omega
    have h2 : i < ys.length := by omega
    exact ⟨xs, ys, xs[i], ys[i], q.1, q.2, by simp [h1], by simp [h2]⟩
  · obtain ⟨T, x, z, h1, h2, h3, h4, h5⟩ := y
    exact ⟨T, x, z, h1, h2, h3, h4 xs q.1, h5 ys q.2⟩
/-- pairs that are made on the way -/
theorem walkd_pair {K : PySem.W.Frag} {R : Hp} {J : It} {n : Nat} {f g : Nat → Option V} {items : List PyData} (hn : items.length = n) (G : Hp → Prop) (hG : ∀ H, Same R H → G H) (w : Walk J n G (YPair f g))
    (hd : ∀ (i : Nat) v u, i < n → f i = some v → g i = some u → ∃ a b, items[i]? = some (.tuple [a, b]) ∧ Dp K R v a ∧ Dp K R u b) : WalkD K R J items := by
  unfold WalkD
  rw [hn]
  refine w.mono (fun H h => hG H h) fun i H x H' hi hR y => ?_
  obtain ⟨T, v, u, rfl, hT, rfl, hv, hu⟩ := y
  obtain ⟨a, b, h1, h2, h3⟩ := hd i v u hi hv hu
  refine ⟨_, h1, fun R1 r1 r2 => ⟨_, Gw.new r2 hT, ?_⟩⟩
  have r3 : Same R (upd R1 T (.tup [v, u])) := r1.trans (same_new (same_none r2 hT))
  exact .tup (SqT.of upd_same) (.cons (dp_same r3 h2) (.cons (dp_same r3 h3) .nil))
/-- the items of enumerate -/
def enumD (ds : List PyData) : List PyData := ds.mapIdx fun (i : Nat) d => PyData.tuple [.int i, d]
def zipD (ds es : List PyData) : List PyData := (ds.zip es).map fun p => PyData.tuple [p.1, p.2]
section
variable {X : Cx} {Γ Γ1 : List Sl} {e e2 : Expr} {pos p tpos : Pos} {elts : List Expr} {kk : Nat} {ds es : List PyData}
theorem enum_at {K : PySem.W.Frag} {R : Hp} {vs : List V} (h : DpAll K R vs ds) : ∀ (i : Nat) v u, i < vs.length → (fun (i : Nat) => some (V.int (i : Nat))) i = some v → (fun (i : Nat) => vs[i]?) i = some u → ∃ a b, (enumD ds)[i]? = some (.tuple [a, b]) ∧ Dp K R v a ∧ Dp K R u b := fun i v u hi hv hu => by
  cases hv
  obtain ⟨d, h1, h2⟩ := dps_get h hu
  exact ⟨.int i, d, by unfold enumD; rw [List.getElem?_mapIdx, h1]; rfl, .int _, h2⟩
theorem wj_enumT (hg : Gl X "enumerate") (hm : X.mg "enumerate" = none) (ha : DJ X Γ [e] [.tuple ds] Γ1) (hs : starEach [e] X.env = [(false, eval e X.env)] := by rfl) : WJ X Γ (.Tuple elts kk tpos) (.Call (.Name "enumerate" p) [e] [] pos) (enumD ds) Γ1 :=
  pi_mono (pi_enumT hg hm ha hs) fun σ H Q q => by
    obtain ⟨R, o, k⟩ := q
    refine ⟨R, o, fun vs H1 R1 s1 o1 q1 => ?_⟩
    cases q1 with
    | cons h1 h2 =>
      cases h2
      obtain ⟨a, us, rfl, g1, g2⟩ := sqt_inj_data h1
      refine ⟨a, us, rfl, sqt_same o1.rh g1, k _ H1 R1 s1 o1 (walkd_pair (n := us.length) ?_ _ (fun H e => sqt_same e g1) walk_enumT (enum_at g2))⟩
      unfold enumD
      rw [List.length_mapIdx, dps_len g2]
theorem wj_enumL (hg : Gl X "enumerate") (hm : X.mg "enumerate" = none) (ha : DJ X Γ [e] [.list ds] Γ1) (hs : starEach [e] X.env = [(false, eval e X.env)] := by rfl) : WJ X Γ (.Tuple elts kk tpos) (.Call (.Name "enumerate" p) [e] [] pos) (enumD ds) Γ1 :=
  pi_mono (pi_enum hg hm ha hs) fun σ H Q q => by
    obtain ⟨R, o, k⟩ := q
    refine ⟨R, o, fun vs H1 R1 s1 o1 q1 => ?_⟩
    cases q1 with
    | cons h1 h2 =>
      cases h2
      obtain ⟨a, us, rfl, g1, g2⟩ := sql_inj_data h1
      refine ⟨a, us, rfl, o1.rh.seq g1, k _ H1 R1 s1 o1 (walkd_pair (n := us.length) ?_ _ (fun H e => e.seq g1) walk_enum (enum_at g2))⟩
      unfold enumD
      rw [List.length_mapIdx, dps_len g2]
theorem zip_at {K : PySem.W.Frag} {R : Hp} {vs us : List V} (h : DpAll K R vs ds) (h' : DpAll K R us es) : ∀ (i : Nat) v u, i < min vs.length us.length → (fun (i : Nat) => vs[i]?) i = some v → (fun (i : Nat) => us[i]?) i = some u → ∃ a b, (zipD ds es)[i]? = some (.tuple [a, b]) ∧ Dp K R v a ∧ Dp K R u b := fun i v u hi hv hu => by
  obtain ⟨d, h1, h2⟩ := dps_get h hv
  obtain ⟨d', h1', h2'⟩ := dps_get h' hu
  refine ⟨d, d', ?_, h2, h2'⟩
  unfold zipD
  rw [List.getElem?_map, List.getElem?_zip_eq_some (z := (d, d')) |>.mpr ⟨h1, h1'⟩]
  rfl
theorem zip_len {K : PySem.W.Frag} {R : Hp} {vs us : List V} (h : DpAll K R vs ds) (h' : DpAll K R us es) : (zipD ds es).length = min vs.length us.length := by
  unfold zipD
  rw [List.length_map, List.length_zip, dps_len h, dps_len h']
theorem wj_zipT (hg : Gl X "zip") (hm : X.mg "zip" = none) (ha : DJ X Γ [e, e2] [.tuple ds, .tuple es] Γ1) (hs : starEach [e, e2] X.env = (false, eval e X.env) :: starEach [e2] X.env := by rfl) (hs2 : (backTo pos (starEach [e2] X.env)).any (·.1) = false := by rfl) :
    WJ X Γ (.Tuple elts kk tpos) (.Call (.Name "zip" p) [e, e2] [] pos) (zipD ds es) Γ1 :=
  pi_mono (RZ.pi_zipA hg hm ha hs hs2) fun σ H Q q => by
    obtain ⟨R, o, k⟩ := q
    refine ⟨R, o, fun vs H1 R1 s1 o1 q1 => ?_⟩
    cases q1 with
    | cons h1 h2 =>
      cases h2 with
      | cons h2 h3 =>
        cases h3
        obtain ⟨a, us, rfl, g1, g2⟩ := sqt_inj_data h1
        obtain ⟨b, ws, rfl, f1, f2⟩ := sqt_inj_data h2
        exact ⟨a, b, us, ws, rfl, .inr ⟨sqt_same o1.rh g1, sqt_same o1.rh f1, k _ H1 R1 s1 o1 (walkd_pair (zip_len g2 f2) _ (fun H e => ⟨sqt_same e g1, sqt_same e f1⟩) (walk_zipT rfl) (zip_at g2 f2))⟩⟩
theorem wj_zipL (hg : Gl X "zip") (hm : X.mg "zip" = none) (ha : DJ X Γ [e, e2] [.list ds, .list es] Γ1) (hs : starEach [e, e2] X.env = (false, eval e X.env) :: starEach [e2] X.env := by rfl) (hs2 : (backTo pos (starEach [e2] X.env)).any (·.1) = false := by rfl) :
    WJ X Γ (.Tuple elts kk tpos) (.Call (.Name "zip" p) [e, e2] [] pos) (zipD ds es) Γ1 :=
  pi_mono (RZ.pi_zipA hg hm ha hs hs2) fun σ H Q q => by
    obtain ⟨R, o, k⟩ := q
    refine ⟨R, o, fun vs H1 R1 s1 o1 q1 => ?_⟩
    cases q1 with
    | cons h1 h2 =>
      cases h2 with
      | cons h2 h3 =>
        cases h3
        obtain ⟨a, us, rfl, g1, g2⟩ := sql_inj_data h1
        obtain ⟨b, ws, rfl, f1, f2⟩ := sql_inj_data h2
        exact ⟨a, b, us, ws, rfl, .inl ⟨o1.rh.seq g1, o1.rh.seq f1, k _ H1 R1 s1 o1 (walkd_pair (zip_len g2 f2) _ (fun H e => ⟨e.seq g1, e.seq f1⟩) (walk_zip rfl) (zip_at g2 f2))⟩⟩
end
end DL

/-! The data layer: handy forms. -/
namespace DL
open L2 PyProof.Rows PySem PySem.Spec
section
variable {X : Cx} {Γ Γ1 Γ2 Γ3 : List Sl} {a b c e tg iter elt : Expr} {ifs es : List Expr} {scope : Scope} {own : List (Str × Nat)} {pos p p2 : Pos} {x : Str} {T : Tg}
/-! isinstance by kinds -/
def isTint : PyData → Bool
  | .int _ => true
  | .bool _ => true
  | _ => false
def isTbool : PyData → Bool
  | .bool _ => true
  | _ => false
def isTtup : PyData → Bool
  | .tuple _ => true
  | _ => false
def isTlst : PyData → Bool
  | .list _ => true
  | _ => false
def isTstr : PyData → Bool
  | .str _ => true
  | _ => false
theorem kit_int (d : PyData) : kitB (tyD d) "int" = some (isTint d) := by
  cases d with
  | none => exact (by decide +kernel : kitB "NoneType" "int" = some false)
  | bool _ => exact (by decide +kernel : kitB "bool" "int" = some true)
  | int _ => exact (by decide +kernel : kitB "int" "int" = some true)
  | str _ => exact (by decide +kernel : kitB "str" "int" = some false)
  | list _ => exact (by decide +kernel : kitB "list" "int" = some false)
  | tuple _ => exact (by decide +kernel : kitB "tuple" "int" = some false)
  | dict _ => exact (by decide +kernel : kitB "dict" "int" = some false)
theorem kit_bool (d : PyData) : kitB (tyD d) "bool" = some (isTbool d) := by
  cases d with
  | none => exact (by decide +kernel : kitB "NoneType" "bool" = some false)
  | bool _ => exact (by decide +kernel : kitB "bool" "bool" = some true)
  | int _ => exact (by decide +kernel : kitB "int" "bool" = some false)
  | str _ => exact (by decide +kernel : kitB "str" "bool" = some false)
  | list _ => exact (by decide +kernel : kitB "list" "bool" = some false)
  | tuple _ => exact (by decide +kernel : kitB "tuple" "bool" = some false)
  | dict _ => exact (by decide +kernel : kitB "dict" "bool" = some false)
theorem kit_tup (d : PyData) : kitB (tyD d) "tuple" = some (isTtup d) := by
  cases d with
  | none => exact (by decide +kernel : kitB "NoneType" "tuple" = some false)
  | bool _ => exact (by decide +kernel : kitB "bool" "tuple" = some false)
  | int _ => exact (by decide +kernel : kitB "int" "tuple" = some false)
  | str _ => exact (by decide +kernel : kitB "str" "tuple" = some false)
  | list _ => exact (by decide +kernel : kitB "list" "tuple" = some false)
  | tuple _ => exact (by decide +kernel : kitB "tuple" "tuple" = some true)
  | dict _ => exact (by decide +kernel : kitB "dict" "tuple" = some false)
theorem kit_lst (d : PyData) : kitB (tyD d) "list" = some (isTlst d) := by
  cases d with
  | none => exact (by decide +kernel : kitB "NoneType" "list" = some false)
  | bool _ => exact (by decide +kernel : kitB "bool" "list" = some false)
  | int _ => exact (by decide +kernel : kitB "int" "list" = some false)
  | str _ => exact (by decide +kernel : kitB "str" "list" = some false)
  | list _ => exact (by decide +kernel : kitB "list" "list" = some true)
  | tuple _ => exact (by decide +kernel : kitB "tuple" "list" = some false)
  | dict _ => exact (by decide +kernel : kitB "dict" "list" = some false)
theorem kit_str (d : PyData) : kitB (tyD d) "str" = some (isTstr d) := by
  cases d with
  | none => exact (by decide +kernel : kitB "NoneType" "str" = some false)
  | bool _ => exact (by decide +kernel : kitB "bool" "str" = some false)
  | int _ => exact (by decide +kernel : kitB "int" "str" = some false)
  | str _ => exact (by decide +kernel : kitB "str" "str" = some true)
  | list _ => exact (by decide +kernel : kitB "list" "str" = some false)
  | tuple _ => exact (by decide +kernel : kitB "tuple" "str" = some false)
  | dict _ => exact (by decide +kernel : kitB "dict" "str" = some false)
theorem bt_int : bootBuiltins "int" = some (.type "int") := by decide +kernel
theorem bt_bool : bootBuiltins "bool" = some (.type "bool") := by decide +kernel
theorem bt_tuple : bootBuiltins "tuple" = some (.type "tuple") := by decide +kernel
theorem bt_list : bootBuiltins "list" = some (.type "list") := by decide +kernel
theorem bt_str : bootBuiltins "str" = some (.type "str") := by decide +kernel
theorem bt_len : bootBuiltins "len" = some (.builtin "len") := by decide +kernel
theorem bt_all : bootBuiltins "all" = some (.builtin "all") := by decide +kernel
theorem bt_any : bootBuiltins "any" = some (.builtin "any") := by decide +kernel
theorem bt_sum : bootBuiltins "sum" = some (.builtin "sum") := by decide +kernel
theorem bt_max : bootBuiltins "max" = some (.builtin "max") := by decide +kernel
theorem bt_min : bootBuiltins "min" = some (.builtin "min") := by decide +kernel
theorem bt_sorted : bootBuiltins "sorted" = some (.builtin "sorted") := by decide +kernel
/-! a module's constant; a negative number -/
theorem ej_mc {i : Int} {t : Tok} (hg : Gl X x) (hm : X.mg x = some (.int i t)) (hd : (x == ("__debug__" : Str)) = false := by decide) : EJ X Γ (.Name x pos) (.dat (.int i)) Γ := ej_c (pe_glob (v := .int i) hg hm ⟨t, rfl⟩ hd) fun _ => .int i
theorem ej_neg {i : Int} (h : EJ X Γ a (.dat (.int i)) Γ1) : EJ X Γ (.UnaryOp .USub a pos) (.dat (.int (-i))) Γ1 := ej_un un_neg (fun v R H Q rh hv k => by
  cases hv
  exact ⟨i, rfl, k _ R H (Gw.refl rh) (.int _)⟩) h
/-- a if c else b, by its test -/
theorem ej_ite {b0 : Bool} {d1 d2 : PyData} (hc : TJ X Γ c b0 Γ1) (ha : b0 = true → EJ X Γ1 a (.dat d1) Γ1) (hb : b0 = false → EJ X Γ1 b (.dat d2) Γ1) : EJ X Γ (.IfExp c a b pos) (.dat (bif b0 then d1 else d2)) Γ1 := by
  cases b0 with
  | true => exact ej_if hc ha (fun h => nomatch h)
  | false => exact ej_if hc (fun h => nomatch h) hb
/-! built-ins over mapped lists -/
theorem cb_allm (hc : X.calm = true) {α : Type} {xs : List α} {g : α → Bool} : CallB X (.builtin "all") [.list (xs.map fun x => .bool (g x))] (.dat (.bool (xs.all g))) := by
  have h := cb_all hc (bs := xs.map g)
  rw [List.map_map, List.all_map] at h
  exact h
theorem cb_anym (hc : X.calm = true) {α : Type} {xs : List α} {g : α → Bool} : CallB X (.builtin "any") [.list (xs.map fun x => .bool (g x))] (.dat (.bool (xs.any g))) := by
  have h := cb_any hc (bs := xs.map g)
  rw [List.map_map, List.any_map] at h
  exact h
theorem cb_summ (hc : X.calm = true) {α : Type} {xs : List α} {g : α → Int} : CallB X (.builtin "sum") [.list (xs.map fun x => .int (g x))] (.dat (.int (xs.map g).sum)) := by
  have h := cb_sum hc (ns := xs.map g)
  rw [List.map_map] at h
  exact h
/-! the rest is not asked -/
theorem ej_andF {b1 : Bool} (ha : EJ X Γ a (.dat (.bool b1)) Γ1) (h : b1 = false) : EJ X Γ (.BoolOp .And (a :: b :: es) pos) (.dat (.bool false)) Γ1 := by
  subst h
  exact ej_and (b2 := false) ha (fun z => nomatch z) fun _ => rfl
theorem ej_orT {b1 : Bool} (ha : EJ X Γ a (.dat (.bool b1)) Γ1) (h : b1 = true) : EJ X Γ (.BoolOp .Or (a :: b :: es) pos) (.dat (.bool true)) Γ1 := by
  subst h
  exact ej_or (b2 := true) ha (fun z => nomatch z) fun _ => rfl
theorem wj_andF {b1 : Bool} (ha : TJ X Γ a b1 Γ1) (h : b1 = false) : WJt X Γ (.BoolOp .And (a :: b :: es) pos) false Γ1 := by
  subst h
  exact wj_and (b2 := false) ha (fun z => nomatch z) fun _ => rfl
theorem wj_orT {b1 : Bool} (ha : TJ X Γ a b1 Γ1) (h : b1 = true) : WJt X Γ (.BoolOp .Or (a :: b :: es) pos) true Γ1 := by
  subst h
  exact wj_or (b2 := true) ha (fun z => nomatch z) fun _ => rfl
/-! mapped data -/
theorem cutD_map {α β : Type} (f : α → β) (xs : List α) (l u : Option Int) : cutD (xs.map f) l u = (cutD xs l u).map f := by
  unfold cutD
  rw [List.length_map, List.map_take, List.map_drop]
theorem ej_slTm {α : Type} {xs : List α} {inj : α → PyData} {lo hi : Option Expr} {l u : Option Int} (he : EJ X Γ e (.dat (.tuple (xs.map inj))) Γ1) (hl : PJ X Γ1 lo l Γ2) (hu : PJ X Γ2 hi u Γ3) : EJ X Γ (.Subscript e (.Slice lo hi none p2) pos) (.dat (.tuple ((cutD xs l u).map inj))) Γ3 := by
  rw [← cutD_map]
  exact ej_slT he hl hu
theorem ej_slLm {α : Type} {xs : List α} {inj : α → PyData} {lo hi : Option Expr} {l u : Option Int} (he : EJ X Γ e (.dat (.list (xs.map inj))) Γ1) (hl : PJ X Γ1 lo l Γ2) (hu : PJ X Γ2 hi u Γ3) : EJ X Γ (.Subscript e (.Slice lo hi none p2) pos) (.new (.lst ((cutD xs l u).map inj))) Γ3 := by
  rw [← cutD_map]
  exact ej_slL he hl hu
theorem wj_is {items items' : List PyData} (h : WJ X Γ tg iter items Γ1) (e : items = items') : WJ X Γ tg iter items' Γ1 := e ▸ h
theorem wj_id {items : List PyData} (h : WJ X Γ tg iter items Γ1) : WJ X Γ tg iter (items.map fun d => d) Γ1 := wj_is h (List.map_id' _).symm
theorem enumD_map {α : Type} (inj : α → PyData) (xs : List α) : enumD (xs.map inj) = xs.zipIdx.map fun p => PyData.tuple [.int (p.2 : Nat), inj p.1] := by
  unfold enumD
  apply List.ext_getElem?
  intro i
  rw [List.getElem?_mapIdx, List.getElem?_map, List.getElem?_map, List.getElem?_zipIdx]
  cases xs[i]? with
  | none => rfl
  | some a => simp
theorem zipD_map {α β : Type} (f : α → PyData) (g : β → PyData) (xs : List α) (ys : List β) : zipD (xs.map f) (ys.map g) = (xs.zip ys).map fun p => PyData.tuple [f p.1, g p.2] := by
  unfold zipD
  rw [List.zip_map, List.map_map]
  rfl
variable {elts : List Expr} {kk : Nat} {tpos : Pos} {e2 : Expr}
theorem wj_enumTm {α : Type} {xs : List α} {inj : α → PyData} (hg : Gl X "enumerate") (hm : X.mg "enumerate" = none) (ha : DJ X Γ [e] [.tuple (xs.map inj)] Γ1) (hs : starEach [e] X.env = [(false, eval e X.env)] := by rfl) :
    WJ X Γ (.Tuple elts kk tpos) (.Call (.Name "enumerate" p) [e] [] pos) (xs.zipIdx.map fun p => PyData.tuple [.int (p.2 : Nat), inj p.1]) Γ1 := wj_is (wj_enumT hg hm ha hs) (enumD_map inj xs)
theorem wj_enumLm {α : Type} {xs : List α} {inj : α → PyData} (hg : Gl X "enumerate") (hm : X.mg "enumerate" = none) (ha : DJ X Γ [e] [.list (xs.map inj)] Γ1) (hs : starEach [e] X.env = [(false, eval e X.env)] := by rfl) :
    WJ X Γ (.Tuple elts kk tpos) (.Call (.Name "enumerate" p) [e] [] pos) (xs.zipIdx.map fun p => PyData.tuple [.int (p.2 : Nat), inj p.1]) Γ1 := wj_is (wj_enumL hg hm ha hs) (enumD_map inj xs)
theorem wj_zipTm {α β : Type} {xs : List α} {ys : List β} {f : α → PyData} {g : β → PyData} (hg : Gl X "zip") (hm : X.mg "zip" = none) (ha : DJ X Γ [e, e2] [.tuple (xs.map f), .tuple (ys.map g)] Γ1) (hs : starEach [e, e2] X.env = (false, eval e X.env) :: starEach [e2] X.env := by rfl) (hs2 : (backTo pos (starEach [e2] X.env)).any (·.1) = false := by rfl) :
    WJ X Γ (.Tuple elts kk tpos) (.Call (.Name "zip" p) [e, e2] [] pos) ((xs.zip ys).map fun p => PyData.tuple [f p.1, g p.2]) Γ1 := wj_is (wj_zipT hg hm ha hs hs2) (zipD_map f g xs ys)
theorem wj_zipLm {α β : Type} {xs : List α} {ys : List β} {f : α → PyData} {g : β → PyData} (hg : Gl X "zip") (hm : X.mg "zip" = none) (ha : DJ X Γ [e, e2] [.list (xs.map f), .list (ys.map g)] Γ1) (hs : starEach [e, e2] X.env = (false, eval e X.env) :: starEach [e2] X.env := by rfl) (hs2 : (backTo pos (starEach [e2] X.env)).any (·.1) = false := by rfl) :
    WJ X Γ (.Tuple elts kk tpos) (.Call (.Name "zip" p) [e, e2] [] pos) ((xs.zip ys).map fun p => PyData.tuple [f p.1, g p.2]) Γ1 := wj_is (wj_zipL hg hm ha hs hs2) (zipD_map f g xs ys)
theorem upto_map (lo : Int) (n : Nat) : upto lo n = (List.range n).map fun (i : Nat) => PyData.int (lo + i) := rfl
theorem wj_range1m {n : Nat} (hg : Gl X "range") (hm : X.mg "range" = none) (ha : DJ X Γ [a] [.int (n : Nat)] Γ1) (hn : n < 2 ^ 62) (hs : starEach [a] X.env = [(false, eval a X.env)] := by rfl) : WJ X Γ tg (.Call (.Name "range" p) [a] [] pos) ((List.range n).map fun (i : Nat) => PyData.int (i : Nat)) Γ1 :=
  wj_is (wj_range1 hg hm ha ⟨by omega, by omega⟩ hs) (by
    rw [upto_map, Int.toNat_natCast]
    congr 1
    funext i
    rw [Int.zero_add])
/-! maps -/
theorem ej_lcM {α : Type} {xs : List α} {inj f : α → PyData} (hc : X.calm = true) (hN : X.N.Nodup) (src : WJ X Γ tg iter (xs.map inj) Γ1) (ok : BlkOk X.N X.env.scope scope own) (hT : ∀ i ∈ T.slots, i ∈ own.map (·.2))
    (htg : ∀ (s : Shared) (H : Hp) (C : Addr) (cl : List (Str × Addr)) (fp : List Addr), TgP (X.blk s H scope (compEnvC scope cl C X.env) fp) tg T) (hok : ∀ x ∈ xs, T.ok (inj x))
    (he : ∀ x ∈ xs, ∀ (s : Shared) (H : Hp) (C : Addr) (cl : List (Str × Addr)) (fp : List Addr), EJ (X.blk s H scope (compEnvC scope cl C X.env) fp) (T.bd (inj x) (wipeG Γ1 (own.map (·.2)))) elt (.dat (f x)) (T.bd (inj x) (wipeG Γ1 (own.map (·.2)))))
    (now : noOwn Γ1 (own.map (·.2)) = true) (len : xs.length ≤ 1000000) (hs : ∀ x, foldedSetIterable iter X.env x = pure x := by intro _; rfl) : EJ X Γ (.ListComp elt [⟨tg, iter, [], 0⟩] scope pos) (.new (.lst (xs.map f))) Γ1 := by
  have h := ej_lc (pos := pos) (fun _ => true) f hc hN src ok hT htg hok (fun _ _ _ _ _ _ _ => ts_nil) (fun x hx _ => he x hx) now len hs
  rw [List.filter_eq_self.mpr (fun _ _ => rfl)] at h
  exact h
theorem tgp_nm {i : Nat} (hN : X.N.Nodup) (hi : X.N[i]? = some x) (hx : Loc X.env.scope x) (hf : X.fn x = true ∨ X.env.scope.names.lookup x = some .local := by first | exact .inl rfl | exact .inr rfl) : TgP X (.Name x pos) (.nm i) := pg_name hN hi hx hf
theorem tgp_pr {i j : Nat} {y : Str} {pos' : Pos} (hc : X.calm = true) (hN : X.N.Nodup) (hi : X.N[i]? = some x) (hx : Loc X.env.scope x) (hj : X.N[j]? = some y) (hy : Loc X.env.scope y)
    (hf : X.fn x = true ∨ X.env.scope.names.lookup x = some .local := by first | exact .inl rfl | exact .inr rfl) (hf' : X.fn y = true ∨ X.env.scope.names.lookup y = some .local := by first | exact .inl rfl | exact .inr rfl) : TgP X (.Tuple [.Name x pos, .Name y pos'] kk p2) (.pr i j) :=
  pg_tup hc (pgs_cons (pg_name hN hi hx hf) (pgs_cons (pg_name hN hj hy hf') pgs_nil))
end
/-- for, over typed items -/
theorem bj_forM {X : Cx} {Γ Γ1 : List Sl} {tg iter : Expr} {body rest : List Stmt} {pos : Pos} {k : Kt} {T : Tg} {α : Type} {xs : List α} {inj : α → PyData} (hp : PassesOwn (model X.prog X.w) X.A X.env X.xe) (hc : X.calm = true) (src : WJ X Γ tg iter (xs.map inj) Γ1) (ht : TgP X tg T) (I : Nat → List Sl → Prop)
    (h0 : I 0 Γ1) (hs : ∀ (i : Nat) x G, xs[i]? = some x → I i G → T.ok (inj x) ∧ BJ X (T.bd (inj x) G) body { nx := I (i + 1), ct := I (i + 1), bk := fun G => BJ X G rest k, rt := k.rt }) (hd : ∀ G, I xs.length G → BJ X G rest k)
    (hfs : ∀ x, foldedSetIterable iter X.env x = pure x := by intro _; rfl) : BJ X Γ (.For tg iter body [] pos :: rest) k :=
  bj_for hp hc src ht I h0 (fun i d G hi hI => by
    rw [List.getElem?_map] at hi
    cases e : xs[i]? with
    | none => rw [e] at hi; cases hi
    | some x =>
      rw [e] at hi
      have e2 : inj x = d := Option.some.inj hi
      subst e2
      exact hs i x G e hI) (fun G h => hd G (by rwa [List.length_map] at h)) hfs
/-! ### owned lists -/
section
variable {X : Cx} {Γ Γ1 Γ2 : List Sl} {e a b : Expr} {rest : List Stmt} {pos p apos : Pos} {x : Str} {k : Kt}
/-- a method that may change an owned list -/
def OmD (K : PySem.W.Frag) (r : V → List V → Hp → VK → Prop) (ds xs : List PyData) (z : PyData) (ds' : List PyData) : Prop := ∀ (q : Addr) (vs us : List V) (R H : Hp) (Q : VK), H q = some (.lst vs) → DpAll K R vs ds → DpAll K R us xs →
  (∀ w vs', DpAll K R vs' ds' → Dp K R w z → Q w (upd H q (.lst vs'))) → r (.ref q) us H Q
theorem ej_om {i : Nat} {q : Addr} {ds ds' xs : List PyData} {z : PyData} {name : Str} {id : String} {r : V → List V → Hp → VK → Prop} {es : List Expr} (slot : Slot "list" name id) (hty : typeOf (.builtin id) = pure (.type "method_descriptor")) (hm : MtR X id r) (hd : OmD X.K r ds xs z ds')
    (hN : X.N[i]? = some x) (hv : Vis X.env.scope x) (ha : DJ X Γ (e :: es) xs Γ1) (hΓ0 : ∃ ds0, Γ[i]? = some (.own q (.lst ds0))) (hΓ : Γ1[i]? = some (.own q (.lst ds)))
    (hdb : (x == ("__debug__" : Str)) = false := by decide) (hcd : (x == ("__classdict__" : Str)) = false := by decide)
    (hbase : attributeBase (.Name x p) name X.env (eval (.Name x p) X.env) = eval (.Name x p) X.env := by rfl)
    (hfew : ((backTo pos (starEach (e :: es) X.env)).all (fun x => !x.1) && (backToKw pos (keywordEach [] X.env)).all (fun x => x.1.isSome) && decide ((e :: es).length + ([] : List Keyword).length + (if ([] : List Keyword).isEmpty then 0 else 1) < 30)) = true := by rfl)
    (hline : (apos.endLine == pos.line) = true := by rfl) (hs : starEach (e :: es) X.env = (false, eval e X.env) :: starEach es X.env := by rfl) (hpl : (backTo pos (starEach es X.env)).any (·.1) = false := by rfl) :
    EJ X Γ (.Call (.Attribute (.Name x p) name apos) (e :: es) [] pos) (.dat z) (Γ1.set i (.own q (.lst ds'))) :=
  pe_mono (pe_bm F.plainAttrs_list slot hty hm (pe_var hN hv hdb hcd) ha hbase hfew hline hs hpl) fun σ H Q q' => by
    obtain ⟨R, o, kk⟩ := q'
    obtain ⟨ds0, hΓ0⟩ := hΓ0
    obtain ⟨e1, vs0, hq0, _⟩ := o.sl i _ hΓ0
    refine ⟨.ref q, e1, .inl ⟨rfl, _, SqL.of hq0⟩, R, o, fun us H1 R1 s1 o1 q1 => ?_⟩
    obtain ⟨e2, vs, hq, hdp⟩ := o1.sl i _ hΓ
    refine hd q vs us R1 H1 Q hq hdp q1 fun w vs' h1 h2 => ?_
    obtain ⟨o2, s2⟩ := o1.mut (u := .lst vs') (c' := .lst ds') hΓ rfl rfl ⟨_, upd_same, h1⟩
    exact kk w _ R1 (s1.trans s2) o2 h2
theorem ej_om0 {i : Nat} {q : Addr} {ds ds' : List PyData} {z : PyData} {name : Str} {id : String} {r : V → List V → Hp → VK → Prop} (slot : Slot "list" name id) (hty : typeOf (.builtin id) = pure (.type "method_descriptor")) (hm : MtR X id r) (hd : OmD X.K r ds [] z ds')
    (hN : X.N[i]? = some x) (hv : Vis X.env.scope x) (hΓ : Γ[i]? = some (.own q (.lst ds)))
    (hdb : (x == ("__debug__" : Str)) = false := by decide) (hcd : (x == ("__classdict__" : Str)) = false := by decide)
    (hbase : attributeBase (.Name x p) name X.env (eval (.Name x p) X.env) = eval (.Name x p) X.env := by rfl) (hline : (apos.endLine == pos.line) = true := by rfl) :
    EJ X Γ (.Call (.Attribute (.Name x p) name apos) [] [] pos) (.dat z) (Γ.set i (.own q (.lst ds'))) :=
  pe_mono (pe_bm0 F.plainAttrs_list slot hty hm (pe_var hN hv hdb hcd) hbase hline) fun σ H Q q' => by
    obtain ⟨R, o, kk⟩ := q'
    obtain ⟨e1, vs, hq, hdp⟩ := o.sl i _ hΓ
    refine ⟨.ref q, e1, .inl ⟨rfl, _, SqL.of hq⟩, hd q vs [] R H Q hq hdp .nil fun w vs' h1 h2 => ?_⟩
    obtain ⟨o2, s2⟩ := o.mut (u := .lst vs') (c' := .lst ds') hΓ rfl rfl ⟨_, upd_same, h1⟩
    exact kk w _ R s2 o2 h2
theorem om_append {K : PySem.W.Frag} {ds : List PyData} {d : PyData} (hl : ds.length < sizeLine) : OmD K rAppend ds [d] .none (ds ++ [d]) := fun q vs us R H Q h1 h2 h3 k => by
  cases h3 with
  | cons h3 h4 =>
    cases h4
    exact ⟨q, vs, _, rfl, rfl, h1, by rw [dps_len h2]; exact hl, k _ _ (dps_append h2 (.cons h3 .nil)) .non⟩
theorem om_pop {K : PySem.W.Frag} {ds : List PyData} {d : PyData} : OmD K rPop (ds ++ [d]) [] d ds := fun q vs us R H Q h1 h2 h3 k => by
  cases h3
  have hl := dps_len h2
  rw [List.length_append, List.length_singleton] at hl
  have hg : (ds ++ [d])[vs.length - 1]? = some d := by
    rw [hl]
    simp
  obtain ⟨v, g1, g2⟩ := dps_get' h2 hg
  have hd : DpAll K R vs.dropLast ds := by
    have z := dps_take ds.length h2
    rw [List.take_left] at z
    rwa [List.dropLast_eq_take, hl, Nat.add_sub_cancel]
  exact ⟨q, vs, v, rfl, rfl, h1, g1, k _ _ hd g2⟩
/-- x.append(e) -/
theorem bj_append {i : Nat} {q : Addr} {ds : List PyData} {d : PyData} {pos' : Pos} (hN : X.N[i]? = some x) (hv : Vis X.env.scope x) (he : EJ X Γ e (.dat d) Γ1) (hΓ0 : ∃ ds0, Γ[i]? = some (.own q (.lst ds0))) (hΓ : Γ1[i]? = some (.own q (.lst ds))) (hl : ds.length < sizeLine)
    (h : BJ X (Γ1.set i (.own q (.lst (ds ++ [d])))) rest k) (hst : starEach (e :: []) X.env = (false, eval e X.env) :: starEach [] X.env := by rfl)
    (hdb : (x == ("__debug__" : Str)) = false := by decide) (hcd : (x == ("__classdict__" : Str)) = false := by decide)
    (hbase : attributeBase (.Name x p) "append" X.env (eval (.Name x p) X.env) = eval (.Name x p) X.env := by rfl)
    (hfew : ((backTo pos (starEach (e :: []) X.env)).all (fun x => !x.1) && (backToKw pos (keywordEach [] X.env)).all (fun x => x.1.isSome) && decide ((e :: []).length + ([] : List Keyword).length + (if ([] : List Keyword).isEmpty then 0 else 1) < 30)) = true := by rfl)
    (hline : (apos.endLine == pos.line) = true := by rfl) (hpl : (backTo pos (starEach [] X.env)).any (·.1) = false := by rfl) (hsw : swapsWith (.Call (.Attribute (.Name x p) "append" apos) [e] [] pos) none pos'.line X.env = pure false := by rfl) :
    BJ X Γ (.Expr (.Call (.Attribute (.Name x p) "append" apos) [e] [] pos) pos' :: rest) k :=
  bj_expr (ej_om F.slot_list_append F.type_list_append mt_append (om_append hl) hN hv (dj_cons he dj_nil hst) hΓ0 hΓ hdb hcd hbase hfew hline hst hpl) h hsw
/-- an owned list is frozen for good -/
theorem bj_freeze {i : Nat} {q : Addr} {ds : List PyData} (hΓ : Γ[i]? = some (.own q (.lst ds))) (h : BJ X (Γ.set i (.dat (.list ds))) rest k) : BJ X Γ rest k := pss_mono h fun D σ H q' => by
  obtain ⟨R, o, r⟩ := q'
  obtain ⟨e1, vs, hq, hdp⟩ := o.sl i _ hΓ
  have hm : q ∈ owned Γ := owned_at hΓ
  obtain ⟨hr, hh⟩ := o.ow q hm
  have sr : Same R (upd R q (.lst vs)) := same_new hr
  have sub := owned_set_dat (s := .dat (.list ds)) rfl Γ i
  have nq : q ∉ owned (Γ.set i (.dat (.list ds))) := fun z => by
    obtain ⟨j, q', c, hj, hx⟩ := owned_mem.mp z
    rw [List.getElem?_set] at hj
    by_cases e : i = j
    · subst e
      rw [if_pos rfl, if_pos (List.getElem?_eq_some_iff.mp hΓ).1] at hj
      cases hj
    · rw [if_neg e] at hj
      exact e (slot_uniq o.nd hΓ hj List.mem_cons_self hx)
  have o2 : Ok X.K (upd R q (.lst vs)) (Γ.set i (.dat (.list ds))) σ H := by
    refine ⟨fun b u z => ?_, by rw [List.length_set]; exact o.len, fun j s hj => ?_, fun p hp => ?_, sub.nodup o.nd⟩
    · by_cases hb : b = q
      · subst hb; rw [upd_same] at z; rw [← z]; exact hq
      · rw [upd_ne hb] at z; exact o.rh b u z
    · rw [List.getElem?_set] at hj
      by_cases e : i = j
      · subst e
        rw [if_pos rfl, if_pos (List.getElem?_eq_some_iff.mp hΓ).1] at hj
        cases hj
        exact ⟨.ref q, e1, .lst (SqL.of upd_same) (dps_same sr hdp)⟩
      · rw [if_neg e] at hj
        have z := o.sl j s hj
        cases s with
        | un => trivial
        | dat d => obtain ⟨v, a, b⟩ := z; exact ⟨v, a, dp_same sr b⟩
        | own q' c => exact ⟨z.1, cok_keep z.2 sr fun _ _ => rfl⟩
    · have : p ≠ q := fun z => nq (z ▸ hp)
      rw [upd_ne this]
      exact o.ow p (sub.subset hp)
  have st : Step R Γ H (upd R q (.lst vs)) (Γ.set i (.dat (.list ds))) H := ⟨sr, fun _ _ z _ => z, fun _ z => z, fun b h1 _ h3 => by
    have : b ≠ q := fun z => h3 (z ▸ hm)
    rw [upd_ne this]; exact h1, fun p hp => .inl (sub.subset hp)⟩
  exact ⟨_, o2, r.step st⟩
/-! ### an owned list read within an expression: it is frozen meanwhile -/
mutual
def lf : PyData → Bool
  | .list _ => false
  | .dict _ => false
  | .tuple ds => lfs ds
  | _ => true
def lfs : List PyData → Bool
  | [] => true
  | d :: ds => lf d && lfs ds
end
mutual
theorem dp_lfL {K : PySem.W.Frag} {R R' : Hp} {L : Addr → Prop} (hq : ∀ b o, R b = some o → ¬ L b → R' b = some o) (hn : ∀ b, L b → ∀ xs, R b ≠ some (.tup xs)) (hn2 : ∀ b, L b → ∀ o xs, R b ≠ some (.frz o (.tup xs))) : ∀ {v : V} {d : PyData}, lf d = true → Dp K R v d → Dp K R' v d
  | _, _, _, .non => .non
  | _, _, _, .bl b => .bl b
  | _, _, _, .int i => .int i
  | _, _, _, .str x => .str x
  | _, _, h, .lst _ _ => nomatch h
  | _, _, h, .tup (a := a) h1 h2 => by
    refine .tup ?_ (dps_lfL hq hn hn2 h h2)
    rcases h1 with (h1 | ⟨o, h1⟩) | h1
    · exact .inl (.inl (hq _ _ h1 fun z => hn _ z _ h1))
    · exact .inl (.inr ⟨o, hq _ _ h1 fun z => hn2 _ z _ _ h1⟩)
    · exact .inr h1
theorem dps_lfL {K : PySem.W.Frag} {R R' : Hp} {L : Addr → Prop} (hq : ∀ b o, R b = some o → ¬ L b → R' b = some o) (hn : ∀ b, L b → ∀ xs, R b ≠ some (.tup xs)) (hn2 : ∀ b, L b → ∀ o xs, R b ≠ some (.frz o (.tup xs))) : ∀ {vs : List V} {ds : List PyData}, lfs ds = true → DpAll K R vs ds → DpAll K R' vs ds
  | _, _, _, .nil => .nil
  | _, _, h, .cons h1 h2 => by
    have h' := Bool.and_eq_true_iff.mp (show (lf _ && lfs _) = true from h)
    exact .cons (dp_lfL hq hn hn2 h'.1 h1) (dps_lfL hq hn hn2 h'.2 h2)
end
def rlf : Rs → Bool
  | .dat d => lf d
  | .new (.lst ds) => lfs ds
  | _ => false
/-- the owned lists of the slots is are read as data, all other cells are out of sight -/
def lend (Γ : List Sl) (is : List Nat) : List Sl := Γ.mapIdx fun j s => match s with
  | .own _ (.lst ds) => if j ∈ is then .dat (.list ds) else .un
  | .own _ _ => .un
  | s => s
theorem lend_owned (Γ : List Sl) (is : List Nat) : owned (lend Γ is) = [] := by
  cases e : owned (lend Γ is) with
  | nil => rfl
  | cons p r =>
    have hp : p ∈ owned (lend Γ is) := by rw [e]; exact List.mem_cons_self
    obtain ⟨j, q, c, hj, _⟩ := owned_mem.mp hp
    unfold lend at hj
    rw [List.getElem?_mapIdx] at hj
    cases f : Γ[j]? with
    | none => rw [f] at hj; cases hj
    | some s =>
      rw [f] at hj
      cases s with
      | un => cases hj
      | dat d => cases hj
      | own q' c' =>
        cases c' with
        | lst ds =>
          have hj' : (if j ∈ is then Sl.dat (.list ds) else Sl.un) = Sl.own q c := Option.some.inj hj
          by_cases hi : j ∈ is
          · rw [if_pos hi] at hj'; cases hj'
          · rw [if_neg hi] at hj'; cases hj'
        | dic _ => cases hj
        | dct _ => cases hj
        | gro _ _ _ _ => cases hj
def Lent (Γ : List Sl) (is : List Nat) (b : Addr) : Prop := ∃ (j : Nat) (ds : List PyData), j ∈ is ∧ Γ[j]? = some (.own b (.lst ds))
open Classical in
theorem ej_lend {r : Rs} (is : List Nat) (he : EJ X (lend Γ is) e r (lend Γ is)) (hr : rlf r = true) : EJ X Γ e r Γ := pe_mono he fun σ H Q q' => by
  obtain ⟨R, o, kk⟩ := q'
  have lo : ∀ b, Lent Γ is b → b ∈ owned Γ := fun b ⟨j, ds, _, hj⟩ => owned_at hj
  have lh : ∀ b, Lent Γ is b → ∃ vs, H b = some (.lst vs) := fun b ⟨j, ds, _, hj⟩ => by
    obtain ⟨_, vs, h1, _⟩ := o.sl j _ hj
    exact ⟨vs, h1⟩
  let R' : Hp := fun b => if Lent Γ is b then H b else R b
  have r1 : ∀ b, Lent Γ is b → R' b = H b := fun b h => if_pos h
  have r2 : ∀ b, ¬ Lent Γ is b → R' b = R b := fun b h => if_neg h
  have sr : Same R R' := fun b u z => by
    rw [r2 b fun h => ?_]
    · exact z
    · have := (o.ow b (lo b h)).1
      rw [z] at this
      cases this
  have rh' : Same R' H := fun b u z => by
    by_cases h : Lent Γ is b
    · rw [r1 b h] at z; exact z
    · rw [r2 b h] at z; exact o.rh b u z
  refine ⟨R', ⟨rh', by unfold lend; rw [List.length_mapIdx]; exact o.len, fun j s hj => ?_, fun p hp => ?_, ?_⟩, fun v H1 R1 s1 o1 q1 => ?_⟩
  · unfold lend at hj
    rw [List.getElem?_mapIdx] at hj
    cases f : Γ[j]? with
    | none => rw [f] at hj; cases hj
    | some t =>
      rw [f] at hj
      have z := o.sl j t f
      cases t with
      | un => cases hj; trivial
      | dat d => cases hj; obtain ⟨v, a, b⟩ := z; exact ⟨v, a, dp_same sr b⟩
      | own q c =>
        cases c with
        | lst ds =>
          have hj' : (if j ∈ is then Sl.dat (.list ds) else Sl.un) = s := Option.some.inj hj
          by_cases hi : j ∈ is
          · rw [if_pos hi] at hj'
            subst hj'
            obtain ⟨e1, vs, hq, hdp⟩ := z
            have hl : Lent Γ is q := ⟨j, ds, hi, f⟩
            exact ⟨.ref q, e1, .lst (SqL.of ((r1 q hl).trans hq)) (dps_same sr hdp)⟩
          · rw [if_neg hi] at hj'
            subst hj'
            trivial
        | dic _ => cases hj; trivial
        | dct _ => cases hj; trivial
        | gro _ _ _ _ => cases hj; trivial
  · rw [lend_owned] at hp; cases hp
  · rw [lend_owned]; exact List.nodup_nil
  · have hk : ∀ b u, H b = some u → H1 b = some u := fun b u z => s1.fr b u z (by rw [lend_owned]; simp)
    let R2 : Hp := fun b => if Lent Γ is b then none else R1 b
    have t1 : ∀ b, Lent Γ is b → R2 b = none := fun b h => if_pos h
    have t2 : ∀ b, ¬ Lent Γ is b → R2 b = R1 b := fun b h => if_neg h
    have sR : Same R R2 := fun b u z => by
      have hb : ¬ Lent Γ is b := fun h => by
        have := (o.ow b (lo b h)).1
        rw [z] at this
        cases this
      rw [t2 b hb]
      exact s1.rr b u (sr b u z)
    have sH : Same R2 H1 := fun b u z => by
      by_cases h : Lent Γ is b
      · rw [t1 b h] at z; cases z
      · rw [t2 b h] at z; exact o1.rh b u z
    have gR : ∀ b, R b = none → H b ≠ none → R2 b = none := fun b z1 z2 => by
      by_cases h : Lent Γ is b
      · exact t1 b h
      · rw [t2 b h]
        exact s1.gw b ((r2 b h).trans z1) z2 (by rw [lend_owned]; simp)
    have g : Gw R H R2 H1 := ⟨hk, sR, sH, gR⟩
    refine kk v H1 R2 g.step (o.grow g) ?_
    have cut : ∀ {v d}, lf d = true → Dp X.K R1 v d → Dp X.K R2 v d := fun {v d} hl hd => dp_lfL (fun b u z h => by rw [t2 b h]; exact z) (fun b h xs z => by
      obtain ⟨vs, hv⟩ := lh b h
      have := s1.rr b _ ((r1 b h).trans hv)
      rw [this] at z; cases z) (fun b h w xs z => by
      obtain ⟨vs, hv⟩ := lh b h
      have := s1.rr b _ ((r1 b h).trans hv)
      rw [this] at z; cases z) hl hd
    have cuts : ∀ {vs ds}, lfs ds = true → DpAll X.K R1 vs ds → DpAll X.K R2 vs ds := fun {v d} hl hd => dps_lfL (fun b u z h => by rw [t2 b h]; exact z) (fun b h xs z => by
      obtain ⟨vs, hv⟩ := lh b h
      have := s1.rr b _ ((r1 b h).trans hv)
      rw [this] at z; cases z) (fun b h w xs z => by
      obtain ⟨vs, hv⟩ := lh b h
      have := s1.rr b _ ((r1 b h).trans hv)
      rw [this] at z; cases z) hl hd
    cases r with
    | dat d => exact cut hr q1
    | new c =>
      cases c with
      | lst ds =>
        obtain ⟨p, e1, ⟨vs, h1, h2⟩, h3, h4⟩ := q1
        refine ⟨p, e1, ⟨vs, h1, cuts hr h2⟩, fun z hz => ?_, h4⟩
        obtain ⟨a1, a2, a3, a4⟩ := h3 z hz
        have hnl : ¬ Lent Γ is z := fun h => (o.ow z (lo z h)).2 a1
        exact ⟨a1, (t2 z hnl).trans a2, a3, fun h => (o.ow z h).2 a1⟩
      | dic _ => cases hr
      | dct _ => cases hr
      | gro _ _ _ _ => cases hr
theorem tj_lend {b0 : Bool} (is : List Nat) (he : EJ X (lend Γ is) e (.dat (.bool b0)) (lend Γ is)) (hw : ∀ whole, isTrue e X.env whole = (do let v ← whole; standAt e.pos; holding [v] (truthy v)) := by intro _; rfl) : TJ X Γ e b0 Γ := tj_val (ej_lend is he rfl) hw
end
end DL

/-! The data layer: points (natural numbers), orders. -/
namespace DL
open L2 PyProof.Rows PySem PySem.Spec
abbrev nI (n : Nat) : PyData := .int (n : Int)
abbrev rowD (r : List Nat) : PyData := .tuple (r.map nI)
abbrev ordD (o : List (List Nat)) : PyData := .tuple (o.map rowD)
theorem map_nI (r : List Nat) : r.map nI = (r.map (fun (n : Nat) => (n : Int))).map PyData.int := by rw [List.map_map]; rfl
theorem contains_nI (i : Nat) (r : List Nat) : (r.map fun (n : Nat) => (n : Int)).contains (i : Int) = r.contains i := by
  induction r with
  | nil => rfl
  | cons a r ih =>
    rw [List.map_cons, List.contains_cons, List.contains_cons, ih]
    congr 1
    by_cases h : i = a
    · subst h; rw [beq_self_eq_true, beq_self_eq_true]
    · rw [beq_false_of_ne h]
      exact beq_false_of_ne (fun (z : (i : Int) = (a : Int)) => h (Int.ofNat.inj z))
section
variable {X : Cx} {i : Nat} {r : List Nat}
theorem ob_inTn : OpB X (compareOp .In) (nI i) (rowD r) (.dat (.bool (r.contains i))) := by
  unfold rowD
  rw [map_nI, ← contains_nI]
  exact ob_inT
theorem ob_ninTn : OpB X (compareOp .NotIn) (nI i) (rowD r) (.dat (.bool (!r.contains i))) := by
  unfold rowD
  rw [map_nI, ← contains_nI]
  exact ob_ninT
theorem ob_inLn : OpB X (compareOp .In) (nI i) (.list (r.map nI)) (.dat (.bool (r.contains i))) := by
  rw [map_nI, ← contains_nI]
  exact ob_inL
theorem ob_ninLn : OpB X (compareOp .NotIn) (nI i) (.list (r.map nI)) (.dat (.bool (!r.contains i))) := by
  rw [map_nI, ← contains_nI]
  exact ob_ninL
end
theorem atI_map {α β : Type} {f : α → β} {xs : List α} {i : Nat} (h : i < xs.length) : atI (xs.map f) (i : Int) = some (f xs[i]) := atI_nat (by rw [List.getElem?_map, List.getElem?_eq_getElem h]; rfl)
/-! shapes of data for == -/
structure Shp (n : Nat) (d : PyData) : Prop where
  can : d.canLay0 = true
  dep : d.depth ≤ n
theorem Shp.shaped {d : PyData} {n : Nat} (h : Shp n d) (hn : n ≤ 64) : SeqAt.shaped d = true := by
  unfold SeqAt.shaped
  rw [h.can, Bool.true_and]
  exact decide_eq_true (Nat.le_trans h.dep hn)
theorem Shp.mono {d : PyData} {m n : Nat} (h : Shp m d) (hn : m ≤ n) : Shp n d := ⟨h.can, Nat.le_trans h.dep hn⟩
theorem shps : ∀ {n : Nat} {ds : List PyData}, (∀ d ∈ ds, Shp n d) → PyData.canLayAll0 ds = true ∧ PyData.depthAll ds ≤ n
  | n, [], _ => ⟨rfl, Nat.zero_le _⟩
  | n, d :: ds, h => by
    obtain ⟨h1, h2⟩ := shps (ds := ds) fun x hx => h x (List.mem_cons_of_mem _ hx)
    obtain ⟨h3, h4⟩ := h d List.mem_cons_self
    refine ⟨by unfold PyData.canLayAll0; rw [h3, h1]; rfl, ?_⟩
    unfold PyData.depthAll
    omega
theorem Shp.tup {n : Nat} {ds : List PyData} (h : ∀ d ∈ ds, Shp n d) : Shp (n + 1) (.tuple ds) := by
  obtain ⟨h1, h2⟩ := shps h
  refine ⟨by unfold PyData.canLay0; exact h1, ?_⟩
  unfold PyData.depth
  omega
theorem Shp.lst {n : Nat} {ds : List PyData} (h : ∀ d ∈ ds, Shp n d) : Shp (n + 1) (.list ds) := by
  obtain ⟨h1, h2⟩ := shps h
  refine ⟨by unfold PyData.canLay0; exact h1, ?_⟩
  unfold PyData.depth
  omega
theorem Shp.int {i : Int} : Shp 0 (.int i) := ⟨rfl, Nat.le_refl _⟩
theorem Shp.bool {i : Bool} : Shp 0 (.bool i) := ⟨rfl, Nat.le_refl _⟩
theorem Shp.non : Shp 0 .none := ⟨rfl, Nat.le_refl _⟩
theorem Shp.row (r : List Nat) : Shp 1 (rowD r) := Shp.tup fun d hd => by
  obtain ⟨n, _, rfl⟩ := List.mem_map.mp hd
  exact Shp.int
theorem Shp.ord (o : List (List Nat)) : Shp 2 (ordD o) := Shp.tup fun d hd => by
  obtain ⟨n, _, rfl⟩ := List.mem_map.mp hd
  exact Shp.row n
theorem lf_map {α : Type} {f : α → PyData} {xs : List α} (h : ∀ x ∈ xs, lf (f x) = true) : lfs (xs.map f) = true := by
  induction xs with
  | nil => rfl
  | cons a r ih =>
    show (lf (f a) && lfs (r.map f)) = true
    rw [h a List.mem_cons_self, ih fun x hx => h x (List.mem_cons_of_mem _ hx)]
    rfl
theorem lf_row (r : List Nat) : lf (rowD r) = true := lf_map fun _ _ => rfl
theorem lf_ord (o : List (List Nat)) : lf (ordD o) = true := lf_map fun r _ => lf_row r
/-! == of orders -/
theorem eqvAll_iff : ∀ {ds es : List PyData}, PyData.eqvAll ds es = true ↔ ds.length = es.length ∧ ∀ (i : Nat) d e, ds[i]? = some d → es[i]? = some e → PyData.eqv d e = true
  | [], [] => by unfold PyData.eqvAll; simp
  | [], _ :: _ => by unfold PyData.eqvAll; simp
  | _ :: _, [] => by unfold PyData.eqvAll; simp
  | d :: ds, e :: es => by
    unfold PyData.eqvAll
    rw [Bool.and_eq_true, eqvAll_iff (ds := ds) (es := es)]
    constructor
    · rintro ⟨h1, h2, h3⟩
      refine ⟨by rw [List.length_cons, List.length_cons, h2], fun i a b ha hb => ?_⟩
      cases i with
      | zero => simp at ha hb; subst ha hb; exact h1
      | succ i => exact h3 i a b (by simpa using ha) (by simpa using hb)
    · rintro ⟨h1, h2⟩
      refine ⟨h2 0 d e rfl rfl, by simpa using h1, fun i a b ha hb => h2 (i + 1) a b (by simpa using ha) (by simpa using hb)⟩
theorem eqvAll_map {α : Type} {f : α → PyData} [DecidableEq α] (hf : ∀ a b, PyData.eqv (f a) (f b) = decide (a = b)) : ∀ xs ys : List α, PyData.eqvAll (xs.map f) (ys.map f) = decide (xs = ys)
  | [], [] => by unfold PyData.eqvAll; simp
  | [], _ :: _ => by unfold PyData.eqvAll; simp
  | _ :: _, [] => by unfold PyData.eqvAll; simp
  | x :: xs, y :: ys => by
    rw [List.map_cons, List.map_cons]
    unfold PyData.eqvAll
    rw [hf, eqvAll_map hf xs ys, Bool.eq_iff_iff]
    simp
theorem eqv_nI (a b : Nat) : PyData.eqv (nI a) (nI b) = decide (a = b) := by
  show ((a : Int) == (b : Int)) = _
  by_cases h : a = b
  · subst h; simp
  · rw [decide_eq_false h]
    exact beq_false_of_ne fun z => h (Int.ofNat.inj z)
theorem eqv_int (a b : Int) : PyData.eqv (.int a) (.int b) = decide (a = b) := by
  show (a == b) = _
  rw [Bool.eq_iff_iff]
  simp
theorem eqv_bool (a b : Bool) : PyData.eqv (.bool a) (.bool b) = decide (a = b) := by
  show (a == b) = _
  cases a <;> cases b <;> rfl
theorem eqv_row (r s : List Nat) : PyData.eqv (rowD r) (rowD s) = decide (r = s) := by
  show PyData.eqvAll _ _ = _
  exact eqvAll_map eqv_nI r s
theorem eqv_ord (o q : List (List Nat)) : PyData.eqv (ordD o) (ordD q) = decide (o = q) := by
  show PyData.eqvAll _ _ = _
  exact eqvAll_map eqv_row o q
end DL

/-! The data layer: promises whose answer is left open; sets sorted; further statements. -/
namespace DL
open L2 PyProof.Rows PySem PySem.Spec

/-! ### answers left open -/
def CtN (K : PySem.W.Frag) (pre : List Sl → Prop) (post : List Sl → Rs → List Sl → Prop) : Sp := fun vs H Q _ => ∃ (R : Hp) (Γ : List Sl), pre Γ ∧ Ok K R Γ (vs.map some) H ∧
  ∀ r Γ' v H' R', post Γ r Γ' → Step R Γ H R' Γ' H' → Ok K R' Γ' (vs.map some) H' → rsok K H R' Γ' H' r v → Q v H'
def tEN (K : PySem.W.Frag) (Γ : List Sl) (post : Rs → List Sl → Prop) : TE := fun σ H Q => ∃ R, Ok K R Γ σ H ∧ ∀ r Γ' v H' R', post r Γ' → Step R Γ H R' Γ' H' → Ok K R' Γ' σ H' → rsok K H R' Γ' H' r v → Q v H'
def EJN (X : Cx) (Γ : List Sl) (e : Expr) (post : Rs → List Sl → Prop) : Prop := PE X e (tEN X.K Γ post)
theorem fn_ctN {P : Program} {w : World} {K : PySem.W.Frag} {mg : Str → Option Value} {base : Heap} {x qual : Str} {st : Stmt} {f : Addr} {fd : FuncData} {N ps : List Str} {k : Nat} {pre : List Sl → Prop} {post : List Sl → Rs → List Sl → Prop} (F : Fun K x qual st f fd) (S : FnScope N ps (defScope st)) (len : ∀ Γ, pre Γ → Γ.length = ps.length)
    (hbody : ∀ (cdv : Value) (A : Around) (outer : List Env) (s : Shared) (H : Hp) (E : XK), Room k (A.deeper (envOfC qual (defScope st) s.heap.objs.size f cdv)) → ∀ Γ, pre Γ →
      BJ (cxOf CX0 P w K mg base N qual (defScope st) f cdv A outer s H E).nox (Γ ++ List.replicate (N.length - ps.length) .un) (defBody st) { rt := fun r G => ∃ Γ', post Γ r Γ' ∧ ends Γ G Γ' }) :
    FnOk P w K mg base CX0 (k + 1) f fd ps (CtN K pre post) := by
  refine F.ok S (fun vs H Q E h => ?_) fun cdv A outer s H vs Q E hr h => ?_
  · obtain ⟨R, Γ, h1, o, _⟩ := h
    rw [← len Γ h1, o.len, List.length_map]
  · obtain ⟨R, Γ, h1, o, q⟩ := h
    refine ⟨_, hbody cdv A outer s H E hr Γ h1, R, ?_, ?_⟩
    · have hl : vs.length = ps.length := by rw [← len Γ h1, o.len, List.length_map]
      refine ⟨o.rh, ?_, fun i t hi => ?_, fun p hp => o.ow p ?_, ?_⟩
      · unfold L2.start
        rw [List.length_append, List.length_append, List.length_replicate, List.length_replicate, o.len, hl]
      · unfold L2.start
        rw [List.getElem?_append] at hi
        by_cases hlt : i < Γ.length
        · rw [if_pos hlt] at hi
          rw [List.getElem?_append_left (by rw [← o.len]; exact hlt)]
          exact o.sl i t hi
        · rw [if_neg hlt] at hi
          have := List.mem_of_getElem? hi
          rw [List.mem_replicate] at this
          rw [this.2]
          trivial
      · rw [owned_app, owned_uns, List.append_nil] at hp; exact hp
      · rw [owned_app, owned_uns, List.append_nil]; exact o.nd
    · refine ⟨fun _ _ _ _ z => z.elim, fun r' G v σ' H' R' hk s' o' hr' => ?_, fun _ _ _ _ z => z.elim, fun _ _ _ _ z => z.elim⟩
      obtain ⟨Γ', hp, e⟩ := hk
      obtain ⟨o2, s2⟩ := o.params s' o' (owned_uns _) e
      refine q r' Γ' v H' R' hp s2 o2 ?_
      cases r' with
      | dat d => exact hr'
      | new c =>
        obtain ⟨p, e1, c1, c2, c3⟩ := hr'
        exact ⟨p, e1, c1, fun z hz => ⟨(c2 z hz).1, (c2 z hz).2.1, (c2 z hz).2.2.1, fun hm => by
          rw [ends_owned e] at hm
          exact (o.ow z hm).2 (c2 z hz).1⟩, c3⟩
section
variable {X : Cx} {Γ Γ1 Γ2 Δ : List Sl} {e a b : Expr} {es : List Expr} {rest : List Stmt} {pos p : Pos} {x y : Str} {as : List Ar} {k : Kt}
theorem ejn_call {kk j : Nat} {pre : List Sl → Prop} {post : List Sl → Rs → List Sl → Prop} (c : Cal X.prog X.w X.K X.mg X.base kk x (CtN X.K pre post) []) (hr : Room j X.A) (hk : kk ≤ j) (hg : Gl X x) (ha : AJ X Γ (e :: es) as Γ1) (h : pre (sub Γ1 as)) (m : ∀ r Δ, post (sub Γ1 as) r Δ → mates Γ1 as Δ)
    (hn : (refs as).Nodup := by decide) (hdb : (x == ("__debug__" : Str)) = false := by decide) (he : starEach (e :: es) X.env = (false, eval e X.env) :: starEach es X.env := by rfl) (hpl : (backTo pos (starEach es X.env)).any (·.1) = false := by rfl) :
    EJN X Γ (.Call (.Name x p) (e :: es) [] pos) (fun r G => ∃ Δ, post (sub Γ1 as) r Δ ∧ G = wr Γ1 as Δ) := by
  obtain ⟨f, fd, ps, ds, F, h1, h2, h3, h4⟩ := c.ex
  refine pe_mono (pe_call (E := E0) F (hr.mono hk) hg h1 h2 h3 h4 pass0 ha hdb he hpl) fun σ H Q q => ?_
  obtain ⟨R, o, q⟩ := q
  refine ⟨R, o, fun vs H1 R1 s1 o1 q1 => ?_⟩
  show CtN X.K pre post (vs ++ []) H1 Q E0
  rw [List.append_nil]
  refine ⟨R1, sub Γ1 as, h, ⟨o1.rh, ?_, sub_ok o1 q1, fun a ha => o1.ow a ?_, sub_nd o1.nd hn⟩, fun r Δ v H2 R2 hp s2 o2 hv => ?_⟩
  · unfold sub
    rw [List.length_map, List.length_map, ars_len q1]
  · obtain ⟨i, q', c', _, g1, g2⟩ := sub_mem ha
    exact owned_mem.mpr ⟨i, q', c', g1, g2⟩
  · have m' := m r Δ hp
    obtain ⟨o3, s3⟩ := o1.called hn q1 m' s2 o2
    refine q r _ v H2 R2 ⟨Δ, hp, rfl⟩ (s1.trans s3) o3 (rsok_back s1.al ?_)
    cases r with
    | dat d => exact hv
    | new c =>
      obtain ⟨a, e1, c1, c2, c3⟩ := hv
      refine ⟨a, e1, c1, fun z hz => ⟨(c2 z hz).1, (c2 z hz).2.1, (c2 z hz).2.2.1, fun hm => ?_⟩, c3⟩
      rw [wr_owned hn m'] at hm
      exact (o1.ow z hm).2 (c2 z hz).1
theorem bj_setN {i : Nat} {post : Rs → List Sl → Prop} {pos' : Pos} (hN : X.N.Nodup) (hi : X.N[i]? = some x) (hx : Loc X.env.scope x) (he : EJN X Γ e post) (h : ∀ r G p, post r G → BJ X (G.set i (Sl.is r p)) rest k)
    (hs : swapsWith e (some (.Name x pos')) pos.line X.env = pure false := by rfl) (hf : X.fn x = true ∨ X.env.scope.names.lookup x = some .local := by first | exact .inl rfl | exact .inr rfl | assumption) : BJ X Γ (.Assign [.Name x pos'] e pos :: rest) k :=
  bj_cons (fun G => ∃ r G0 p, post r G0 ∧ G = G0.set i (Sl.is r p)) (ps_mono (ps_set hN hi hx he hs hf) fun D σ H q => by
    obtain ⟨R, o, q⟩ := q
    refine ⟨R, o, fun r G v H' R' hp s' o' q' => ?_⟩
    obtain ⟨p, o2, w⟩ := o'.set_rs (i := i) q'
    exact q.nx _ _ H' R' ⟨r, G, p, hp, rfl⟩ (s'.to w) o2) fun _ ⟨r, G0, p, hp, e⟩ => e ▸ h r G0 p hp
/-! ### an item of an owned list, its place told by an expression that may change other cells -/
theorem ej_ixO {i : Nat} {q : Addr} {ds : List PyData} {j : Int} {d : PyData} (hi : atI ds j = some d) (hN : X.N[i]? = some x) (hv : Vis X.env.scope x) (hΓ : ∃ ds0, Γ[i]? = some (.own q (.lst ds0))) (hb : EJ X Γ b (.dat (.int j)) Γ1) (hΓ1 : Γ1[i]? = some (.own q (.lst ds)))
    (hs : PlainIx b := by exact fun _ _ => rfl) (hd : (x == ("__debug__" : Str)) = false := by decide) (hcd : (x == ("__classdict__" : Str)) = false := by decide) : EJ X Γ (.Subscript (.Name x p) b pos) (.dat d) Γ1 :=
  pe_mono (pe_ix ix_list (pe_var hN hv hd hcd) hb hs) fun σ H Q h => by
    obtain ⟨R, o, k⟩ := h
    obtain ⟨ds0, hΓ⟩ := hΓ
    obtain ⟨e1, _⟩ := o.sl i _ hΓ
    refine ⟨.ref q, e1, R, o, fun u H1 R1 s1 o1 q1 => ?_⟩
    cases (show Dp X.K R1 u (.int j) from q1)
    obtain ⟨e2, vs, hq, hdp⟩ := o1.sl i _ hΓ1
    obtain ⟨v, g1, g2⟩ := atI_dp hdp hi
    exact ⟨q, vs, j, v, rfl, rfl, SqL.of hq, g1, k v H1 R1 s1 o1 g2⟩
/-- x[i] = e, x an owned list -/
theorem bj_setitem {i : Nat} {q : Addr} {ds : List PyData} {j : Int} {n : Nat} {d : PyData} {ps pos' : Pos} (hN : X.N[i]? = some x) (hv : Vis X.env.scope x) (he : EJ X Γ e (.dat d) Γ1) (hb : EJ X Γ1 b (.dat (.int j)) Γ2) (hΓ : ∃ ds0, Γ1[i]? = some (.own q (.lst ds0))) (hΓ2 : Γ2[i]? = some (.own q (.lst ds)))
    (hj : ixN ds.length j = some n) (h : BJ X (Γ2.set i (.own q (.lst (ds.set n d)))) rest k)
    (hgs : PG X (.Subscript (.Name x p) b ps) (gSub (tVar i) (tE X.K Γ1 (.dat (.int j)) Γ2) rSetL))
    (hs : swapsWithSole [.Subscript (.Name x p) b ps] e pos.line X.env = pure false := by rfl) (hw : swappedStores [.Subscript (.Name x p) b ps] e X.env = pure none := by rfl) : BJ X Γ (.Assign [.Subscript (.Name x p) b ps] e pos :: rest) k := by
  refine bj_cons (fun G => G = Γ2.set i (.own q (.lst (ds.set n d)))) (ps_mono (ps_asg he hgs hs hw) fun D σ H q' => ?_) fun _ e => e ▸ h
  obtain ⟨R, o, r⟩ := q'
  refine ⟨R, o, fun v H1 R1 s1 o1 q1 => ?_⟩
  obtain ⟨ds0, hΓ⟩ := hΓ
  obtain ⟨e1, _⟩ := o1.sl i _ hΓ
  refine ⟨.ref q, e1, R1, o1, fun u H2 R2 s2 o2 q2 => ?_⟩
  cases (show Dp X.K R2 u (.int j) from q2)
  obtain ⟨e2, vs, hq, hdp⟩ := o2.sl i _ hΓ2
  refine ⟨q, vs, j, n, rfl, rfl, hq, by rw [dps_len hdp]; exact hj, ?_⟩
  obtain ⟨o3, s3⟩ := o2.mut (u := .lst (vs.set n v)) (c' := .lst (ds.set n d)) hΓ2 rfl rfl ⟨_, upd_same, dps_set (dp_same s2.rr q1) n hdp⟩
  exact r.nx _ σ _ R2 rfl ((s1.trans s2).trans s3) o3
/-- x, y = a, b (two locals), each a new list -/
theorem bj_parL {i j : Nat} {c1 c2 : Cel} {px py pt : Pos} {kt k2 pt2} (hc : X.calm = true) (hN : X.N.Nodup) (hi : X.N[i]? = some x) (hj : X.N[j]? = some y) (hij : i ≠ j)
    (hx : X.env.scope.names.lookup x = some .local) (hy : X.env.scope.names.lookup y = some .local) (ha : EJ X Γ a (.new c1) Γ1) (hb : EJ X Γ1 b (.new c2) Γ2)
    (h : ∀ p q, BJ X ((Γ2.set i (.own p c1)).set j (.own q c2)) rest k)
    (hw : swappedStores [.Tuple [.Name x px, .Name y py] kt pt] (.Tuple [a, b] k2 pt2) X.env = pure (some [x, y]) := by rfl)
    (hs : swapsWithSole [.Tuple [.Name x px, .Name y py] kt pt] (.Tuple [a, b] k2 pt2) pos.line X.env = pure false := by rfl)
    (hst : starEach (a :: [b]) X.env = (false, eval a X.env) :: starEach [b] X.env := by rfl) (hst2 : starEach (b :: []) X.env = (false, eval b X.env) :: starEach [] X.env := by rfl) :
    BJ X Γ (.Assign [.Tuple [.Name x px, .Name y py] kt pt] (.Tuple [a, b] k2 pt2) pos :: rest) k := by
  refine bj_cons (fun G => ∃ p q, G = (Γ2.set i (.own p c1)).set j (.own q c2)) (ps_mono (ps_par hc hN hi hj hij hx hy (pa_cons ha (pa_cons hb pa_nil hst2) hst) hw hs) fun D σ H q' => ?_) fun _ ⟨p, q, e⟩ => e ▸ h p q
  obtain ⟨R, o, r⟩ := q'
  refine ⟨R, o, fun v H1 R1 s1 o1 q1 => ⟨R1, o1, fun u H2 R2 s2 o2 q2 => ?_⟩⟩
  obtain ⟨p1, rfl, k1, n1, d1⟩ := q1
  obtain ⟨p2, rfl, k2, n2, d2⟩ := q2
  have keep : ∀ z ∈ p1 :: c1.fp, H2 z = H1 z := fun z hz => by
    obtain ⟨_, _, a3, a4⟩ := n1 z hz
    cases e : H1 z with
    | none => exact absurd e a3
    | some w => exact s2.fr z w e a4
  have own2 : ∀ z ∈ owned Γ2, z ∈ owned Γ1 ∨ H1 z = none := s2.ow
  have f1 : ∀ z ∈ p1 :: c1.fp, z ∉ owned Γ2 := fun z hz h2 => by
    obtain ⟨_, _, a3, a4⟩ := n1 z hz
    rcases own2 z h2 with w | w
    · exact a4 w
    · exact a3 w
  refine ⟨.ref p1, .ref p2, rfl, ?_⟩
  have oA : Ok X.K R2 (Γ2.set i (.own p1 c1)) (σ.set i (some (.ref p1))) H2 := o2.set_own (cok_keep k1 s2.rr keep) (fun z hz => by
    obtain ⟨_, a2, a3, a4⟩ := n1 z hz
    exact ⟨s2.gw z a2 a3 a4, s2.al z a3, f1 z hz⟩) d1
  have oB : Ok X.K R2 ((Γ2.set i (.own p1 c1)).set j (.own p2 c2)) ((σ.set i (some (.ref p1))).set j (some (.ref p2))) H2 := oA.set_own k2 (fun z hz => by
    obtain ⟨a1, a2, a3, a4⟩ := n2 z hz
    refine ⟨a2, a3, fun hm => ?_⟩
    rcases owned_set_mem hm with w | w
    · exact a4 w
    · exact (n1 z w).2.2.1 a1) d2
  refine r.nx _ _ _ R2 ⟨p1, p2, rfl⟩ ((s1.trans s2).to fun z hz => ?_) oB
  rcases owned_set_mem hz with w | w
  · rcases owned_set_mem w with w | w
    · exact .inl w
    · exact .inr (n1 z w).1
  · exact .inr (none_back s1.al (n2 z w).1)
/-- x, y = a, b by a tuple that is unpacked: data -/
theorem bj_pairD {i j : Nat} {d1 d2 : PyData} {px py pt : Pos} {kt : Nat} (ht : TgP X (.Tuple [.Name x px, .Name y py] kt pt) (.pr i j)) (he : EJ X Γ e (.dat (.tuple [d1, d2])) Γ1) (h : BJ X ((Γ1.set i (.dat d1)).set j (.dat d2)) rest k)
    (hs : swapsWithSole [.Tuple [.Name x px, .Name y py] kt pt] e pos.line X.env = pure false := by rfl) (hw : swappedStores [.Tuple [.Name x px, .Name y py] kt pt] e X.env = pure none := by rfl) : BJ X Γ (.Assign [.Tuple [.Name x px, .Name y py] kt pt] e pos :: rest) k := by
  refine bj_cons (fun G => G = (Γ1.set i (.dat d1)).set j (.dat d2)) (ps_mono (ps_asg he ht hs hw) fun D σ H q' => ?_) fun _ e => e ▸ h
  obtain ⟨R, o, r⟩ := q'
  refine ⟨R, o, fun v H1 R1 s1 o1 q1 => tg_run (T := .pr i j) o1 q1 ⟨d1, d2, rfl⟩ fun σ' o' _ => ?_⟩
  exact r.nx _ σ' H1 R1 rfl (s1.to fun q hq => .inl ((tg_owned (T := .pr i j) (d := .tuple [d1, d2])).subset hq)) o'
/-! ### numbers -/
variable {i j : Int}
theorem ob_mod (h : 0 < j) : OpB X (binaryOp .Mod) (.int i) (.int j) (.dat (.int (i % j))) := ⟨_, op_mod, opd_I h fun _ => .int _⟩
theorem ob_fdiv (h : CDiv i j) : OpB X (binaryOp .FloorDiv) (.int i) (.int j) (.dat (.int (i / j))) := ⟨_, op_fdiv, opd_I h fun _ => .int _⟩
theorem ob_pow (h : CPow i j) : OpB X (binaryOp .Pow) (.int i) (.int j) (.dat (.int (i ^ j.toNat))) := ⟨_, op_pow, opd_I h fun _ => .int _⟩
/-! ### list(range(n)), ranges downward -/
theorem ej_listRange {n : Nat} {p' pos' : Pos} (hc : X.calm = true) (hg : Gl X "list") (hm : X.mg "list" = none) (hg2 : Gl X "range") (hm2 : X.mg "range" = none) (ha : EJ X Γ a (.dat (nI n)) Γ1) (hn : n ≤ 1000000)
    (h1 : starEach [a] X.env = (false, eval a X.env) :: starEach [] X.env := by rfl) (h2 : starEach [.Call (.Name "range" p') [a] [] pos'] X.env = (false, eval (.Call (.Name "range" p') [a] [] pos') X.env) :: starEach [] X.env := by rfl) :
    EJ X Γ (.Call (.Name "list" p) [.Call (.Name "range" p') [a] [] pos'] [] pos) (.new (.lst ((List.range n).map nI))) Γ1 :=
  pe_mono (pe_listRg hc hg hm (prg_1 hg2 hm2 ha h1) h2) fun σ H Q h => by
    obtain ⟨R, o, k⟩ := h
    refine ⟨R, o, fun v H1 R1 s1 o1 q1 => ?_⟩
    cases (show Dp X.K R1 v (.int (n : Nat)) from q1)
    refine ⟨(n : Int), rfl, ⟨by omega, by omega, by omega, by omega, by omega⟩, ?_⟩
    have e : rgV 0 (n : Int) = (((List.range n).map fun (i : Nat) => (i : Int)).map V.int) := by
      unfold rgV
      rw [Int.sub_zero, Int.toNat_natCast, List.map_map]
      congr 1
      funext i
      show V.int (0 + (i : Int)) = V.int (i : Int)
      rw [Int.zero_add]
    rw [e]
    refine vo_lst o1.rh ?_ (tE_fin s1 o1 k)
    rw [map_nI]
    exact dps_of_ints _
def downFrom (n : Nat) : List Nat := (List.range n).map fun i => n - 1 - i
theorem wj_rangeDown {tg : Expr} {n : Nat} (hg : Gl X "range") (hm : X.mg "range" = none) (ha : DJ X Γ [a, b, e] [.int ((n : Int) - 1), .int (-1), .int (-1)] Γ1) (hn : n ≤ 1000000)
    (hs : starEach [a, b, e] X.env = (false, eval a X.env) :: starEach [b, e] X.env := by rfl) (hpl : (backTo pos (starEach [b, e] X.env)).any (·.1) = false := by rfl) : WJ X Γ tg (.Call (.Name "range" p) [a, b, e] [] pos) ((downFrom n).map nI) Γ1 :=
  pi_mono (pi_range3 hg hm ha hs hpl) fun σ H Q q => by
    obtain ⟨R, o, k⟩ := q
    refine ⟨R, o, fun vs H1 R1 s1 o1 q1 => ?_⟩
    cases q1 with
    | cons h1 h2 =>
      cases h2 with
      | cons h2 h3 =>
        cases h3 with
        | cons h3 h4 =>
          cases h4
          cases h1
          cases h2
          cases h3
          refine ⟨(n : Int) - 1, -1, -1, _, rfl, RgC.neg (by omega) (by omega) (by omega) (by omega), k _ H1 R1 s1 o1 ?_⟩
          unfold WalkD
          have el : ((downFrom n).map nI).length = ((n : Int) - 1 - -1).toNat := by
            unfold downFrom
            rw [List.length_map, List.length_map, List.length_range]
            omega
          rw [el]
          refine walk_rangeC.mono (fun H _ => trivial) fun i H x H' hi hR y => ?_
          obtain ⟨e1, e2⟩ := y
          subst e1 e2
          refine ⟨nI (n - 1 - i), ?_, fun R1 r1 r2 => ⟨R1, Gw.refl r2, ?_⟩⟩
          · unfold downFrom
            rw [List.getElem?_map, List.getElem?_map, List.getElem?_range (by omega)]
            rfl
          · show Dp X.K R1 (.int ((n : Int) - 1 + (i : Nat) * -1)) (.int ((n - 1 - i : Nat) : Int))
            rw [show (n : Int) - 1 + (i : Nat) * -1 = ((n - 1 - i : Nat) : Int) by omega]
            exact .int _
theorem wj_range2m {tg : Expr} {lo n : Nat} (hg : Gl X "range") (hm : X.mg "range" = none) (ha : DJ X Γ [a, b] [.int (lo : Nat), .int (n : Nat)] Γ1) (hn : lo ≤ 1000000 ∧ n ≤ 1000000)
    (hs : starEach [a, b] X.env = [(false, eval a X.env), (false, eval b X.env)] := by rfl) (hs2 : starEach [b] X.env = [(false, eval b X.env)] := by rfl) : WJ X Γ tg (.Call (.Name "range" p) [a, b] [] pos) ((List.range' lo (n - lo)).map nI) Γ1 :=
  wj_is (wj_range2 hg hm ha ⟨by omega, by omega, by omega, by omega⟩ hs hs2) (by
    rw [upto_map, List.range'_eq_map_range, List.map_map, show ((n : Int) - (lo : Int)).toNat = n - lo by omega]
    rfl)
/-! ### x.remove(k) -/
theorem erase_at {β : Type} (f : Nat → β) {k : Nat} : ∀ {r : List Nat}, k ∈ r → ∃ j : Nat, r[j]? = some k ∧ (∀ m : Nat, m < j → r[m]? ≠ some k) ∧ (r.map f).eraseIdx j = (r.erase k).map f
  | a :: r, h => by
    by_cases e : a = k
    · subst e
      exact ⟨0, rfl, fun m hm => absurd hm (Nat.not_lt_zero _), by rw [List.erase_cons_head]; rfl⟩
    · obtain ⟨j, h1, h2, h3⟩ := erase_at f (r := r) ((List.mem_cons.mp h).resolve_left (Ne.symm e))
      refine ⟨j + 1, by simpa using h1, fun m hm => ?_, ?_⟩
      · cases m with
        | zero => intro z; exact e (by simpa using z)
        | succ m => simpa using h2 m (by omega)
      · rw [List.erase_cons_tail (by simpa using e)]
        show f a :: (r.map f).eraseIdx j = f a :: (r.erase k).map f
        rw [h3]
theorem om_remove {K : PySem.W.Frag} {r : List Nat} {k : Nat} (hk : k ∈ r) : OmD K rRemI (r.map nI) [nI k] .none ((r.erase k).map nI) := fun q vs us R H Q h1 h2 h3 kk => by
  cases h3 with
  | cons h3 h4 =>
    cases h4
    cases h3
    have hv : vs = (r.map fun (n : Nat) => (n : Int)).map V.int := dps_ints (by rw [← map_nI]; exact h2)
    subst hv
    obtain ⟨j, g1, g2, g3⟩ := erase_at (fun (n : Nat) => (n : Int)) hk
    refine ⟨q, r.map fun (n : Nat) => (n : Int), (k : Int), j, rfl, rfl, h1, by rw [List.getElem?_map, g1]; rfl, fun m hm he => ?_, ?_⟩
    · rw [List.getElem?_map] at he
      cases e : r[m]? with
      | none => rw [e] at he; cases he
      | some z =>
        rw [e] at he
        have : (z : Int) = (k : Int) := Option.some.inj he
        have : z = k := Int.ofNat.inj this
        subst this
        exact g2 m hm e
    · rw [g3]
      refine kk _ _ ?_ .non
      rw [map_nI]
      exact dps_of_ints _
end
end DL

/-! The data layer: sets of ints, sorted. -/
namespace DL
open L2 PyProof.Rows PySem PySem.Spec
/-! ### set(xs) of ints, sorted -/
section
variable {P : Program} {w : World} {A : Around} {E : Value → Shared → Prop} {s : Shared}
abbrev setZ (w : World) : Obj := { cls := .type "set", dict := none, data := .set #[] 0 (.fresh 0 0 (!w.params.followText "set-order")) }
set_option maxHeartbeats 4000000 in
theorem call_set_listI {l : Addr} {items : Array Value} (ns : List Int) {Q : Value → Shared → Prop} (hh : A.handled = none) (hl : s.heap.IsList l items) (hit : IntsAre items.toList ns) (hb : ns.length + 1 < scanBound)
    (h : ∀ (h' : Heap) (tk c : Nat), SetR w h' s.heap.objs.size (fun j => decide (j ∈ ns)) c → c ≤ ns.length → (∀ b o, s.heap.get? b = some o → h'.get? b = some o) → Q (.ref s.heap.objs.size) { s with heap := h', toks := tk }) :
    wpAny (model P w) A (call (.type "set") [.ref l]) Q E s := by
  have hisz : items.size = ns.length := by
    have z := IntsAre.length hit
    rwa [Array.length_toList] at z
  obtain ⟨c, tl, hmro⟩ := F.called_set.mro
  have hmade := F.called_set.made
  have hsub := F.called_set.sub
  refine wpAny_call (codeAny_of_tree ?_)
  show wpAny _ _ (callAny (.type "set") _) _ _ _
  refine wpAny_pure ⟨Code.quiet_builtin _ (by decide +kernel), codeAny_builtin F.entry_type_call ?_⟩
  rw [Around.under_plain (weight_type_call_type "set" [.ref l] []) rfl]
  have h1 := F.called_set.notType
  have h2 := F.called_set.canCreate
  have hct := F.typeCall_set_1 (.ref l)
  repeat (any_goals (first | assumption | wp_step))
  refine codeAny_mono (code_set_led1 (.ref l) (E := E) (Q₁ := fun z s₁ => z = .ref s.heap.objs.size ∧ s₁ = { s with heap := s.heap.push (setZ w) }) ⟨rfl, rfl⟩) fun r s₁ hr => ?_
  cases r with
  | error e => exact hr
  | ok fl =>
    cases fl with
    | ret z =>
      obtain ⟨rfl, rfl⟩ := hr
      have hS : (s.heap.push (setZ w)).get? s.heap.objs.size = some (setZ w) := Heap.get?_push_size _ rfl
      have hT : Shared.TypeIs { s with heap := s.heap.push (setZ w) } (.ref s.heap.objs.size) "set" := ⟨_, hS, rfl⟩
      have hli := F.called_set.init.lookup
      have hbi := F.called_set.init.bind (.ref s.heap.objs.size)
      repeat (any_goals (first | assumption | wp_step))
      refine codeAny_mono (codeAny_call_builtin (R := wants (fun r s₂ => r = .none ∧ ∃ h' tk c, s₂ = { s with heap := h', toks := tk } ∧ SetR w h' s.heap.objs.size (fun j => decide (j ∈ ns)) c ∧ c ≤ ns.length ∧ ∀ b o, s.heap.get? b = some o → h'.get? b = some o) E) F.called_set.init.plain F.entry_set_init (check_set_init_1 hT ?_)) fun r₂ s₂ hr₂ => ?_
      · obtain ⟨ol, hol, hcl, nl, hdl⟩ := hl
        obtain ⟨ocls, odict, odata, oslots⟩ := ol
        simp only at hcl hdl
        subst hcl hdl
        have hol' : (s.heap.push (setZ w)).get? l = some { cls := .type "list", dict := odict, data := .seq items nl, slots := oslots } := Heap.get?_push_of_some _ hol
        have hsls := F.sub_list_set
        have hslf := F.sub_list_frozenset
        have hne : (Value.type "list" == Value.type "dict") = false := by decide
        have hl1 : (s.heap.push (setZ w)).IsList l items := ⟨_, hol', rfl, nl, rfl⟩
        unfold Builtin.«set.__init__» noKeywords Builtin.Frozenset.updateFrom
        generalize hPI : pyIter = PI
        wp_walk
        subst hPI
        refine wpAny_pyIter_list hl1 ?_
        refine wpAny_bind (wpAny_runValue ?_)
        have hlS : l < s.heap.objs.size := Heap.lt_size hol
        have hh3 : A.in1.in1.in1.handled = none := by simp [hh]
        have ez : (s.heap.push (setZ w)).objs.size = s.heap.objs.size + 1 := Heap.size_push ..
        have hneI : l ≠ (s.heap.push (setZ w)).objs.size := by
          rw [ez]; exact Nat.ne_of_lt (Nat.lt_succ_of_lt hlS)
        have hSf : s.heap.objs.size ∉ [(s.heap.push (setZ w)).objs.size, l] := by
          rw [ez]
          intro hm
          rcases List.mem_cons.mp hm with z | z
          · exact absurd z (Nat.ne_of_lt (Nat.lt_succ_self _))
          · exact absurd (List.mem_singleton.mp z) (Nat.ne_of_gt hlS)
        have hval : ∀ (i : Nat) (v : Value), items[i]? = some v → ∃ k t, ns[i]? = some k ∧ v = .int k t := fun i v hv => by
          have hi : i < ns.length := by rw [← hisz]; exact (Array.getElem?_eq_some_iff.mp hv).1
          obtain ⟨t, e⟩ := IntsAre.int_at hit i v (by rw [Array.getElem?_toList]; exact hv)
          refine ⟨ns[i], t, List.getElem?_eq_getElem hi, ?_⟩
          rw [e, List.getD_eq_getElem?_getD, List.getElem?_eq_getElem hi] <;> rfl
        refine set_update_ints ((Walks.list hh3 _ l hneI items).toS) s.heap.objs.size hSf ns hisz hb hval (items.size - 0) 0 _ (by omega) (Nat.zero_le _) ⟨⟨_, Heap.get?_push_size _ rfl, rfl, rfl⟩, (hl1.push _)⟩ ?hS0 ?hR
        case hS0 => exact ⟨0, Nat.le_refl 0, setR_new_at (Heap.get?_push_of_some _ hS)⟩
        case hR =>
          intro s' c' hm hc' hS'
          obtain ⟨h', g2, d', tk', os'⟩ := s'
          have eg : g2 = s.gens := hm.gens
          have ed : d' = s.drawn := hm.drawn
          have eo : os' = s.os := hm.os
          subst eg ed eo
          show wpAny _ _ _ _ _ _
          refine wpAny_pure ?_
          show wpAny _ _ (ret Value.none) _ _ _
          rw [hisz] at hc'
          refine wpAny_pure ⟨rfl, h', tk', c', rfl, hS', hc', fun b o e => ?_⟩
          have hb0 : b < s.heap.objs.size := Heap.lt_size e
          refine hm.heap b o (fun hm => ?_) (Heap.get?_push_of_some _ (Heap.get?_push_of_some _ e))
          rcases List.mem_cons.mp hm with z | z
          · exact absurd z (Nat.ne_of_lt hb0)
          · have z' := List.mem_singleton.mp z
            rw [ez] at z'
            exact absurd z' (Nat.ne_of_lt (Nat.lt_succ_of_lt hb0))
      · cases r₂ with
        | error e => exact hr₂
        | ok fl₂ =>
          cases fl₂ with
          | ret r =>
            obtain ⟨rfl, h', tk, c', rfl, hS', hc', hk'⟩ := hr₂
            repeat (any_goals (first | assumption | wp_step))
            exact h _ _ _ hS' hc' hk'
          | _ => exact hr₂.elim
    | _ => exact hr.elim
end
/-- set(xs): the ints of a list or a tuple -/
def rSetI (K : PySem.W.Frag) (w : World) : List V → Hp → VK → Prop := fun vs H Q => ∃ (p : Addr) (ns : List Int), vs = [.ref p] ∧ (SqL K H p (ns.map V.int) ∨ SqT K H p (ns.map V.int)) ∧ ns.length ≤ 1000 ∧ ∀ a c, H a = none → (∀ L : List Int, (∀ x ∈ ns, x ∈ L) → c ≤ L.length) → Q (.ref a) (upd H a (SetO w a (fun j => decide (j ∈ ns)) c))
theorem nodup_le {α : Type} [DecidableEq α] : ∀ {a b : List α}, a.Nodup → (∀ x ∈ a, x ∈ b) → a.length ≤ b.length
  | [], _, _, _ => Nat.zero_le _
  | x :: a, b, hn, hs => by
    have hn' := List.nodup_cons.mp hn
    have hx := hs x List.mem_cons_self
    have ih := nodup_le (a := a) (b := b.erase x) hn'.2 fun y hy => (List.mem_erase_of_ne (fun (e : y = x) => hn'.1 (by rw [← e]; exact hy))).mpr (hs y (List.mem_cons_of_mem _ hy))
    rw [List.length_erase_of_mem hx] at ih
    have := List.length_pos_of_mem hx
    rw [List.length_cons]
    omega
theorem cr_setI {X : Cx} (hc : X.calm = true) : CallR X (.type "set") (rSetI X.K X.w) := by
  intro pins s σ H xs us Q I r h
  obtain ⟨p, ns, rfl, hq, hl, q⟩ := h
  obtain ⟨u, rfl, ru⟩ := vals1 r
  cases ru
  have hd := I.ok.hd hc
  have fin : ∀ (h' : Heap) (tk c : Nat), SetR X.w h' s.heap.objs.size (fun j => decide (j ∈ ns)) c → c ≤ ns.length → (∀ b o, s.heap.get? b = some o → h'.get? b = some o) → EP X pins σ Q (.ref s.heap.objs.size) { s with heap := h', toks := tk } := fun h' tk c R1 hcn kp =>
    ⟨.ref s.heap.objs.size, _, I.laid kp (Nat.le_refl _) (setO_new R1), rfl, q _ c (I.hok.fresh (Nat.le_refl _)) fun L hL => by
      obtain ⟨o, es, ep, t, _, _, _, _, nd, hm, _, _, hn, _⟩ := R1
      have z := nodup_le nd fun x hx => hL x (of_decide_eq_true ((hm x).mpr hx))
      rw [List.length_map, Array.length_toList, hn] at z
      exact z⟩
  rcases hq with hq | hq
  · obtain ⟨its, rv, pl, hz⟩ := I.list hq
    exact call_set_listI ns hd pl.isList (ints_of_vals rv) (by unfold scanBound; omega) fin
  · obtain ⟨its, rv, pt, hz⟩ := I.tuple hq
    exact call_set_tupI ns hd pt (ints_of_vals rv) (by unfold scanBound; omega) fin
/-- the members of r below n, ascending -/
def asc (n : Nat) (r : List Nat) : List Nat := (List.range n).filter fun x => r.contains x
theorem asc_up (n : Nat) (r : List Nat) : (asc n r).Pairwise (· < ·) := List.Pairwise.filter _ List.pairwise_lt_range
theorem asc_mem {n : Nat} {r : List Nat} {x : Nat} : x ∈ asc n r ↔ x < n ∧ x ∈ r := by
  unfold asc
  rw [List.mem_filter, List.mem_range, List.contains_iff_mem]
theorem up_eq : ∀ {a b : List Int}, a.Pairwise (· < ·) → b.Pairwise (· < ·) → (∀ x, x ∈ a ↔ x ∈ b) → a = b
  | [], [], _, _, _ => rfl
  | [], y :: b, _, _, h => absurd ((h y).mpr List.mem_cons_self) (by simp)
  | x :: a, [], _, _, h => absurd ((h x).mp List.mem_cons_self) (by simp)
  | x :: a, y :: b, ha, hb, h => by
    have ha' := List.pairwise_cons.mp ha
    have hb' := List.pairwise_cons.mp hb
    have e : x = y := by
      rcases List.mem_cons.mp ((h x).mp List.mem_cons_self) with e | hx
      · exact e
      · rcases List.mem_cons.mp ((h y).mpr List.mem_cons_self) with e | hy
        · exact e.symm
        · have := ha'.1 y hy
          have := hb'.1 x hx
          omega
    subst e
    congr 1
    refine up_eq ha'.2 hb'.2 fun z => ⟨fun hz => ?_, fun hz => ?_⟩
    · rcases List.mem_cons.mp ((h z).mp (List.mem_cons_of_mem _ hz)) with e | hz'
      · subst e; exact absurd (ha'.1 z hz) (Int.lt_irrefl _)
      · exact hz'
    · rcases List.mem_cons.mp ((h z).mpr (List.mem_cons_of_mem _ hz)) with e | hz'
      · subst e; exact absurd (hb'.1 z hz) (Int.lt_irrefl _)
      · exact hz'
section
variable {X : Cx} {Γ Γ1 : List Sl} {a : Expr} {p p' pos pos' : Pos}
/-- sorted(set(a)) -/
theorem ej_sortedSet {n : Nat} {r : List Nat} {d : PyData} (hc : X.calm = true) (hg : Gl X "sorted") (hm : X.mg "sorted" = none) (hg2 : Gl X "set") (hm2 : X.mg "set" = none) (hd : d = .list (r.map nI) ∨ d = .tuple (r.map nI)) (ha : EJ X Γ a (.dat d) Γ1) (hr : ∀ x ∈ r, x < n) (hl : r.length ≤ 1000) (hn : n < 64 := by omega)
    (h1 : starEach [a] X.env = (false, eval a X.env) :: starEach [] X.env := by rfl) (h2 : starEach [.Call (.Name "set" p') [a] [] pos'] X.env = (false, eval (.Call (.Name "set" p') [a] [] pos') X.env) :: starEach [] X.env := by rfl)
    (h3 : (backTo pos' (starEach [] X.env)).any (·.1) = false := by rfl) (h4 : (backTo pos (starEach [] X.env)).any (·.1) = false := by rfl) :
    EJ X Γ (.Call (.Name "sorted" p) [.Call (.Name "set" p') [a] [] pos'] [] pos) (.new (.lst ((asc n r).map nI))) Γ1 :=
  pe_mono (pe_callB (id := "sorted") (cr_sortedSet hc) hg hm bt_sorted (pa_cons (pe_callTy (T := "set") (cr_setI hc) hg2 hm2 boot_set (pa_cons ha pa_nil h1) (by decide) (by decide) h1 h3) pa_nil h2) (by decide) (by decide) h2 h4) fun σ H Q h => by
    obtain ⟨R, o, k⟩ := h
    refine ⟨R, o, fun v H1 R1 s1 o1 q1 => ?_⟩
    have hq : ∃ q, v = .ref q ∧ (SqL X.K H1 q ((r.map fun (n : Nat) => (n : Int)).map V.int) ∨ SqT X.K H1 q ((r.map fun (n : Nat) => (n : Int)).map V.int)) := by
      rcases hd with rfl | rfl
      · obtain ⟨q, vs, e, g1, g2⟩ := sql_inj_data q1
        rw [map_nI] at g2
        have := dps_ints g2
        subst this
        exact ⟨q, e, .inl (o1.rh.seq g1)⟩
      · obtain ⟨q, vs, e, g1, g2⟩ := sqt_inj_data q1
        rw [map_nI] at g2
        have := dps_ints g2
        subst this
        exact ⟨q, e, .inr (sqt_same o1.rh g1)⟩
    obtain ⟨q, rfl, hq⟩ := hq
    refine ⟨q, r.map fun (n : Nat) => (n : Int), rfl, hq, by rw [List.length_map]; omega, fun b c hb hcl => ?_⟩
    have hc63 : c < 64 := by
      have z := hcl ((List.range n).map fun (n : Nat) => (n : Int)) fun x hx => by
        obtain ⟨y, hy, rfl⟩ := List.mem_map.mp hx
        exact List.mem_map.mpr ⟨y, List.mem_range.mpr (hr y hy), rfl⟩
      rw [List.length_map, List.length_range] at z
      omega
    refine ⟨b, _, c, rfl, upd_same, hc63, fun ns t hup hmem hlen ht => ?_⟩
    have e : ns = (asc n r).map fun (n : Nat) => (n : Int) := by
      refine up_eq hup ?_ fun z => ?_
      · rw [List.pairwise_map]
        exact (asc_up n r).imp fun h => Int.ofNat_lt.mpr h
      · rw [hmem z, decide_eq_true_eq, List.mem_map, List.mem_map]
        constructor
        · rintro ⟨x, hx, rfl⟩
          exact ⟨x, asc_mem.mpr ⟨hr x hx, hx⟩, rfl⟩
        · rintro ⟨x, hx, rfl⟩
          exact ⟨x, (asc_mem.mp hx).2, rfl⟩
    rw [e]
    have hbt : t ≠ b := fun z => by subst z; rw [upd_same] at ht; cases ht
    have g1 : Gw R1 H1 R1 (upd H1 b (SetO X.w b (fun j => decide (j ∈ r.map fun (n : Nat) => (n : Int))) c)) := Gw.newH o1.rh hb
    have o2 := o1.grow g1
    refine vo_lst o2.rh ?_ (tE_fin (s1.trans g1.step) o2 k) t ht
    rw [map_nI]
    exact dps_of_ints _
end
end DL

/-! The data layer: tests that read owned lists. -/
namespace DL
open L2 PyProof.Rows PySem PySem.Spec
section
variable {X : Cx} {Γ : List Sl} {e : Expr}
open Classical in
theorem tj_lendT {b0 : Bool} (is : List Nat) (he : TJ X (lend Γ is) e b0 (lend Γ is)) : TJ X Γ e b0 Γ := pt_mono he fun σ H Q q' => by
  obtain ⟨R, o, kk⟩ := q'
  have lo : ∀ b, Lent Γ is b → b ∈ owned Γ := fun b ⟨j, ds, _, hj⟩ => owned_at hj
  let R' : Hp := fun b => if Lent Γ is b then H b else R b
  have r1 : ∀ b, Lent Γ is b → R' b = H b := fun b h => if_pos h
  have r2 : ∀ b, ¬ Lent Γ is b → R' b = R b := fun b h => if_neg h
  have nl : ∀ b u, R b = some u → ¬ Lent Γ is b := fun b u z h => by
    have := (o.ow b (lo b h)).1
    rw [z] at this
    cases this
  have sr : Same R R' := fun b u z => (r2 b (nl b u z)).trans z
  have rh' : Same R' H := fun b u z => by
    by_cases h : Lent Γ is b
    · rw [r1 b h] at z; exact z
    · rw [r2 b h] at z; exact o.rh b u z
  refine ⟨R', ⟨rh', by unfold lend; rw [List.length_mapIdx]; exact o.len, fun j s hj => ?_, fun p hp => (by rw [lend_owned] at hp; exact nomatch hp), (by rw [lend_owned]; exact List.nodup_nil)⟩, fun H1 R1 s1 o1 => ?_⟩
  · unfold lend at hj
    rw [List.getElem?_mapIdx] at hj
    cases f : Γ[j]? with
    | none => rw [f] at hj; cases hj
    | some t =>
      rw [f] at hj
      have z := o.sl j t f
      cases t with
      | un => cases hj; trivial
      | dat d => cases hj; obtain ⟨v, a, b⟩ := z; exact ⟨v, a, dp_same sr b⟩
      | own q c =>
        cases c with
        | lst ds =>
          have hj' : (if j ∈ is then Sl.dat (.list ds) else Sl.un) = s := Option.some.inj hj
          by_cases hi : j ∈ is
          · rw [if_pos hi] at hj'
            subst hj'
            obtain ⟨e1, vs, hq, hdp⟩ := z
            exact ⟨.ref q, e1, .lst (SqL.of ((r1 q ⟨j, ds, hi, f⟩).trans hq)) (dps_same sr hdp)⟩
          · rw [if_neg hi] at hj'
            subst hj'
            trivial
        | dic _ => cases hj; trivial
        | dct _ => cases hj; trivial
        | gro _ _ _ _ => cases hj; trivial
  · have hk : ∀ b u, H b = some u → H1 b = some u := fun b u z => s1.fr b u z (by rw [lend_owned]; simp)
    have g : Gw R H R H1 := ⟨hk, Same.refl R, fun b u z => hk b u (o.rh b u z), fun b h _ => h⟩
    exact kk H1 R g.step (o.grow g)
end
end DL

/-! The data layer: extend, index, repeated sequences. -/
namespace DL
open L2 PyProof.Rows PySem PySem.Spec
section
variable {X : Cx} {Γ Γ1 Γ2 : List Sl} {e a b : Expr} {pos p apos : Pos} {x : Str}
theorem ej_extend {i : Nat} {q : Addr} {ds es : List PyData} (hN : X.N[i]? = some x) (hv : Vis X.env.scope x) (ha : EJ X Γ e (.new (.lst es)) Γ1) (hΓ0 : ∃ ds0, Γ[i]? = some (.own q (.lst ds0))) (hΓ : Γ1[i]? = some (.own q (.lst ds))) (hl : ds.length + es.length ≤ sizeLine)
    (hdb : (x == ("__debug__" : Str)) = false := by decide) (hcd : (x == ("__classdict__" : Str)) = false := by decide)
    (hbase : attributeBase (.Name x p) "extend" X.env (eval (.Name x p) X.env) = eval (.Name x p) X.env := by rfl)
    (hfew : ((backTo pos (starEach [e] X.env)).all (fun x => !x.1) && (backToKw pos (keywordEach [] X.env)).all (fun x => x.1.isSome) && decide ([e].length + ([] : List Keyword).length + (if ([] : List Keyword).isEmpty then 0 else 1) < 30)) = true := by rfl)
    (hline : (apos.endLine == pos.line) = true := by rfl) (hs : starEach [e] X.env = (false, eval e X.env) :: starEach [] X.env := by rfl) (hpl : (backTo pos (starEach [] X.env)).any (·.1) = false := by rfl) :
    EJ X Γ (.Call (.Attribute (.Name x p) "extend" apos) [e] [] pos) (.dat .none) (Γ1.set i (.own q (.lst (ds ++ es)))) :=
  pe_mono (pe_bm PySem.F.plainAttrs_list PySem.F.slot_list_extend PySem.F.type_list_extend mt_extend (pe_var hN hv hdb hcd) (pa_cons ha pa_nil hs) hbase hfew hline hs hpl) fun σ H Q q' => by
    obtain ⟨R, o, kk⟩ := q'
    obtain ⟨ds0, hΓ0⟩ := hΓ0
    obtain ⟨e1, vs0, hq0, _⟩ := o.sl i _ hΓ0
    refine ⟨.ref q, e1, .inl ⟨rfl, _, SqL.of hq0⟩, R, o, fun u H1 R1 s1 o1 q1 => ?_⟩
    obtain ⟨e2, vs, hq, hdp⟩ := o1.sl i _ hΓ
    obtain ⟨p1, rfl, ⟨us, hp1, hd1⟩, hfr, _⟩ := q1
    refine ⟨q, p1, vs, us, rfl, rfl, hq, hp1, by rw [dps_len hdp, dps_len hd1]; exact hl, ?_⟩
    obtain ⟨o2, s2⟩ := o1.mut (u := .lst (vs ++ us)) (c' := .lst (ds ++ es)) hΓ rfl rfl ⟨_, upd_same, dps_append hdp hd1⟩
    exact kk _ _ R1 (s1.trans s2) o2 .non
theorem dps_rep {K : PySem.W.Frag} {R : Hp} {vs : List V} {ds : List PyData} (h : DpAll K R vs ds) : ∀ k, DpAll K R (List.replicate k vs).flatten (List.replicate k ds).flatten
  | 0 => .nil
  | k + 1 => by
    rw [List.replicate_succ, List.flatten_cons, List.replicate_succ, List.flatten_cons]
    exact dps_append h (dps_rep h k)
theorem ej_repL {ds : List PyData} {k : Nat} (ha : EJ X Γ a (.new (.lst ds)) Γ1) (hb : EJ X Γ1 b (.dat (.int (k : Int))) Γ2) (hk : k ≤ 1000) (hl : ds.length ≤ 1000) : EJ X Γ (.BinOp a .Mult b pos) (.new (.lst (List.replicate k ds).flatten)) Γ2 :=
  pe_mono (pe_op op_rep ha hb) fun σ H Q h => by
    obtain ⟨R, o, kk⟩ := h
    refine ⟨R, o, fun u H1 R1 s1 o1 q1 => ⟨R1, o1, fun v H2 R2 s2 o2 q2 => ?_⟩⟩
    obtain ⟨p1, rfl, ⟨us, hp1, hd1⟩, hfr, _⟩ := q1
    cases (show Dp X.K R2 v (.int (k : Int)) from q2)
    have hno := (hfr p1 List.mem_cons_self).2.2.2
    have hm : us.length * k ≤ sizeLine := by
      rw [dps_len hd1]
      exact Nat.le_trans (Nat.mul_le_mul hl hk) (by decide)
    exact ⟨p1, (k : Int), us, rfl, rfl, s2.fr _ _ hp1 hno, by omega, by omega, by rw [Int.toNat_natCast]; exact hm, by rw [Int.toNat_natCast]; exact vo_lst o2.rh (dps_rep (dps_same s2.rr hd1) k) (tE_fin (s1.trans s2) o2 kk)⟩
theorem ob_repT {ds : List PyData} {k : Nat} (h0 : ds ≠ []) (h1 : 2 ≤ k) (h2 : k ≤ 1000) (hl : ds.length ≤ 1000) : OpB X (binaryOp .Mult) (.tuple ds) (.int (k : Int)) (.dat (.tuple (List.replicate k ds).flatten)) := ⟨_, op_repT, fun v u R H Q rh hv hw kk => by
  obtain ⟨a, vs, rfl, g1, g2⟩ := sqt_inj_data hv
  cases hw
  refine ⟨a, (k : Int), vs, rfl, rfl, sqt_same rh g1, fun e => h0 ?_, by omega, by omega, by rw [dps_len g2]; exact hl, by rw [Int.toNat_natCast]; exact vo_tup rh (dps_rep g2 k) kk⟩
  subst e
  cases g2
  rfl⟩
/-- names.index(v) for small numbers -/
theorem ej_index {r : List Nat} {v j : Nat} (h1 : r[j]? = some v) (h2 : ∀ m, m < j → r[m]? ≠ some v) (ha : EJ X Γ a (.dat (.list (r.map nI))) Γ1) (hb : EJ X Γ1 b (.dat (nI v)) Γ2)
    (hbase : attributeBase a "index" X.env (eval a X.env) = eval a X.env := by rfl)
    (hfew : ((backTo pos (starEach [b] X.env)).all (fun x => !x.1) && (backToKw pos (keywordEach [] X.env)).all (fun x => x.1.isSome) && decide ([b].length + ([] : List Keyword).length + (if ([] : List Keyword).isEmpty then 0 else 1) < 30)) = true := by rfl)
    (hline : (apos.endLine == pos.line) = true := by rfl) (hs : starEach [b] X.env = (false, eval b X.env) :: starEach [] X.env := by rfl) (hpl : (backTo pos (starEach [] X.env)).any (·.1) = false := by rfl) :
    EJ X Γ (.Call (.Attribute a "index" apos) [b] [] pos) (.dat (nI j)) Γ2 :=
  pe_mono (pe_bm PySem.F.plainAttrs_list PySem.F.slot_list_index PySem.F.type_list_index mt_index ha (pa_cons hb pa_nil hs) hbase hfew hline hs hpl) fun σ H Q q' => by
    obtain ⟨R, o, kk⟩ := q'
    refine ⟨R, o, fun u H1 R1 s1 o1 q1 => ?_⟩
    obtain ⟨l, vs, rfl, g1, g2⟩ := sql_inj_data (show Dp X.K R1 u (.list (r.map nI)) from q1)
    refine ⟨.inl ⟨rfl, _, o1.rh.seq g1⟩, R1, o1, fun w H2 R2 s2 o2 q2 => ?_⟩
    cases (show Dp X.K R2 w (.int (v : Int)) from q2)
    have hv : vs = (r.map fun (n : Nat) => (n : Int)).map V.int := dps_ints (by rw [← map_nI]; exact g2)
    subst hv
    have at_ : ∀ m z, ((r.map fun (n : Nat) => (n : Int)).map V.int)[m]? = some z → ∃ n : Nat, r[m]? = some n ∧ z = V.int (n : Int) := fun m z hz => by
      rw [List.map_map, List.getElem?_map] at hz
      cases e : r[m]? with
      | none => rw [e] at hz; cases hz
      | some n => rw [e] at hz; exact ⟨n, e, (Option.some.inj hz).symm⟩
    refine ⟨l, _, .int (v : Int), j, .int (v : Int), rfl, rfl, o2.rh.seq (s2.rr.seq g1), rfl, ?_, ?_, ?_, fun m z' hm hz => ?_, kk _ _ R2 (s1.trans s2) o2 (.int _)⟩
    · rw [List.all_map, List.all_map, List.all_eq_true]
      intro _ _
      rfl
    · rw [List.map_map, List.getElem?_map, h1]; rfl
    · show decide _ = true
      exact decide_eq_true rfl
    · obtain ⟨n, e1, rfl⟩ := at_ m z' hz
      have hne : n ≠ v := fun z => h2 m hm (by rw [e1, z])
      show decide ((n : Int) = (v : Int)) = false
      exact decide_eq_false (by omega)
end
end DL

/-! The data layer: the defs as the program's top leaves them; the law's own promise. -/
namespace DL
open L2 PyProof.Rows PySem PySem.Spec
/-- a def stands in the module under its name -/
def Df (K : PySem.W.Frag) (x : Str) (st : Stmt) : Prop := ∃ (f : Addr) (fd : FuncData), PySem.W.nsIn K mainGlobals x = some (some (.ref f)) ∧ L2.Fun K x x st f fd
theorem df_mk {K : PySem.W.Frag} {x : Str} {st : Stmt} {f : Addr} {od an : Option Addr} {sl : Array (Option Value)} {oc kV dc pm cd ct : Value} (a : PySem.W.nsIn K mainGlobals x = some (some (.ref f)))
    (l : K.lookup f = some ⟨oc, od, .func (PySem.W.fnOf x x (defArgs st) (defBody st) (defScope st) .none kV dc pm an cd ct), sl⟩) (c : PySem.W.codeIn K cd x = true) (k : PySem.W.keepIn K (.ref f) = true) : Df K x st := ⟨f, _, a, fun_mk l c k⟩
section
variable {P : Program} {w : World} {K : PySem.W.Frag} {mg : Str → Option Value} {base h : Heap}
abbrev BindsAs (st : Stmt) (x : Str) (ps : List Str) : Prop := ∀ (kV doc pm : Value) (an : Option Addr) (cdv ct : Value) (us : List Value), us.length = ps.length → bindArgs (PySem.W.fnOf x x (defArgs st) (defBody st) (defScope st) .none kV doc pm an cdv ct) ⟨us, []⟩ = pure (ps.zip us)
theorem cal_mk {k : Nat} {x : Str} {st : Stmt} {ps : List Str} {sp : Sp} (X : K.In h) (G : h.Ns mainGlobals mg) (D : Df K x st) (b : BindsAs st x ps) (ok : ∀ f fd, L2.Fun K x x st f fd → FnOk P w K mg base CX0 k f fd ps sp) : Cal P w K mg base k x sp [] := by
  obtain ⟨f, fd, a, F⟩ := D
  exact ⟨f, fd, ps, [], ok f fd F, PySem.W.mg_of X G a, F.kp, F.binds b, .nil⟩
/-- what a law promises: True for every script -/
def lawRel (n : Nat) : List Sl → Rs → List Sl → Prop := fun Γ r Γ' => ∃ ns : List Int, Γ = [.dat (.list (ns.map .int))] ∧ ns.length ≤ n ∧ r = .dat (.bool true) ∧ Γ' = Γ
theorem dps_of_ints' {R : Hp} : ∀ ns : List Int, DpAll K R (ns.map V.int) (ns.map PyData.int)
  | [] => .nil
  | i :: ns => .cons (.int i) (dps_of_ints' ns)
theorem law_sp {n : Nat} {H : Hp} {a : Addr} {ns : List Int} (hl : ns.length ≤ n) (hS : SqL K H a (ns.map V.int)) : Ct K (lawRel n) [.ref a] H (fun v _ => v = .bl true) fun _ _ _ => False := by
  refine ⟨H, [.dat (.list (ns.map .int))], .dat (.bool true), _, ⟨ns, rfl, hl, rfl, rfl⟩, ⟨Same.refl H, rfl, fun i s hi => ?_, fun p hp => (nomatch hp), List.nodup_nil⟩, fun v H' R' _ _ q => ?_⟩
  · match i, hi with
    | 0, hi =>
      cases hi
      exact ⟨.ref a, rfl, .lst hS (dps_of_ints' ns)⟩
  · cases (show Dp K R' v (.bool true) from q)
    rfl
theorem law_fn {l : PySem.W.OpenLaw} {k n : Nat} {fa : Addr} {st : Stmt} (X : K.In h) (G : h.Ns mainGlobals mg) (hfa : mg "law" = some (.ref fa)) (D : Df K "law" st) (b : BindsAs st "law" ["script"])
    (ok : ∀ (base : Heap), K.In base → base.Ns mainGlobals mg → ∀ f fd, L2.Fun K "law" "law" st f fd → FnOk l.prog w K mg base CX0 k f fd ["script"] (Ct K (lawRel n))) :
    ∃ fd : FuncData, (∀ (s : Shared) (v : Value), BindsTo s fd ⟨[v], []⟩ [("script", v)]) ∧ ∀ base : Heap, K.In base → base.Ns mainGlobals mg → FnOk l.prog w K mg base CX0 k fa fd ["script"] (Ct K (lawRel n)) := by
  obtain ⟨f, fd, a, F⟩ := D
  have e := hfa.symm.trans (PySem.W.mg_of X G a)
  cases e
  refine ⟨fd, fun s v => ?_, fun base hb hG => ok base hb hG _ _ F⟩
  obtain ⟨oc, od, kV, doc, pm, an, cdv, ct, osl, rfl, lk, hcd⟩ := F.ex
  exact .of_eq (b kV doc pm an cdv ct [v] rfl)
end
theorem law_walk {l : PySem.W.OpenLaw} {q : Program} {loose : List Str} {XP : (Str → Option Value) → Heap → Prop} {YP : World → Heap → Prop} {d : DefRec} {K : Params → PySem.W.Frag} {k : Nat} (hk : Room k callerA) (hn : l.most = some 63) (hdf : d.params.defaults = [])
    (hY : ∀ (w : World) (h : Heap), YP w h → (K w.params).In h)
    (F : ∀ (w : World) (mg : Str → Option Value) (fa : Addr) (h : Heap), (K w.params).In h → h.Ns mainGlobals mg → mg d.name = some (.ref fa) →
      ∃ fd : FuncData, (∀ (s : Shared) (u : Value), BindsTo s fd ⟨[u], []⟩ [("script", u)]) ∧ ∀ base : Heap, (K w.params).In base → base.Ns mainGlobals mg → FnOk l.prog w (K w.params) mg base CX0 k fa fd ["script"] (Ct (K w.params) (lawRel 63))) :
    PySem.W.WalkO q loose XP YP l.row.toRowW d [] (fun f vs => PySem.call f vs) :=
  L2.walk_of (n := 63) (k := k) (x := "script") (CX := fun _ => CX0) (sp := fun w => Ct (K w.params) (lawRel 63)) hn (by decide) hdf hk hY F (fun _ _ a ns hl _ hS => law_sp hl hS) fun _ _ _ _ _ z => z
end DL

/-! Mathematics: orders as lists of rows. -/
namespace MO
open DL PySem
structure Rising (n : Nat) (r : List Nat) : Prop where
  up : r.Pairwise (· < ·)
  lt : ∀ x ∈ r, x < n
/-- the row of a point -/
def row (o : List (List Nat)) (i : Nat) : List Nat := (o[i]?).getD []
structure IsOrder (o : List (List Nat)) : Prop where
  pos : 1 ≤ o.length
  most : o.length ≤ 8
  rise : ∀ r ∈ o, Rising o.length r
  irr : ∀ i, i ∉ row o i
  tr : ∀ i j k, j ∈ row o i → k ∈ row o j → k ∈ row o i
theorem row_get {o : List (List Nat)} {i : Nat} {r : List Nat} (h : o[i]? = some r) : row o i = r := by unfold row; rw [h]; rfl
theorem row_mem {o : List (List Nat)} {i : Nat} (h : i < o.length) : row o i ∈ o := by unfold row; rw [List.getElem?_eq_getElem h]; exact List.getElem_mem h
theorem row_out {o : List (List Nat)} {i : Nat} (h : o.length ≤ i) : row o i = [] := by unfold row; rw [List.getElem?_eq_none h]; rfl
theorem cut1 {α : Type} (xs : List α) : cutD xs (some 1) none = xs.drop 1 := by
  unfold cutD
  rw [show HT.sIx xs.length 0 (some 1) = min 1 xs.length from HT.sIx_nat xs.length 0 1, HT.sIx_none]
  cases xs with
  | nil => rfl
  | cons x r =>
    rw [show min 1 (x :: r).length = 1 by rw [List.length_cons]; omega]
    show List.take ((x :: r).length - 1) r = r
    rw [List.length_cons, Nat.add_sub_cancel, List.take_length]
theorem zip_lt : ∀ (ns : List Int), ((ns.zip (ns.drop 1)).all fun p => decide (p.1 < p.2)) = true ↔ ns.Pairwise (· < ·)
  | [] => by simp
  | [a] => by simp
  | a :: b :: r => by
    have ih := zip_lt (b :: r)
    rw [List.drop_one, List.tail_cons, List.zip_cons_cons, List.all_cons, Bool.and_eq_true]
    rw [List.drop_one, List.tail_cons] at ih
    rw [ih, List.pairwise_cons (a := a)]
    constructor
    · rintro ⟨h1, h2⟩
      have h1' : a < b := of_decide_eq_true h1
      refine ⟨fun x hx => ?_, h2⟩
      rcases List.mem_cons.mp hx with rfl | hx
      · exact h1'
      · exact Int.lt_trans h1' ((List.pairwise_cons.mp h2).1 x hx)
    · rintro ⟨h1, h2⟩
      exact ⟨decide_eq_true (h1 b List.mem_cons_self), h2⟩
theorem ints_of {p : PyData → Bool} (hp : ∀ d, p d = true → ∃ i : Int, d = .int i) : ∀ {ds : List PyData}, ds.all p = true → ∃ ns : List Int, ds = ns.map .int
  | [], _ => ⟨[], rfl⟩
  | d :: ds, h => by
    rw [List.all_cons, Bool.and_eq_true] at h
    obtain ⟨i, rfl⟩ := hp d h.1
    obtain ⟨ns, rfl⟩ := ints_of hp h.2
    exact ⟨i :: ns, rfl⟩
theorem nats_of : ∀ {ns : List Int}, (∀ i ∈ ns, 0 ≤ i) → ∃ r : List Nat, ns = r.map fun (n : Nat) => (n : Int)
  | [], _ => ⟨[], rfl⟩
  | i :: ns, h => by
    obtain ⟨r, rfl⟩ := nats_of fun j hj => h j (List.mem_cons_of_mem _ hj)
    refine ⟨i.toNat :: r, ?_⟩
    rw [List.map_cons, Int.toNat_of_nonneg (h i List.mem_cons_self)]
theorem rows_of {p : PyData → Bool} {Q : List Nat → Prop} (hp : ∀ d, p d = true → ∃ r, d = rowD r ∧ Q r) : ∀ {ds : List PyData}, ds.all p = true → ∃ o : List (List Nat), ds = o.map rowD ∧ ∀ r ∈ o, Q r
  | [], _ => ⟨[], rfl, fun _ h => nomatch h⟩
  | d :: ds, h => by
    rw [List.all_cons, Bool.and_eq_true] at h
    obtain ⟨r, rfl, h1⟩ := hp d h.1
    obtain ⟨o, rfl, h2⟩ := rows_of hp h.2
    refine ⟨r :: o, rfl, fun x hx => ?_⟩
    rcases List.mem_cons.mp hx with rfl | hx
    · exact h1
    · exact h2 x hx
theorem up_len : ∀ {r : List Nat} {a n : Nat}, r.Pairwise (· < ·) → (∀ x ∈ r, a ≤ x ∧ x < n) → r.length ≤ n - a
  | [], _, _, _, _ => Nat.zero_le _
  | x :: r, a, n, h, hb => by
    have h' := List.pairwise_cons.mp h
    have hx := hb x List.mem_cons_self
    have := up_len (a := x + 1) (n := n) h'.2 fun y hy => ⟨h'.1 y hy, (hb y (List.mem_cons_of_mem _ hy)).2⟩
    rw [List.length_cons]
    omega
theorem rising_len {n : Nat} {r : List Nat} (h : Rising n r) : r.length ≤ n := by
  have := up_len (a := 0) h.up fun x hx => ⟨Nat.zero_le _, h.lt x hx⟩
  omega
theorem map_nI_inj : ∀ {r s : List Nat}, r.map nI = s.map nI → r = s
  | [], [], _ => rfl
  | [], _ :: _, h => by cases h
  | _ :: _, [], h => by cases h
  | a :: r, b :: s, h => by
    rw [List.map_cons, List.map_cons] at h
    injection h with h1 h2
    injection h1 with h3
    rw [map_nI_inj h2, Int.ofNat.inj h3]
theorem ord_inj : ∀ {o q : List (List Nat)}, ordD o = ordD q → o = q := fun {o q} h => by
  injection h with h
  induction o generalizing q with
  | nil =>
    cases q with
    | nil => rfl
    | cons _ _ => cases h
  | cons a o ih =>
    cases q with
    | nil => cases h
    | cons b q =>
      rw [List.map_cons, List.map_cons] at h
      injection h with h1 h2
      injection h1 with h3
      rw [map_nI_inj h3, ih h2]
/-- the points below p -/
def downs (o : List (List Nat)) (p : Nat) : List Nat := (List.range o.length).filter fun q => (row o q).contains p
def turn (o : List (List Nat)) : List (List Nat) := (List.range o.length).map fun p => downs o p
theorem zipIdx_range {α : Type} (xs : List α) (d : α) : xs.zipIdx = (List.range xs.length).map fun i => ((xs[i]?).getD d, i) := by
  apply List.ext_getElem?
  intro i
  rw [List.getElem?_zipIdx, List.getElem?_map]
  by_cases h : i < xs.length
  · rw [List.getElem?_range h, List.getElem?_eq_getElem h]
    show some (xs[i], 0 + i) = some ((xs[i]?).getD d, i)
    rw [List.getElem?_eq_getElem h, Nat.zero_add]
    rfl
  · rw [List.getElem?_eq_none (by omega), List.getElem?_eq_none (by rw [List.length_range]; omega)]
    rfl
theorem downs_enum (o : List (List Nat)) (p : Nat) : ((o.zipIdx.filter fun x => x.1.contains p).map fun x => nI x.2) = (downs o p).map nI := by
  rw [zipIdx_range o [], List.filter_map, List.map_map]
  rfl
/-- a row without p, the greater numbers one less -/
def cutP (p : Nat) (r : List Nat) : List Nat := (r.filter fun x => x != p).map fun x => if p < x then x - 1 else x
def drop1 (o : List (List Nat)) (p : Nat) : List (List Nat) := ((List.range o.length).filter fun a => a != p).map fun a => cutP p (row o a)
theorem cutP_comp (p : Nat) (r : List Nat) : ((r.filter fun x => !PyData.eqv (nI x) (nI p)).map fun (x : Nat) => (bif decide ((p : Int) < (x : Int)) then PyData.int ((x : Int) - 1) else nI x)) = (cutP p r).map nI := by
  unfold cutP
  rw [List.map_map]
  have e : (fun x => !PyData.eqv (nI x) (nI p)) = fun x => x != p := by
    funext x
    rw [eqv_nI]
    by_cases e : x = p
    · subst e; simp
    · simp [e]
  rw [e]
  congr 1
  funext x
  show _ = nI (if p < x then x - 1 else x)
  by_cases h : p < x
  · rw [if_pos h, decide_eq_true (show (p : Int) < (x : Int) by omega)]
    show PyData.int ((x : Int) - 1) = PyData.int ((x - 1 : Nat) : Int)
    rw [show ((x - 1 : Nat) : Int) = (x : Int) - 1 by omega]
  · rw [if_neg h, decide_eq_false (show ¬ (p : Int) < (x : Int) by omega)]
    rfl
end MO

/-! Mathematics: the law's random order is an order. -/
namespace MO
open DL PySem
abbrev at_ (m : List Nat) (b : Nat) : Nat := m.getD b 0
/-- positions above a are done, at a the others below e -/
structure Part (c : Nat) (m : List Nat) (a e : Nat) (A : List (List Nat)) : Prop where
  len : A.length = c
  no : ∀ b, b < a → row A (at_ m b) = []
  up : ∀ b, a ≤ b → b < c → ∀ x ∈ row A (at_ m b), ∃ e, b < e ∧ e < c ∧ x = at_ m e
  cl : ∀ b, a ≤ b → b < c → ∀ x ∈ row A (at_ m b), ∀ y ∈ row A x, y ∈ row A (at_ m b)
  sz : ∀ b, a < b → b < c → (row A (at_ m b)).length + 1 ≤ 2 ^ (c - 1 - b)
  sz0 : a < c → (row A (at_ m a)).length + 2 ^ (c - e) ≤ 2 ^ (c - 1 - a)
structure Names (c : Nat) (m : List Nat) : Prop where
  len : m.length = c
  lt : ∀ b, b < c → at_ m b < c
  inj : ∀ b e, b < c → e < c → at_ m b = at_ m e → b = e
  sur : ∀ v, v < c → ∃ b, b < c ∧ at_ m b = v
theorem names_of {c : Nat} {m : List Nat} (h : m.Perm (List.range c)) : Names c m := by
  have hl : m.length = c := by rw [h.length_eq, List.length_range]
  have hn : m.Nodup := h.nodup_iff.mpr List.nodup_range
  have hg : ∀ b, (hb : b < m.length) → at_ m b = m[b] := fun b hb => by
    show m.getD b 0 = _
    rw [List.getD_eq_getElem?_getD, List.getElem?_eq_getElem hb]
    rfl
  refine ⟨hl, fun b hb => ?_, fun b e hb he hbe => ?_, fun v hv => ?_⟩
  · rw [hg b (by omega)]
    exact List.mem_range.mp (h.mem_iff.mp (List.getElem_mem _))
  · rw [hg b (by omega), hg e (by omega)] at hbe
    exact (List.getElem_inj hn).mp hbe
  · have hm : v ∈ m := h.mem_iff.mpr (List.mem_range.mpr hv)
    obtain ⟨b, hb, e⟩ := List.getElem_of_mem hm
    exact ⟨b, by omega, (hg b hb).trans e⟩
theorem row_set {A : List (List Nat)} {v : Nat} {r : List Nat} (hv : v < A.length) (w : Nat) : row (A.set v r) w = if w = v then r else row A w := by
  unfold row
  rw [List.getElem?_set]
  by_cases h : v = w
  · subst h; rw [if_pos rfl, if_pos hv, if_pos rfl]; rfl
  · rw [if_neg h, if_neg (Ne.symm h)]
theorem part_start {c : Nat} {m : List Nat} : Part c m c c (List.replicate c []) := by
  have hr : ∀ v, row (List.replicate c ([] : List Nat)) v = [] := fun v => by
    unfold row
    rw [List.getElem?_replicate]
    split <;> rfl
  exact ⟨List.length_replicate, fun b _ => hr _, fun b h1 h2 => by omega, fun b h1 h2 => by omega, fun b h1 h2 => by omega, fun h => by omega⟩
theorem part_next {c a : Nat} {m : List Nat} {A : List (List Nat)} (h : Part c m (a + 1) c A) (ha : a < c) : Part c m a (a + 1) A := by
  have h0 := h.no a (by omega)
  refine ⟨h.len, fun b hb => h.no b (by omega), fun b h1 h2 x hx => ?_, fun b h1 h2 x hx => ?_, fun b h1 h2 => ?_, fun _ => ?_⟩
  · by_cases e : b = a
    · subst e; rw [h0] at hx; cases hx
    · exact h.up b (by omega) h2 x hx
  · by_cases e : b = a
    · subst e; rw [h0] at hx; cases hx
    · exact h.cl b (by omega) h2 x hx
  · by_cases e : b = a + 1
    · subst e
      have := h.sz0 h2
      rwa [Nat.sub_self] at this
    · exact h.sz b (by omega) h2
  · rw [h0]
    simp [Nat.sub_sub, Nat.add_comm]
theorem part_skip {c a e : Nat} {m : List Nat} {A : List (List Nat)} (h : Part c m a e A) : Part c m a (e + 1) A :=
  ⟨h.len, h.no, h.up, h.cl, h.sz, fun ha => Nat.le_trans (Nat.add_le_add_left (Nat.pow_le_pow_right (by decide) (by omega)) _) (h.sz0 ha)⟩
theorem part_add {c a e : Nat} {m : List Nat} {A : List (List Nat)} (N : Names c m) (h : Part c m a e A) (hae : a < e) (hec : e < c) :
    Part c m a (e + 1) (A.set (at_ m a) ((row A (at_ m a) ++ [at_ m e]) ++ row A (at_ m e))) := by
  have hac : a < c := by omega
  have hv : at_ m a < A.length := by rw [h.len]; exact N.lt a hac
  have ne : ∀ b, b < c → b ≠ a → at_ m b ≠ at_ m a := fun b hb hne z => hne (N.inj b a hb hac z)
  have rs : ∀ b, b < c → b ≠ a → row (A.set (at_ m a) ((row A (at_ m a) ++ [at_ m e]) ++ row A (at_ m e))) (at_ m b) = row A (at_ m b) := fun b hb hne => by
    rw [row_set hv, if_neg (ne b hb hne)]
  have ra : row (A.set (at_ m a) ((row A (at_ m a) ++ [at_ m e]) ++ row A (at_ m e))) (at_ m a) = (row A (at_ m a) ++ [at_ m e]) ++ row A (at_ m e) := by
    rw [row_set hv, if_pos rfl]
  have rowx : ∀ b, a ≤ b → b < c → ∀ x ∈ row A (at_ m b), row (A.set (at_ m a) ((row A (at_ m a) ++ [at_ m e]) ++ row A (at_ m e))) x = row A x := fun b h1 h2 x hx => by
    obtain ⟨f, f1, f2, rfl⟩ := h.up b h1 h2 x hx
    exact rs f f2 (by omega)
  refine ⟨by rw [List.length_set]; exact h.len, fun b hb => ?_, fun b h1 h2 x hx => ?_, fun b h1 h2 x hx y hy => ?_, fun b h1 h2 => ?_, fun _ => ?_⟩
  · rw [rs b (by omega) (by omega)]; exact h.no b hb
  · by_cases eb : b = a
    · subst eb
      rw [ra] at hx
      rcases List.mem_append.mp hx with hx | hx
      · rcases List.mem_append.mp hx with hx | hx
        · exact h.up b (Nat.le_refl _) h2 x hx
        · exact ⟨e, hae, hec, by simpa using hx⟩
      · obtain ⟨f, f1, f2, f3⟩ := h.up e (by omega) hec x hx
        exact ⟨f, by omega, f2, f3⟩
    · rw [rs b h2 eb] at hx
      exact h.up b h1 h2 x hx
  · by_cases eb : b = a
    · subst eb
      rw [ra] at hx ⊢
      rcases List.mem_append.mp hx with hx | hx
      · rcases List.mem_append.mp hx with hx | hx
        · rw [rowx b (Nat.le_refl _) h2 x hx] at hy
          exact List.mem_append_left _ (List.mem_append_left _ (h.cl b (Nat.le_refl _) h2 x hx y hy))
        · have ex : x = at_ m e := by simpa using hx
          subst ex
          rw [rs e hec (by omega)] at hy
          exact List.mem_append_right _ hy
      · rw [rowx e (by omega) hec x hx] at hy
        exact List.mem_append_right _ (h.cl e (by omega) hec x hx y hy)
    · rw [rs b h2 eb] at hx ⊢
      rw [rowx b h1 h2 x hx] at hy
      exact h.cl b h1 h2 x hx y hy
  · rw [rs b h2 (by omega)]
    exact h.sz b h1 h2
  · rw [ra, List.length_append, List.length_append, List.length_singleton]
    have z1 := h.sz0 hac
    have z2 := h.sz e hae hec
    have z3 : 2 ^ (c - e) = 2 ^ (c - 1 - e) + 2 ^ (c - 1 - e) := by
      rw [show c - e = (c - 1 - e) + 1 by omega, Nat.pow_succ]
      omega
    rw [show c - (e + 1) = c - 1 - e by omega]
    omega
theorem row_map {A : List (List Nat)} {f : List Nat → List Nat} (hf : f [] = []) (v : Nat) : row (A.map f) v = f (row A v) := by
  unfold row
  rw [List.getElem?_map]
  cases A[v]? with
  | none => exact hf.symm
  | some r => rfl
theorem part_end {c : Nat} {m : List Nat} {A : List (List Nat)} (N : Names c m) (h : Part c m 0 c A) (h1 : 1 ≤ c) (h8 : c ≤ 8) : IsOrder (A.map (asc c)) := by
  have ea : asc c [] = [] := by unfold asc; rw [List.filter_eq_nil_iff]; intro x _; simp
  have hl : (A.map (asc c)).length = c := by rw [List.length_map, h.len]
  have out : ∀ v, ¬ v < c → row A v = [] := fun v hv => row_out (by rw [h.len]; omega)
  refine ⟨by omega, by omega, fun r hr => ?_, fun i hi => ?_, fun i j k hj hk => ?_⟩
  · obtain ⟨s, _, rfl⟩ := List.mem_map.mp hr
    exact ⟨asc_up c s, fun x hx => by rw [hl]; exact (asc_mem.mp hx).1⟩
  · rw [row_map ea] at hi
    obtain ⟨h3, h4⟩ := asc_mem.mp hi
    obtain ⟨b, hb, rfl⟩ := N.sur i h3
    obtain ⟨e, e1, e2, e3⟩ := h.up b (Nat.zero_le _) hb _ h4
    have := N.inj b e hb e2 e3
    omega
  · rw [row_map ea] at hj hk ⊢
    obtain ⟨j1, j2⟩ := asc_mem.mp hj
    obtain ⟨k1, k2⟩ := asc_mem.mp hk
    refine asc_mem.mpr ⟨k1, ?_⟩
    by_cases hi : i < c
    · obtain ⟨b, hb, rfl⟩ := N.sur i hi
      exact h.cl b (Nat.zero_le _) hb j j2 k k2
    · rw [out i hi] at j2
      cases j2
end MO

/-! Mathematics: the turned order, dropped points. -/
namespace MO
open DL PySem
theorem up_eqN : ∀ {a b : List Nat}, a.Pairwise (· < ·) → b.Pairwise (· < ·) → (∀ x, x ∈ a ↔ x ∈ b) → a = b
  | [], [], _, _, _ => rfl
  | [], y :: b, _, _, h => nomatch (h y).mpr List.mem_cons_self
  | x :: a, [], _, _, h => nomatch (h x).mp List.mem_cons_self
  | x :: a, y :: b, ha, hb, h => by
    have ha' := List.pairwise_cons.mp ha
    have hb' := List.pairwise_cons.mp hb
    have exy : x = y := by
      rcases List.mem_cons.mp ((h x).mp List.mem_cons_self) with e | e
      · exact e
      · rcases List.mem_cons.mp ((h y).mpr List.mem_cons_self) with f | f
        · exact f.symm
        · have h1 := hb'.1 x e
          have h2 := ha'.1 y f
          omega
    subst exy
    have := up_eqN ha'.2 hb'.2 fun z => by
      constructor
      · intro hz
        rcases List.mem_cons.mp ((h z).mp (List.mem_cons_of_mem _ hz)) with e | e
        · have := ha'.1 z hz; omega
        · exact e
      · intro hz
        rcases List.mem_cons.mp ((h z).mpr (List.mem_cons_of_mem _ hz)) with e | e
        · have := hb'.1 z hz; omega
        · exact e
    rw [this]
theorem IsOrder.lt {o : List (List Nat)} (h : IsOrder o) {i x : Nat} (hx : x ∈ row o i) : i < o.length ∧ x < o.length := by
  by_cases hi : i < o.length
  · exact ⟨hi, (h.rise _ (row_mem hi)).lt x hx⟩
  · rw [row_out (by omega)] at hx
    cases hx
theorem row_up {o : List (List Nat)} (h : IsOrder o) (i : Nat) : (row o i).Pairwise (· < ·) := by
  by_cases hi : i < o.length
  · exact (h.rise _ (row_mem hi)).up
  · rw [row_out (by omega)]
    exact .nil
theorem mem_downs {o : List (List Nat)} (h : IsOrder o) {p q : Nat} : q ∈ downs o p ↔ p ∈ row o q := by
  unfold downs
  rw [List.mem_filter, List.mem_range, List.contains_iff_mem]
  exact ⟨fun z => z.2, fun z => ⟨(h.lt z).1, z⟩⟩
theorem downs_up (o : List (List Nat)) (p : Nat) : (downs o p).Pairwise (· < ·) := List.Pairwise.filter _ List.pairwise_lt_range
theorem row_range {n : Nat} {f : Nat → List Nat} {i : Nat} : row ((List.range n).map f) i = if i < n then f i else [] := by
  unfold row
  rw [List.getElem?_map]
  by_cases h : i < n
  · rw [List.getElem?_range h, if_pos h]; rfl
  · rw [List.getElem?_eq_none (by rw [List.length_range]; omega), if_neg h]; rfl
theorem mem_turn {o : List (List Nat)} (h : IsOrder o) {p q : Nat} : q ∈ row (turn o) p ↔ p ∈ row o q := by
  unfold turn
  rw [row_range]
  by_cases hp : p < o.length
  · rw [if_pos hp, mem_downs h]
  · rw [if_neg hp]
    exact ⟨fun z => (nomatch z), fun z => absurd (h.lt z).2 hp⟩
theorem turn_len (o : List (List Nat)) : (turn o).length = o.length := by unfold turn; rw [List.length_map, List.length_range]
theorem order_turn {o : List (List Nat)} (h : IsOrder o) : IsOrder (turn o) := by
  refine ⟨by rw [turn_len]; exact h.pos, by rw [turn_len]; exact h.most, fun r hr => ?_, fun i hi => ?_, fun i j k hj hk => ?_⟩
  · obtain ⟨p, hp, rfl⟩ := List.mem_map.mp hr
    refine ⟨downs_up o p, fun x hx => ?_⟩
    rw [turn_len]
    exact (h.lt ((mem_downs h).mp hx)).1
  · exact h.irr i ((mem_turn h).mp hi)
  · exact (mem_turn h).mpr (h.tr _ _ _ ((mem_turn h).mp hk) ((mem_turn h).mp hj))
theorem ord_ext {o q : List (List Nat)} (ho : IsOrder o) (hq : IsOrder q) (hl : o.length = q.length) (h : ∀ i x, x ∈ row o i ↔ x ∈ row q i) : o = q := by
  apply List.ext_getElem hl
  intro i h1 h2
  have e1 : o[i] = row o i := (row_get (List.getElem?_eq_getElem h1)).symm
  have e2 : q[i] = row q i := (row_get (List.getElem?_eq_getElem h2)).symm
  rw [e1, e2]
  exact up_eqN (row_up ho i) (row_up hq i) (h i)
theorem turn_turn {o : List (List Nat)} (h : IsOrder o) : turn (turn o) = o :=
  ord_ext (order_turn (order_turn h)) h (by rw [turn_len, turn_len]) fun i x => by rw [mem_turn (order_turn h), mem_turn h]
/-- the number in the greater order -/
def un (p i : Nat) : Nat := if i < p then i else i + 1
def sh (p x : Nat) : Nat := if p < x then x - 1 else x
theorem un_ne (p i : Nat) : un p i ≠ p := by unfold un; split <;> omega
theorem sh_un (p i : Nat) : sh p (un p i) = i := by unfold sh un; split <;> split <;> omega
theorem un_sh {p x : Nat} (h : x ≠ p) : un p (sh p x) = x := by unfold sh un; split <;> split <;> omega
theorem un_lt (p : Nat) {i j : Nat} (h : i < j) : un p i < un p j := by unfold un; split <;> split <;> omega
theorem others {n p : Nat} (hp : p < n) : ((List.range n).filter fun a => a != p) = (List.range (n - 1)).map (un p) := by
  refine up_eqN (List.Pairwise.filter _ List.pairwise_lt_range) ?_ fun x => ?_
  · rw [List.pairwise_map]
    exact List.pairwise_lt_range.imp fun h => un_lt p h
  · rw [List.mem_filter, List.mem_range, List.mem_map]
    constructor
    · rintro ⟨h1, h2⟩
      have h2' : x ≠ p := by simpa using h2
      refine ⟨sh p x, ?_, un_sh h2'⟩
      rw [List.mem_range]
      unfold sh
      split <;> omega
    · rintro ⟨i, hi, rfl⟩
      rw [List.mem_range] at hi
      refine ⟨?_, by simpa using un_ne p i⟩
      unfold un
      split <;> omega
theorem drop1_eq {o : List (List Nat)} {p : Nat} (hp : p < o.length) : drop1 o p = (List.range (o.length - 1)).map fun i => cutP p (row o (un p i)) := by
  unfold drop1
  rw [others hp, List.map_map]
  rfl
theorem drop1_len {o : List (List Nat)} {p : Nat} (hp : p < o.length) : (drop1 o p).length = o.length - 1 := by rw [drop1_eq hp, List.length_map, List.length_range]
theorem mem_cutP {p x : Nat} {r : List Nat} : x ∈ cutP p r ↔ un p x ∈ r := by
  show x ∈ (r.filter fun x => x != p).map (sh p) ↔ _
  rw [List.mem_map]
  constructor
  · rintro ⟨y, hy, rfl⟩
    rw [List.mem_filter] at hy
    have : y ≠ p := by simpa using hy.2
    rw [un_sh this]
    exact hy.1
  · intro h
    exact ⟨un p x, List.mem_filter.mpr ⟨h, by simpa using un_ne p x⟩, sh_un p x⟩
theorem mem_drop1 {o : List (List Nat)} (h : IsOrder o) {p : Nat} (hp : p < o.length) {i x : Nat} : x ∈ row (drop1 o p) i ↔ un p x ∈ row o (un p i) := by
  rw [drop1_eq hp, row_range]
  by_cases hi : i < o.length - 1
  · rw [if_pos hi, mem_cutP]
  · rw [if_neg hi, row_out (o := o)]
    · exact ⟨fun z => (nomatch z), fun z => (nomatch z)⟩
    · unfold un; split <;> omega
theorem cutP_up {p : Nat} {r : List Nat} (h : r.Pairwise (· < ·)) : (cutP p r).Pairwise (· < ·) := by
  show ((r.filter fun x => x != p).map (sh p)).Pairwise (· < ·)
  rw [List.pairwise_map]
  refine (h.filter _).imp_of_mem fun {a b} ha hb hab => ?_
  have h1 : a ≠ p := by simpa using (List.mem_filter.mp ha).2
  have h2 : b ≠ p := by simpa using (List.mem_filter.mp hb).2
  unfold sh
  split <;> split <;> omega
theorem order_drop1 {o : List (List Nat)} (h : IsOrder o) {p : Nat} (hp : p < o.length) (h1 : 1 < o.length) : IsOrder (drop1 o p) := by
  have hm := h.most
  refine ⟨by rw [drop1_len hp]; omega, by rw [drop1_len hp]; omega, fun r hr => ?_, fun i hi => ?_, fun i j k hj hk => ?_⟩
  · rw [drop1_len hp]
    rw [drop1_eq hp] at hr
    obtain ⟨i, _, rfl⟩ := List.mem_map.mp hr
    refine ⟨cutP_up (row_up h _), fun x hx => ?_⟩
    have := (h.lt (mem_cutP.mp hx)).2
    unfold un at this
    split at this <;> omega
  · exact h.irr _ ((mem_drop1 h hp).mp hi)
  · exact (mem_drop1 h hp).mpr (h.tr _ _ _ ((mem_drop1 h hp).mp hj) ((mem_drop1 h hp).mp hk))
end MO

namespace G
open PySem PySem.Spec PyProof.Rows L2 DL
def topS (i : Nat) : Stmt := PySem.Challenge.pw_chainshapes_k01_whole_orders.main.body.getD i (.Pass ⟨0, 0, 0, 0⟩)
/-- the built-ins that the text uses, and its constants -/
structure Blt (mg : Str → Option Value) : Prop where
  isinstance : mg "isinstance" = none
  int : mg "int" = none
  bool : mg "bool" = none
  tuple : mg "tuple" = none
  all : mg "all" = none
  any : mg "any" = none
  zip : mg "zip" = none
  len : mg "len" = none
  enumerate : mg "enumerate" = none
  range : mg "range" = none
  min : mg "min" = none
  max : mg "max" = none
  sum : mg "sum" = none
  list : mg "list" = none
  sorted : mg "sorted" = none
  set : mg "set" = none
  str : mg "str" = none
  dict : mg "dict" = none
  most : ∃ t, mg "MOST" = some (.int 8 t)
/-! is_integer -/
abbrev s_is_integer : Stmt := topS 7
abbrev N_is_integer : List Str := ["value", "low", "high"]
abbrev P_is_integer : List Str := ["value", "low", "high"]
theorem sc_is_integer : FnScope N_is_integer P_is_integer (defScope s_is_integer) := ⟨rfl, rfl, rfl, by decide +kernel, rfl, by decide +kernel, by decide +kernel⟩
def isIntD : PyData → Int → Int → Bool
  | .int i, lo, hi => decide (lo ≤ i) && decide (i ≤ hi)
  | _, _, _ => false
def r_is_integer : List Sl → Rs → List Sl → Prop := fun Γ r Γ' => ∃ d lo hi, Γ = dats [d, .int lo, .int hi] ∧ r = .dat (.bool (isIntD d lo hi)) ∧ Γ' = Γ
theorem rl_is_integer {d : PyData} {lo hi : Int} : r_is_integer (dats [d, .int lo, .int hi]) (.dat (.bool (isIntD d lo hi))) (dats [d, .int lo, .int hi]) := ⟨_, _, _, rfl, rfl, rfl⟩
theorem ok_is_integer {P : Program} {w : World} {K : PySem.W.Frag} {mg : Str → Option Value} {base : Heap} {f : Addr} {fd : FuncData} {k : Nat} (F : Fun K "is_integer" "is_integer" s_is_integer f fd) (B : Blt mg) : FnOk P w K mg base CX0 (k + 1) f fd P_is_integer (Ct K r_is_integer) := by
  refine fn_ct (N := N_is_integer) F sc_is_integer (fun Γ r Γ' h => by obtain ⟨d, lo, hi, rfl, _⟩ := h; rfl) fun cdv A outer s H E hr Γ r Γ' h => ?_
  obtain ⟨d, lo, hi, rfl, rfl, rfl⟩ := h
  show BJ _ [.dat d, .dat (.int lo), .dat (.int hi)] _ _
  cases d with
  | int i => exact bj_ret (ej_and (ej_isi (kit_int _) rfl B.isinstance rfl B.int bt_int (ej_var (i := 0) rfl (Or.inl rfl) rfl)) fun h0 => (ej_and (ej_not (ej_isi (kit_bool _) rfl B.isinstance rfl B.bool bt_bool (ej_var (i := 0) rfl (Or.inl rfl) rfl))) fun h1 => (ej_one (ej_kk ob_le ob_le (ej_var (i := 1) rfl (Or.inl rfl) rfl) (ej_var (i := 0) rfl (Or.inl rfl) rfl) (ej_var (i := 2) rfl (Or.inl rfl) rfl))))) ⟨rfl, rfl, rfl, rfl, trivial⟩
  | bool i => exact bj_ret (ej_and (ej_isi (kit_int _) rfl B.isinstance rfl B.int bt_int (ej_var (i := 0) rfl (Or.inl rfl) rfl)) fun _ => ej_andF (ej_not (ej_isi (kit_bool _) rfl B.isinstance rfl B.bool bt_bool (ej_var (i := 0) rfl (Or.inl rfl) rfl))) rfl) ⟨rfl, rfl, rfl, rfl, trivial⟩
  | _ => exact bj_ret (ej_andF (ej_isi (kit_int _) rfl B.isinstance rfl B.int bt_int (ej_var (i := 0) rfl (Or.inl rfl) rfl)) rfl) ⟨rfl, rfl, rfl, rfl, trivial⟩
/-! is_rising -/
abbrev s_is_rising : Stmt := topS 8
abbrev N_is_rising : List Str := ["value", "count", "one", "other"]
abbrev P_is_rising : List Str := ["value", "count"]
theorem sc_is_rising : FnScope N_is_rising P_is_rising (defScope s_is_rising) := ⟨rfl, rfl, rfl, by decide +kernel, rfl, by decide +kernel, by decide +kernel⟩
def ltD : PyData × PyData → Bool
  | (.int a, .int b) => decide (a < b)
  | _ => false
def isRisD : PyData → Int → Bool
  | .tuple ds, n => ds.all (fun d => isIntD d 0 (n - 1)) && (ds.zip (cutD ds (some 1) none)).all ltD
  | _, _ => false
def okT (d : PyData) : Prop := ∀ ds, d = .tuple ds → ds.length ≤ 1000
def r_is_rising : List Sl → Rs → List Sl → Prop := fun Γ r Γ' => ∃ d n, Γ = dats [d, .int n] ∧ okT d ∧ r = .dat (.bool (isRisD d n)) ∧ Γ' = Γ
theorem rl_is_rising {d : PyData} {n : Int} (h : okT d) : r_is_rising (dats [d, .int n]) (.dat (.bool (isRisD d n))) (dats [d, .int n]) := ⟨_, _, rfl, h, rfl, rfl⟩
theorem isIntD_is {d : PyData} {lo hi : Int} (h : isIntD d lo hi = true) : ∃ i, d = .int i := by
  cases d with
  | int i => exact ⟨i, rfl⟩
  | _ => cases h
structure C_is_rising (P : Program) (w : World) (K : PySem.W.Frag) (mg : Str → Option Value) (base : Heap) : Prop where
  is_integer : Cal P w K mg base 1 "is_integer" (Ct K r_is_integer) []
theorem map_bools {α : Type} (f : α → Bool) (xs : List α) : xs.map (fun x => PyData.bool (f x)) = (xs.map f).map PyData.bool := by rw [List.map_map]; rfl
theorem ok_is_rising {P : Program} {w : World} {K : PySem.W.Frag} {mg : Str → Option Value} {base : Heap} {f : Addr} {fd : FuncData} {k : Nat} (F : Fun K "is_rising" "is_rising" s_is_rising f fd) (B : Blt mg) (C : C_is_rising P w K mg base) : FnOk P w K mg base CX0 (k + 2) f fd P_is_rising (Ct K r_is_rising) := by
  refine fn_ct (N := N_is_rising) F sc_is_rising (fun Γ r Γ' h => by obtain ⟨d, n, rfl, _⟩ := h; rfl) fun cdv A outer s H E hr Γ r Γ' h => ?_
  obtain ⟨d, n, rfl, hd, rfl, rfl⟩ := h
  show BJ _ [.dat d, .dat (.int n), .un, .un] _ _
  by_cases ht : isTtup d = true
  · obtain ⟨ds, rfl⟩ : ∃ ds, d = .tuple ds := by
      cases d with
      | tuple ds => exact ⟨ds, rfl⟩
      | _ => cases ht
    have hl := hd ds rfl
    refine bj_ifret (b0 := !ds.all fun d => isIntD d 0 (n - 1)) (tj_is (tj_w (wj_or (tj_not (tj_val (ej_isi (kit_tup _) rfl B.isinstance rfl B.tuple bt_tuple (ej_var (i := 0) rfl (Or.inl rfl) rfl)))) fun h0 => (wj_or1 (tj_not (tj_val (ej_cb (cb_allm rfl) rfl B.all bt_all (dj_cons (ej_frz (ej_lcM rfl sc_is_rising.nd (wj_id (wj_tup (ej_var (i := 0) rfl (Or.inl rfl) rfl))) (blkOk_by (own := [("one", 2)]) (N := N_is_rising) (sc := defScope s_is_rising) (by decide +kernel)) (by decide) (fun _ _ _ _ _ => (tgp_nm (i := 2) sc_is_rising.nd rfl (Or.inl rfl))) (fun _ _ => trivial) (fun x0 hx0 _ _ _ _ _ => (ej_callD C.is_integer hr (by omega) rfl (dj_cons (ej_var (i := 2) rfl (Or.inl rfl) rfl) (dj_cons ej_int (dj_cons (ej_b ob_sub (ej_var (i := 1) rfl (Or.inr (Or.inl rfl)) rfl) ej_int) dj_nil))) rl_is_integer)) rfl (by omega))) dj_nil))))))) ?_) (fun h => ?_) (fun h => ?_)
    · rfl
    · exact bj_ret ej_bl ⟨by show Rs.dat (.bool false) = .dat (.bool (_ && _)); rw [show (ds.all fun d => isIntD d 0 (n - 1)) = false by simpa using h]; rfl, rfl, rfl, trivial⟩
    · have hall : (ds.all fun d => isIntD d 0 (n - 1)) = true := by simpa using h
      obtain ⟨ns, rfl⟩ := MO.ints_of (fun d hd => isIntD_is hd) hall
      refine bj_ret (ej_cb (cb_allm rfl) rfl B.all bt_all (dj_cons (ej_frz (ej_lcM rfl sc_is_rising.nd (wj_zipTm rfl B.zip (dj_cons (ej_var (i := 0) rfl (Or.inl rfl) rfl) (dj_cons (ej_slTm (ej_var (i := 0) rfl (Or.inl rfl) rfl) (pj_some ej_int) pj_none) dj_nil))) (blkOk_by (own := [("one", 2), ("other", 3)]) (N := N_is_rising) (sc := defScope s_is_rising) (by decide +kernel)) (by decide) (fun _ _ _ _ _ => (tgp_pr (i := 2) (j := 3) rfl sc_is_rising.nd rfl (Or.inl rfl) rfl (Or.inl rfl))) (fun _ _ => ⟨_, _, rfl⟩) (fun x0 hx0 _ _ _ _ _ => (ej_k ob_lt (ej_var (i := 2) rfl (Or.inl rfl) rfl) (ej_var (i := 3) rfl (Or.inl rfl) rfl))) rfl (by rw [List.length_zip]; rw [List.length_map] at hl; omega))) dj_nil)) ⟨?_, rfl, rfl, trivial⟩
      show Rs.dat (.bool _) = .dat (.bool (_ && _))
      rw [hall, cutD_map, List.zip_map, List.all_map]
      rfl
  · have ht' : isTtup d = false := by simpa using ht
    refine bj_ifret (tj_w (wj_orT (tj_not (tj_val (ej_isi (kit_tup _) rfl B.isinstance rfl B.tuple bt_tuple (ej_var (i := 0) rfl (Or.inl rfl) rfl)))) (by rw [ht']; rfl))) (fun _ => bj_ret ej_bl ⟨?_, rfl, rfl, trivial⟩) (fun h => nomatch h)
    cases d with
    | tuple ds => cases ht'
    | _ => rfl

theorem isRis_iff {d : PyData} {n : Nat} : isRisD d (n : Int) = true ↔ ∃ r, d = rowD r ∧ MO.Rising n r := by
  constructor
  · intro h
    cases d with
    | tuple ds =>
      have h' := Bool.and_eq_true_iff.mp (show (_ && _) = true from h)
      obtain ⟨ns, rfl⟩ := MO.ints_of (fun d hd => isIntD_is hd) h'.1
      have hb : ∀ i ∈ ns, 0 ≤ i ∧ i ≤ (n : Int) - 1 := fun i hi => by
        have := List.all_eq_true.mp h'.1 (.int i) (List.mem_map_of_mem hi)
        have := Bool.and_eq_true_iff.mp (show (decide _ && decide _) = true from this)
        exact ⟨of_decide_eq_true this.1, of_decide_eq_true this.2⟩
      obtain ⟨r, rfl⟩ := MO.nats_of fun i hi => (hb i hi).1
      refine ⟨r, by unfold rowD; rw [map_nI], ?_, fun x hx => ?_⟩
      · have z := h'.2
        rw [cutD_map, List.zip_map, List.all_map, MO.cut1] at z
        have z' := (MO.zip_lt _).mp z
        rw [List.pairwise_map] at z'
        exact z'.imp fun q => Int.ofNat_lt.mp q
      · have := hb x (List.mem_map_of_mem hx)
        omega
    | _ => cases h
  · rintro ⟨r, rfl, h1, h2⟩
    unfold rowD
    rw [map_nI]
    show (_ && _) = true
    rw [Bool.and_eq_true]
    constructor
    · rw [List.all_map, List.all_eq_true]
      intro i hi
      obtain ⟨x, hx, rfl⟩ := List.mem_map.mp hi
      have := h2 x hx
      show (decide ((0 : Int) ≤ (x : Int)) && decide ((x : Int) ≤ (n : Int) - 1)) = true
      rw [Bool.and_eq_true]
      exact ⟨decide_eq_true (by omega), decide_eq_true (by omega)⟩
    · rw [cutD_map, List.zip_map, List.all_map, MO.cut1]
      refine (MO.zip_lt _).mpr ?_
      rw [List.pairwise_map]
      exact h1.imp fun q => Int.ofNat_lt.mpr q
/-! is_order -/
abbrev s_is_order : Stmt := topS 9
abbrev N_is_order : List Str := ["value", "above", "point", "other", "one"]
abbrev P_is_order : List Str := ["value"]
theorem sc_is_order : FnScope N_is_order P_is_order (defScope s_is_order) := ⟨rfl, rfl, rfl, by decide +kernel, rfl, by decide +kernel, by decide +kernel⟩
/-- every tuple within is short -/
def okD (d : PyData) : Prop := ∀ ds, d = .tuple ds → ds.length ≤ 1000 ∧ ∀ e ∈ ds, okT e
open Classical in
noncomputable def isOrdB (d : PyData) : Bool := decide (∃ o, d = ordD o ∧ MO.IsOrder o)
noncomputable def r_is_order : List Sl → Rs → List Sl → Prop := fun Γ r Γ' => ∃ d, Γ = dats [d] ∧ okD d ∧ r = .dat (.bool (isOrdB d)) ∧ Γ' = Γ
theorem rl_is_order {d : PyData} (h : okD d) : r_is_order (dats [d]) (.dat (.bool (isOrdB d))) (dats [d]) := ⟨_, rfl, h, rfl, rfl⟩
open Classical in
theorem isOrdB_true {d : PyData} (h : ∃ o, d = ordD o ∧ MO.IsOrder o) : isOrdB d = true := decide_eq_true h
open Classical in
theorem isOrdB_false {d : PyData} (h : ∀ o, d = ordD o → ¬ MO.IsOrder o) : isOrdB d = false := decide_eq_false fun ⟨o, h1, h2⟩ => h o h1 h2
theorem okD_ord {o : List (List Nat)} (h : MO.IsOrder o) : okD (ordD o) := fun ds e => by
  cases e
  refine ⟨by rw [List.length_map]; have := h.most; omega, fun e he => ?_⟩
  obtain ⟨r, hr, rfl⟩ := List.mem_map.mp he
  intro ds e
  cases e
  rw [List.length_map]
  have h1 := h.rise r hr
  have h2 : r.length ≤ o.length := MO.rising_len h1
  have := h.most
  omega
structure C_is_order (P : Program) (w : World) (K : PySem.W.Frag) (mg : Str → Option Value) (base : Heap) : Prop where
  is_rising : Cal P w K mg base 2 "is_rising" (Ct K r_is_rising) []
theorem ok_is_order {P : Program} {w : World} {K : PySem.W.Frag} {mg : Str → Option Value} {base : Heap} {f : Addr} {fd : FuncData} {k : Nat} (F : Fun K "is_order" "is_order" s_is_order f fd) (B : Blt mg) (C : C_is_order P w K mg base) : FnOk P w K mg base CX0 (k + 3) f fd P_is_order (Ct K r_is_order) := by
  refine fn_ct (N := N_is_order) F sc_is_order (fun Γ r Γ' h => by obtain ⟨d, rfl, _⟩ := h; rfl) fun cdv A outer s H E hr Γ r Γ' h => ?_
  obtain ⟨d, rfl, hd, rfl, rfl⟩ := h
  obtain ⟨tm, hmost⟩ := B.most
  show BJ _ [.dat d, .un, .un, .un, .un] _ _
  by_cases ht : isTtup d = true
  · obtain ⟨ds, rfl⟩ : ∃ ds, d = .tuple ds := by
      cases d with
      | tuple ds => exact ⟨ds, rfl⟩
      | _ => cases ht
    have hl := (hd ds rfl).1
    have hw := (hd ds rfl).2
    refine bj_ifret (b0 := !(decide (1 ≤ ds.length) && decide (ds.length ≤ 8))) (tj_is (tj_w (wj_or (tj_not (tj_val (ej_isi (kit_tup _) rfl B.isinstance rfl B.tuple bt_tuple (ej_var (i := 0) rfl (Or.inr (Or.inl rfl)) rfl)))) fun h0 => (wj_or1 (tj_not (tj_kk ob_le ob_le ej_int (ej_cb cb_lenT rfl B.len bt_len (dj_cons (ej_var (i := 0) rfl (Or.inr (Or.inl rfl)) rfl) dj_nil)) (ej_mc rfl hmost)))))) ?_) (fun h => ?_) (fun h => ?_)
    · show (false || !(decide ((1 : Int) ≤ (ds.length : Int)) && decide ((ds.length : Int) ≤ 8))) = _
      rw [Bool.false_or, show decide ((1 : Int) ≤ (ds.length : Int)) = decide (1 ≤ ds.length) by rw [decide_eq_decide]; omega, show decide ((ds.length : Int) ≤ 8) = decide (ds.length ≤ 8) by rw [decide_eq_decide]; omega]
    · refine bj_ret ej_bl ⟨?_, rfl, trivial⟩
      rw [isOrdB_false fun o e ho => ?_]
      cases e
      have h1 := ho.pos
      have h2 := ho.most
      rw [List.length_map] at h
      simp [h1, h2] at h
    · have h12 : 1 ≤ ds.length ∧ ds.length ≤ 8 := by simpa using h
      refine bj_ifret (tj_not (tj_val (ej_cb (cb_allm rfl) rfl B.all bt_all (dj_cons (ej_frz (ej_lcM rfl sc_is_order.nd (wj_id (wj_tup (ej_var (i := 0) rfl (Or.inr (Or.inl rfl)) rfl))) (blkOk_by (own := [("above", 1)]) (N := N_is_order) (sc := defScope s_is_order) (by decide +kernel)) (by decide) (fun _ _ _ _ _ => (tgp_nm (i := 1) sc_is_order.nd rfl (Or.inl rfl))) (fun _ _ => trivial) (fun x0 hx0 _ _ _ _ _ => (ej_callD C.is_rising hr (by omega) rfl (dj_cons (ej_var (i := 1) rfl (Or.inl rfl) rfl) (dj_cons (ej_cb cb_lenT rfl B.len bt_len (dj_cons (ej_var (i := 0) rfl (Or.inr (Or.inl rfl)) rfl) dj_nil)) dj_nil)) (rl_is_rising (hw x0 hx0)))) rfl (by omega))) dj_nil)))) (fun h => ?_) (fun h => ?_)
      · refine bj_ret ej_bl ⟨?_, rfl, trivial⟩
        rw [isOrdB_false fun o e ho => ?_]
        cases e
        have h' : (List.all (o.map rowD) fun x => isRisD x ((o.map rowD).length : Nat)) = false := by simpa using h
        rw [List.all_eq_true.mpr fun x hx => ?_] at h'
        · cases h'
        · obtain ⟨r, hr, rfl⟩ := List.mem_map.mp hx
          rw [List.length_map]
          exact isRis_iff.mpr ⟨r, rfl, ho.rise r hr⟩
      · have hall : (ds.all fun x => isRisD x (ds.length : Nat)) = true := by simpa using h
        obtain ⟨o, rfl, hrise⟩ := MO.rows_of (fun d hd => isRis_iff.mp hd) hall
        rw [List.length_map] at h12 hrise
        have hlen : ∀ j, j < o.length → (MO.row o j).length ≤ 8 := fun j hj => Nat.le_trans (MO.rising_len (hrise _ (MO.row_mem hj))) h12.2
        refine bj_forM (T := .pr 2 1) PassesOwn.never rfl (wj_enumTm rfl B.enumerate (dj_cons (ej_var (i := 0) rfl (Or.inr (Or.inl rfl)) rfl) dj_nil)) (tgp_pr (i := 2) (j := 1) rfl sc_is_order.nd rfl (Or.inl rfl) rfl (Or.inr rfl)) (fun i G => (∃ y1 y2 y3, G = [.dat (ordD o), y1, y2, y3, .un]) ∧ ∀ j, j < i → j ∉ MO.row o j ∧ ∀ a ∈ MO.row o j, ∀ c ∈ MO.row o a, c ∈ MO.row o j) ⟨⟨_, _, _, rfl⟩, fun j hj => absurd hj (Nat.not_lt_zero _)⟩ (fun i x G hx hI => ⟨⟨_, _, rfl⟩, ?_⟩) (fun G hI => ?_)
        · obtain ⟨⟨y1, y2, y3, rfl⟩, hI⟩ := hI
          rw [List.getElem?_zipIdx] at hx
          obtain ⟨r, hor, rfl⟩ : ∃ r, o[i]? = some r ∧ x = (r, i) := by
            cases e : o[i]? with
            | none => rw [e] at hx; cases hx
            | some r => rw [e] at hx; exact ⟨r, rfl, by simpa using hx.symm⟩
          have hio : i < o.length := (List.getElem?_eq_some_iff.mp hor).1
          have erow := MO.row_get hor
          have hr8 : r.length ≤ 8 := by rw [← erow]; exact hlen i hio
          show BJ _ [.dat (ordD o), .dat (rowD r), .dat (nI i), y3, .un] _ _
          refine bj_ifret (tj_k ob_inTn (ej_var (i := 2) rfl (Or.inl rfl) rfl) (ej_var (i := 1) rfl (Or.inr (Or.inl rfl)) rfl)) (fun h => bj_ret ej_bl ⟨?_, rfl, trivial⟩) (fun h => ?_)
          · rw [isOrdB_false fun o' e ho => ?_]
            have e' : o = o' := MO.ord_inj e
            subst e'
            exact ho.irr i (by rw [erow]; exact List.contains_iff_mem.mp h)
          · have hirr : i ∉ r := fun z => by rw [List.contains_iff_mem.mpr z] at h; cases h
            refine bj_forM (T := .nm 3) PassesOwn.never rfl (wj_tup (ej_var (i := 1) rfl (Or.inr (Or.inl rfl)) rfl)) (tgp_nm (i := 3) sc_is_order.nd rfl (Or.inl rfl)) (fun l G => (∃ y3, G = [.dat (ordD o), .dat (rowD r), .dat (nI i), y3, .un]) ∧ ∀ a ∈ r.take l, ∀ c ∈ MO.row o a, c ∈ r) ⟨⟨_, rfl⟩, fun a ha => by simp at ha⟩ (fun l a G ha hJ => ⟨trivial, ?_⟩) (fun G hJ => ?_)
            · obtain ⟨⟨y3, rfl⟩, hJ⟩ := hJ
              have hlt : a < o.length := (hrise r (List.mem_of_getElem? hor)).lt a (List.mem_of_getElem? ha)
              have erow' : MO.row o a = o[a] := MO.row_get (List.getElem?_eq_getElem hlt)
              have hal := hlen a hlt
              rw [erow'] at hal
              show BJ _ [.dat (ordD o), .dat (rowD r), .dat (nI i), .dat (nI a), .un] _ _
              refine bj_ifret (tj_val (ej_cb (cb_anym rfl) rfl B.any bt_any (dj_cons (ej_frz (ej_lcM rfl sc_is_order.nd (wj_tup (ej_ixT (atI_map hlt) (ej_var (i := 0) rfl (Or.inr (Or.inl rfl)) rfl) (ej_var (i := 3) rfl (Or.inl rfl) rfl))) (blkOk_by (own := [("one", 4)]) (N := N_is_order) (sc := defScope s_is_order) (by decide +kernel)) (by decide) (fun _ _ _ _ _ => (tgp_nm (i := 4) sc_is_order.nd rfl (Or.inl rfl))) (fun _ _ => trivial) (fun x0 hx0 _ _ _ _ _ => (ej_k ob_ninTn (ej_var (i := 4) rfl (Or.inl rfl) rfl) (ej_var (i := 1) rfl (Or.inr (Or.inl rfl)) rfl))) rfl (by omega))) dj_nil))) (fun h => bj_ret ej_bl ⟨?_, rfl, trivial⟩) (fun h => bj_nil ⟨⟨_, rfl⟩, ?_⟩)
              · rw [isOrdB_false fun o' e ho => ?_]
                have e' : o = o' := MO.ord_inj e
                subst e'
                obtain ⟨c, hc, hn⟩ := List.any_eq_true.mp h
                have : c ∉ r := fun z => by rw [List.contains_iff_mem.mpr z] at hn; cases hn
                exact this (by rw [← erow]; exact ho.tr i a c (by rw [erow]; exact List.mem_of_getElem? ha) (by rw [erow']; exact hc))
              · intro b hb c hc
                rw [List.take_add_one, ha] at hb
                rcases List.mem_append.mp hb with hb | hb
                · exact hJ b hb c hc
                · have eb : b = a := by simpa using hb
                  subst eb
                  have hf : (List.any (MO.row o b) fun x => !r.contains x) = false := by rw [erow']; exact h
                  have := List.any_eq_false.mp hf c hc
                  exact List.contains_iff_mem.mp (by simpa using this)
            · obtain ⟨⟨y3, rfl⟩, hJ⟩ := hJ
              rw [List.take_length] at hJ
              refine bj_nil ⟨⟨_, _, _, rfl⟩, fun j hj => ?_⟩
              by_cases e : j = i
              · subst e
                rw [erow]
                exact ⟨hirr, hJ⟩
              · exact hI j (by omega)
        · obtain ⟨⟨y1, y2, y3, rfl⟩, hI⟩ := hI
          rw [List.length_zipIdx] at hI
          refine bj_ret ej_bl ⟨?_, rfl, trivial⟩
          rw [isOrdB_true ⟨o, rfl, ⟨h12.1, h12.2, hrise, fun i hi => ?_, fun i j k hj hk => ?_⟩⟩]
          · by_cases hlt : i < o.length
            · exact (hI i hlt).1 hi
            · rw [MO.row_out (by omega)] at hi
              cases hi
          · by_cases hlt : i < o.length
            · exact (hI i hlt).2 j hj k hk
            · rw [MO.row_out (by omega)] at hj
              cases hj
  · have ht' : isTtup d = false := by simpa using ht
    refine bj_ifret (tj_w (wj_orT (tj_not (tj_val (ej_isi (kit_tup _) rfl B.isinstance rfl B.tuple bt_tuple (ej_var (i := 0) rfl (Or.inr (Or.inl rfl)) rfl)))) (by rw [ht']; rfl))) (fun _ => bj_ret ej_bl ⟨?_, rfl, trivial⟩) (fun h => nomatch h)
    rw [isOrdB_false fun o e => ?_]
    cases e
    cases ht'
/-! check_order -/
abbrev s_check_order : Stmt := topS 10
abbrev N_check_order : List Str := ["order"]
abbrev P_check_order : List Str := ["order"]
theorem sc_check_order : FnScope N_check_order P_check_order (defScope s_check_order) := ⟨rfl, rfl, rfl, by decide +kernel, rfl, by decide +kernel, by decide +kernel⟩
noncomputable def r_check_order : List Sl → Rs → List Sl → Prop := fun Γ r Γ' => ∃ o, Γ = dats [ordD o] ∧ MO.IsOrder o ∧ r = .dat .none ∧ Γ' = Γ
theorem rl_check_order {o : List (List Nat)} (h : MO.IsOrder o) : r_check_order (dats [ordD o]) (.dat .none) (dats [ordD o]) := ⟨_, rfl, h, rfl, rfl⟩
structure C_check_order (P : Program) (w : World) (K : PySem.W.Frag) (mg : Str → Option Value) (base : Heap) : Prop where
  is_order : Cal P w K mg base 3 "is_order" (Ct K r_is_order) []
theorem ok_check_order {P : Program} {w : World} {K : PySem.W.Frag} {mg : Str → Option Value} {base : Heap} {f : Addr} {fd : FuncData} {k : Nat} (F : Fun K "check_order" "check_order" s_check_order f fd) (B : Blt mg) (C : C_check_order P w K mg base) : FnOk P w K mg base CX0 (k + 4) f fd P_check_order (Ct K r_check_order) := by
  refine fn_ct (N := N_check_order) F sc_check_order (fun Γ r Γ' h => by obtain ⟨d, rfl, _⟩ := h; rfl) fun cdv A outer s H E hr Γ r Γ' h => ?_
  obtain ⟨o, rfl, ho, rfl, rfl⟩ := h
  show BJ _ [.dat (ordD o)] _ _
  refine bj_ifret (tj_not (tj_val (ej_callD C.is_order hr (by omega) rfl (dj_cons (ej_var (i := 0) rfl (Or.inl rfl) rfl) dj_nil) (rl_is_order (okD_ord ho))))) (fun h => ?_) (fun h => bj_nil ⟨rfl, rfl, trivial⟩)
  rw [isOrdB_true ⟨o, rfl, ho⟩] at h
  cases h
/-! check_point -/
abbrev s_check_point : Stmt := topS 11
abbrev N_check_point : List Str := ["order", "point"]
abbrev P_check_point : List Str := ["order", "point"]
theorem sc_check_point : FnScope N_check_point P_check_point (defScope s_check_point) := ⟨rfl, rfl, rfl, by decide +kernel, rfl, by decide +kernel, by decide +kernel⟩
def r_check_point : List Sl → Rs → List Sl → Prop := fun Γ r Γ' => ∃ o p, Γ = dats [ordD o, nI p] ∧ p < o.length ∧ r = .dat .none ∧ Γ' = Γ
theorem rl_check_point {o : List (List Nat)} {p : Nat} (h : p < o.length) : r_check_point (dats [ordD o, nI p]) (.dat .none) (dats [ordD o, nI p]) := ⟨_, _, rfl, h, rfl, rfl⟩
structure C_check_point (P : Program) (w : World) (K : PySem.W.Frag) (mg : Str → Option Value) (base : Heap) : Prop where
  is_integer : Cal P w K mg base 1 "is_integer" (Ct K r_is_integer) []
theorem ok_check_point {P : Program} {w : World} {K : PySem.W.Frag} {mg : Str → Option Value} {base : Heap} {f : Addr} {fd : FuncData} {k : Nat} (F : Fun K "check_point" "check_point" s_check_point f fd) (B : Blt mg) (C : C_check_point P w K mg base) : FnOk P w K mg base CX0 (k + 2) f fd P_check_point (Ct K r_check_point) := by
  refine fn_ct (N := N_check_point) F sc_check_point (fun Γ r Γ' h => by obtain ⟨d, p, rfl, _⟩ := h; rfl) fun cdv A outer s H E hr Γ r Γ' h => ?_
  obtain ⟨o, p, rfl, hp, rfl, rfl⟩ := h
  show BJ _ [.dat (ordD o), .dat (nI p)] _ _
  refine bj_ifret (tj_not (tj_val (ej_callD C.is_integer hr (by omega) rfl (dj_cons (ej_var (i := 1) rfl (Or.inl rfl) rfl) (dj_cons ej_int (dj_cons (ej_b ob_sub (ej_cb cb_lenT rfl B.len bt_len (dj_cons (ej_var (i := 0) rfl (Or.inl rfl) rfl) dj_nil)) ej_int) dj_nil))) rl_is_integer))) (fun h => ?_) (fun h => bj_nil ⟨rfl, rfl, rfl, trivial⟩)
  have h' : isIntD (nI p) 0 (((o.map rowD).length : Int) - 1) = false := by simpa using h
  rw [List.length_map] at h'
  have h2 : (decide ((0 : Int) ≤ (p : Int)) && decide ((p : Int) ≤ (o.length : Int) - 1)) = false := h'
  rw [decide_eq_true (show (0 : Int) ≤ (p : Int) by omega), decide_eq_true (show (p : Int) ≤ (o.length : Int) - 1 by omega)] at h2
  cases h2
/-! is_less -/
abbrev s_is_less : Stmt := topS 12
abbrev N_is_less : List Str := ["order", "one", "other"]
abbrev P_is_less : List Str := ["order", "one", "other"]
theorem sc_is_less : FnScope N_is_less P_is_less (defScope s_is_less) := ⟨rfl, rfl, rfl, by decide +kernel, rfl, by decide +kernel, by decide +kernel⟩
noncomputable def r_is_less : List Sl → Rs → List Sl → Prop := fun Γ r Γ' => ∃ o a b, Γ = dats [ordD o, nI a, nI b] ∧ MO.IsOrder o ∧ a < o.length ∧ b < o.length ∧ r = .dat (.bool ((MO.row o a).contains b)) ∧ Γ' = Γ
theorem rl_is_less {o : List (List Nat)} {a b : Nat} (h : MO.IsOrder o) (ha : a < o.length) (hb : b < o.length) : r_is_less (dats [ordD o, nI a, nI b]) (.dat (.bool ((MO.row o a).contains b))) (dats [ordD o, nI a, nI b]) := ⟨_, _, _, rfl, h, ha, hb, rfl, rfl⟩
structure C_is_less (P : Program) (w : World) (K : PySem.W.Frag) (mg : Str → Option Value) (base : Heap) : Prop where
  check_order : Cal P w K mg base 4 "check_order" (Ct K r_check_order) []
  check_point : Cal P w K mg base 2 "check_point" (Ct K r_check_point) []
theorem ok_is_less {P : Program} {w : World} {K : PySem.W.Frag} {mg : Str → Option Value} {base : Heap} {f : Addr} {fd : FuncData} {k : Nat} (F : Fun K "is_less" "is_less" s_is_less f fd) (B : Blt mg) (C : C_is_less P w K mg base) : FnOk P w K mg base CX0 (k + 5) f fd P_is_less (Ct K r_is_less) := by
  refine fn_ct (N := N_is_less) F sc_is_less (fun Γ r Γ' h => by obtain ⟨d, p, q, rfl, _⟩ := h; rfl) fun cdv A outer s H E hr Γ r Γ' h => ?_
  obtain ⟨o, a, b, rfl, ho, ha, hb, rfl, rfl⟩ := h
  show BJ _ [.dat (ordD o), .dat (nI a), .dat (nI b)] _ _
  refine bj_expr (ej_callD C.check_order hr (by omega) rfl (dj_cons (ej_var (i := 0) rfl (Or.inl rfl) rfl) dj_nil) (rl_check_order ho)) ?_
  refine bj_expr (ej_callD C.check_point hr (by omega) rfl (dj_cons (ej_var (i := 0) rfl (Or.inl rfl) rfl) (dj_cons (ej_var (i := 1) rfl (Or.inl rfl) rfl) dj_nil)) (rl_check_point ha)) ?_
  refine bj_expr (ej_callD C.check_point hr (by omega) rfl (dj_cons (ej_var (i := 0) rfl (Or.inl rfl) rfl) (dj_cons (ej_var (i := 2) rfl (Or.inl rfl) rfl) dj_nil)) (rl_check_point hb)) ?_
  refine bj_ret (ej_k ob_inTn (ej_var (i := 2) rfl (Or.inl rfl) rfl) (ej_ixT (atI_map ha) (ej_var (i := 0) rfl (Or.inl rfl) rfl) (ej_var (i := 1) rfl (Or.inl rfl) rfl))) ⟨?_, rfl, rfl, rfl, trivial⟩
  rw [MO.row_get (List.getElem?_eq_getElem ha)]
/-! turned -/
abbrev s_turned : Stmt := topS 13
abbrev N_turned : List Str := ["order", "rows", "point", "other", "above"]
abbrev P_turned : List Str := ["order"]
theorem sc_turned : FnScope N_turned P_turned (defScope s_turned) := ⟨rfl, rfl, rfl, by decide +kernel, rfl, by decide +kernel, by decide +kernel⟩
def r_turned : List Sl → Rs → List Sl → Prop := fun Γ r Γ' => ∃ o, Γ = dats [ordD o] ∧ MO.IsOrder o ∧ r = .dat (ordD (MO.turn o)) ∧ Γ' = Γ
theorem rl_turned {o : List (List Nat)} (h : MO.IsOrder o) : r_turned (dats [ordD o]) (.dat (ordD (MO.turn o))) (dats [ordD o]) := ⟨_, rfl, h, rfl, rfl⟩
structure C_turned (P : Program) (w : World) (K : PySem.W.Frag) (mg : Str → Option Value) (base : Heap) : Prop where
  check_order : Cal P w K mg base 4 "check_order" (Ct K r_check_order) []
theorem ok_turned {P : Program} {w : World} {K : PySem.W.Frag} {mg : Str → Option Value} {base : Heap} {f : Addr} {fd : FuncData} {k : Nat} (F : Fun K "turned" "turned" s_turned f fd) (B : Blt mg) (C : C_turned P w K mg base) : FnOk P w K mg base CX0 (k + 5) f fd P_turned (Ct K r_turned) := by
  refine fn_ct (N := N_turned) F sc_turned (fun Γ r Γ' h => by obtain ⟨d, rfl, _⟩ := h; rfl) fun cdv A outer s H E hr Γ r Γ' h => ?_
  obtain ⟨o, rfl, ho, rfl, rfl⟩ := h
  have h8 := ho.most
  show BJ _ [.dat (ordD o), .un, .un, .un, .un] _ _
  refine bj_expr (ej_callD C.check_order hr (by omega) rfl (dj_cons (ej_var (i := 0) rfl (Or.inl rfl) rfl) dj_nil) (rl_check_order ho)) ?_
  refine bj_set (i := 1) sc_turned.nd rfl (Or.inl rfl) (ej_lst dj_nil) fun q => ?_
  refine bj_forM (T := .nm 2) PassesOwn.never rfl (wj_range1m rfl B.range (dj_cons (ej_cb cb_lenT rfl B.len bt_len (dj_cons (ej_var (i := 0) rfl (Or.inl rfl) rfl) dj_nil)) dj_nil) (by rw [List.length_map]; omega)) (tgp_nm (i := 2) sc_turned.nd rfl (Or.inr rfl)) (fun i G => ∃ y, G = [.dat (ordD o), .own q (.lst (((List.range i).map fun p => MO.downs o p).map rowD)), y, .un, .un]) ⟨_, rfl⟩ (fun i x G hx hI => ⟨trivial, ?_⟩) (fun G hI => ?_)
  · obtain ⟨y, rfl⟩ := hI
    rw [List.length_map] at hx
    obtain ⟨hi, rfl⟩ : i < o.length ∧ x = i := by
      have h1 := (List.getElem?_eq_some_iff.mp hx).1
      rw [List.length_range] at h1
      exact ⟨h1, by rw [List.getElem?_range h1] at hx; exact (Option.some.inj hx).symm⟩
    refine bj_append (i := 1) rfl (Or.inl rfl) (ej_lend [] (ej_ct cb_tupleL rfl B.tuple bt_tuple (dj_cons (ej_frz (ej_lc _ _ rfl sc_turned.nd (wj_enumTm rfl B.enumerate (dj_cons (ej_var (i := 0) rfl (Or.inl rfl) rfl) dj_nil)) (blkOk_by (own := [("other", 3), ("above", 4)]) (N := N_turned) (sc := defScope s_turned) (by decide +kernel)) (by decide) (fun _ _ _ _ _ => (tgp_pr (i := 3) (j := 4) rfl sc_turned.nd rfl (Or.inl rfl) rfl (Or.inl rfl))) (fun _ _ => ⟨_, _, rfl⟩) (fun x0 hx0 _ _ _ _ _ => ts_one (tj_k ob_inTn (ej_var (i := 2) rfl (Or.inr (Or.inl rfl)) rfl) (ej_var (i := 4) rfl (Or.inl rfl) rfl))) (fun x0 hx0 ht0 _ _ _ _ _ => (ej_var (i := 3) rfl (Or.inl rfl) rfl)) rfl (by rw [List.length_zipIdx]; omega))) dj_nil)) ?_) ⟨_, rfl⟩ rfl ?_ (bj_nil ⟨.dat (nI x), ?_⟩)
    · rw [show (List.map _ (List.filter _ o.zipIdx)) = (MO.downs o x).map nI from MO.downs_enum o x]
      exact lf_row _
    · rw [List.length_map, List.length_map, List.length_range]
      exact Nat.lt_of_lt_of_le hi (Nat.le_trans h8 (by decide))
    · show [Sl.dat (ordD o), .own q (.lst (_ ++ [.tuple (List.map _ (List.filter _ o.zipIdx))])), .dat (nI x), .un, .un] = _
      rw [show (List.map _ (List.filter _ o.zipIdx)) = (MO.downs o x).map nI from MO.downs_enum o x, List.range_succ, List.map_append, List.map_append]
      rfl
  · obtain ⟨y, rfl⟩ := hI
    rw [List.length_range, List.length_map]
    refine bj_ret (ej_lend [1] (ej_ct cb_tupleL rfl B.tuple bt_tuple (dj_cons (ej_var (i := 1) rfl (Or.inl rfl) rfl) dj_nil)) ?_) ⟨rfl, rfl, trivial⟩
    exact lf_ord _
/-! without -/
abbrev s_without : Stmt := topS 14
abbrev N_without : List Str := ["order", "point", "rows", "one", "above", "other"]
abbrev P_without : List Str := ["order", "point"]
theorem sc_without : FnScope N_without P_without (defScope s_without) := ⟨rfl, rfl, rfl, by decide +kernel, rfl, by decide +kernel, by decide +kernel⟩
def r_without : List Sl → Rs → List Sl → Prop := fun Γ r Γ' => ∃ o p, Γ = dats [ordD o, nI p] ∧ MO.IsOrder o ∧ r = .dat (ordD (MO.drop1 o p)) ∧ Γ' = Γ
theorem rl_without {o : List (List Nat)} {p : Nat} (h : MO.IsOrder o) : r_without (dats [ordD o, nI p]) (.dat (ordD (MO.drop1 o p))) (dats [ordD o, nI p]) := ⟨_, _, rfl, h, rfl, rfl⟩
theorem ok_without {P : Program} {w : World} {K : PySem.W.Frag} {mg : Str → Option Value} {base : Heap} {f : Addr} {fd : FuncData} {k : Nat} (F : Fun K "without" "without" s_without f fd) (B : Blt mg) : FnOk P w K mg base CX0 (k + 1) f fd P_without (Ct K r_without) := by
  refine fn_ct (N := N_without) F sc_without (fun Γ r Γ' h => by obtain ⟨d, p, rfl, _⟩ := h; rfl) fun cdv A outer s H E hr Γ r Γ' h => ?_
  obtain ⟨o, p, rfl, ho, rfl, rfl⟩ := h
  have h8 := ho.most
  show BJ _ [.dat (ordD o), .dat (nI p), .un, .un, .un, .un] _ _
  refine bj_set (i := 2) sc_without.nd rfl (Or.inl rfl) (ej_lst dj_nil) fun q => ?_
  refine bj_forM (T := .pr 3 4) PassesOwn.never rfl (wj_enumTm rfl B.enumerate (dj_cons (ej_var (i := 0) rfl (Or.inl rfl) rfl) dj_nil)) (tgp_pr (i := 3) (j := 4) rfl sc_without.nd rfl (Or.inl rfl) rfl (Or.inl rfl)) (fun i G => ∃ y z, G = [.dat (ordD o), .dat (nI p), .own q (.lst (((((List.range i).filter fun a => a != p).map fun a => MO.cutP p (MO.row o a))).map rowD)), y, z, .un]) ⟨_, _, rfl⟩ (fun i x G hx hI => ⟨⟨_, _, rfl⟩, ?_⟩) (fun G hI => ?_)
  · obtain ⟨y, z, rfl⟩ := hI
    rw [List.getElem?_zipIdx] at hx
    obtain ⟨r, hor, rfl⟩ : ∃ r, o[i]? = some r ∧ x = (r, i) := by
      cases e : o[i]? with
      | none => rw [e] at hx; cases hx
      | some r => rw [e] at hx; exact ⟨r, rfl, by simpa using hx.symm⟩
    have hio : i < o.length := (List.getElem?_eq_some_iff.mp hor).1
    have erow := MO.row_get hor
    have hr8 : r.length ≤ 8 := Nat.le_trans (MO.rising_len (ho.rise r (List.mem_of_getElem? hor))) h8
    show BJ _ [.dat (ordD o), .dat (nI p), .own q _, .dat (nI i), .dat (rowD r), .un] _ _
    refine bj_if (b0 := i != p) (tj_is (tj_k (ob_ne hr.units rfl rfl) (ej_var (i := 3) rfl (Or.inl rfl) rfl) (ej_var (i := 1) rfl (Or.inr (Or.inl rfl)) rfl)) ?_) (fun h => ?_) (fun h => ?_)
    · show (!PyData.eqv (nI i) (nI p)) = _
      rw [eqv_nI]
      by_cases e : i = p
      · subst e; simp
      · simp [e]
    · refine bj_append (i := 2) rfl (Or.inl rfl) (ej_lend [] (ej_is (ej_ct cb_tupleL rfl B.tuple bt_tuple (dj_cons (ej_frz (ej_lc _ _ rfl sc_without.nd (wj_tup (ej_var (i := 4) rfl (Or.inl rfl) rfl)) (blkOk_by (own := [("other", 5)]) (N := N_without) (sc := defScope s_without) (by decide +kernel)) (by decide) (fun _ _ _ _ _ => (tgp_nm (i := 5) sc_without.nd rfl (Or.inl rfl))) (fun _ _ => trivial) (fun x0 hx0 _ _ _ _ _ => ts_one (tj_k (ob_ne hr.units rfl rfl) (ej_var (i := 5) rfl (Or.inl rfl) rfl) (ej_var (i := 1) rfl (Or.inr (Or.inl rfl)) rfl))) (fun x0 hx0 ht0 _ _ _ _ _ => (ej_ite (tj_k ob_gt (ej_var (i := 5) rfl (Or.inl rfl) rfl) (ej_var (i := 1) rfl (Or.inr (Or.inl rfl)) rfl)) (fun hc => (ej_b ob_sub (ej_var (i := 5) rfl (Or.inl rfl) rfl) ej_int)) fun hc => (ej_var (i := 5) rfl (Or.inl rfl) rfl))) rfl (by omega))) dj_nil)) (congrArg (fun l => Rs.dat (.tuple l)) (MO.cutP_comp p r))) ?_) ⟨_, rfl⟩ rfl ?_ (bj_nil (bj_nil ⟨.dat (nI i), .dat (rowD r), ?_⟩))
      · exact lf_row _
      · rw [List.length_map, List.length_map]
        exact Nat.lt_of_le_of_lt (Nat.le_trans (List.length_filter_le _ _) (by rw [List.length_range]; omega)) (show 8 < sizeLine by decide)
      · show [Sl.dat (ordD o), .dat (nI p), .own q (.lst (_ ++ [_])), .dat (nI i), .dat (rowD r), .un] = _
        rw [List.range_succ, List.filter_append, List.map_append, List.map_append, List.filter_cons, if_pos h, List.filter_nil, List.map_singleton, List.map_singleton, erow]
    · refine bj_nil (bj_nil ⟨.dat (nI i), .dat (rowD r), ?_⟩)
      show [Sl.dat (ordD o), .dat (nI p), .own q (.lst _), .dat (nI i), .dat (rowD r), .un] = _
      rw [List.range_succ, List.filter_append, List.filter_cons, if_neg (by rw [h]; simp), List.filter_nil, List.append_nil]
  · obtain ⟨y, z, rfl⟩ := hI
    rw [List.length_zipIdx]
    refine bj_ret (ej_lend [2] (ej_ct cb_tupleL rfl B.tuple bt_tuple (dj_cons (ej_var (i := 2) rfl (Or.inl rfl) rfl) dj_nil)) ?_) ⟨rfl, rfl, rfl, trivial⟩
    exact lf_ord _
/-! dropped -/
abbrev s_dropped : Stmt := topS 15
abbrev N_dropped : List Str := ["order", "point"]
abbrev P_dropped : List Str := ["order", "point"]
theorem sc_dropped : FnScope N_dropped P_dropped (defScope s_dropped) := ⟨rfl, rfl, rfl, by decide +kernel, rfl, by decide +kernel, by decide +kernel⟩
def r_dropped : List Sl → Rs → List Sl → Prop := fun Γ r Γ' => ∃ o p, Γ = dats [ordD o, nI p] ∧ MO.IsOrder o ∧ p < o.length ∧ 1 < o.length ∧ r = .dat (ordD (MO.drop1 o p)) ∧ Γ' = Γ
theorem rl_dropped {o : List (List Nat)} {p : Nat} (h : MO.IsOrder o) (hp : p < o.length) (h1 : 1 < o.length) : r_dropped (dats [ordD o, nI p]) (.dat (ordD (MO.drop1 o p))) (dats [ordD o, nI p]) := ⟨_, _, rfl, h, hp, h1, rfl, rfl⟩
structure C_dropped (P : Program) (w : World) (K : PySem.W.Frag) (mg : Str → Option Value) (base : Heap) : Prop where
  check_order : Cal P w K mg base 4 "check_order" (Ct K r_check_order) []
  check_point : Cal P w K mg base 2 "check_point" (Ct K r_check_point) []
  without : Cal P w K mg base 1 "without" (Ct K r_without) []
theorem ok_dropped {P : Program} {w : World} {K : PySem.W.Frag} {mg : Str → Option Value} {base : Heap} {f : Addr} {fd : FuncData} {k : Nat} (F : Fun K "dropped" "dropped" s_dropped f fd) (B : Blt mg) (C : C_dropped P w K mg base) : FnOk P w K mg base CX0 (k + 5) f fd P_dropped (Ct K r_dropped) := by
  refine fn_ct (N := N_dropped) F sc_dropped (fun Γ r Γ' h => by obtain ⟨d, p, rfl, _⟩ := h; rfl) fun cdv A outer s H E hr Γ r Γ' h => ?_
  obtain ⟨o, p, rfl, ho, hp, h1, rfl, rfl⟩ := h
  show BJ _ [.dat (ordD o), .dat (nI p)] _ _
  refine bj_expr (ej_callD C.check_order hr (by omega) rfl (dj_cons (ej_var (i := 0) rfl (Or.inl rfl) rfl) dj_nil) (rl_check_order ho)) ?_
  refine bj_expr (ej_callD C.check_point hr (by omega) rfl (dj_cons (ej_var (i := 0) rfl (Or.inl rfl) rfl) (dj_cons (ej_var (i := 1) rfl (Or.inl rfl) rfl) dj_nil)) (rl_check_point hp)) ?_
  refine bj_ifret (b0 := false) (tj_is (tj_k (ob_eq hr.units rfl rfl) (ej_cb cb_lenT rfl B.len bt_len (dj_cons (ej_var (i := 0) rfl (Or.inl rfl) rfl) dj_nil)) ej_int) ?_) (fun h => nomatch h) (fun h => ?_)
  · show PyData.eqv (.int _) (.int 1) = false
    rw [eqv_int, List.length_map]
    exact decide_eq_false (by omega)
  · exact bj_ret (ej_callD C.without hr (by omega) rfl (dj_cons (ej_var (i := 0) rfl (Or.inl rfl) rfl) (dj_cons (ej_var (i := 1) rfl (Or.inl rfl) rfl) dj_nil)) (rl_without ho)) ⟨rfl, rfl, rfl, trivial⟩
end G

namespace G
open PySem PySem.Spec PyProof.Rows L2 DL
/-! _law_cell_at -/
abbrev s_law_cell_at : Stmt := topS 17
abbrev N_law_cell_at : List Str := ["script", "k", "spare", "again"]
abbrev P_law_cell_at : List Str := ["script", "k"]
theorem sc_law_cell_at : FnScope N_law_cell_at P_law_cell_at (defScope s_law_cell_at) := ⟨rfl, rfl, rfl, by decide +kernel, rfl, by decide +kernel, by decide +kernel⟩
abbrev scD (ns : List Int) : PyData := .list (ns.map .int)
def divs : Nat → Int → Int
  | 0, x => x
  | n + 1, x => divs n x / 1000003
def cellI (ns : List Int) (k : Nat) : Int :=
  if k < ns.length then ns.getD k 0 else if ns = [] then 0 else ns.getD (k % ns.length) 0 * 31 + (k : Int) + divs (min (k / ns.length) 60) (ns.getD (k % ns.length) 0) * 101
def r_cell : List Sl → Rs → List Sl → Prop := fun Γ r Γ' => ∃ ns k, Γ = dats [scD ns, nI k] ∧ ns.length ≤ 63 ∧ k ≤ 1000000 ∧ r = .dat (.int (cellI ns k)) ∧ Γ' = Γ
theorem rl_cell {ns : List Int} {k : Nat} (h1 : ns.length ≤ 63) (h2 : k ≤ 1000000) : r_cell (dats [scD ns, nI k]) (.dat (.int (cellI ns k))) (dats [scD ns, nI k]) := ⟨_, _, rfl, h1, h2, rfl, rfl⟩
theorem Shp.sc (ns : List Int) : Shp 1 (scD ns) := Shp.lst fun d hd => by
  obtain ⟨n, _, rfl⟩ := List.mem_map.mp hd
  exact Shp.int
theorem atI_getD {ns : List Int} {j : Nat} (h : j < ns.length) : atI (ns.map PyData.int) (j : Int) = some (.int (ns.getD j 0)) := by
  rw [atI_map h, List.getD_eq_getElem?_getD, List.getElem?_eq_getElem h]
  rfl
theorem ok_law_cell_at {P : Program} {w : World} {K : PySem.W.Frag} {mg : Str → Option Value} {base : Heap} {f : Addr} {fd : FuncData} {k : Nat} (F : Fun K "_law_cell_at" "_law_cell_at" s_law_cell_at f fd) (B : Blt mg) : FnOk P w K mg base CX0 (k + 1) f fd P_law_cell_at (Ct K r_cell) := by
  refine fn_ct (N := N_law_cell_at) F sc_law_cell_at (fun Γ r Γ' h => by obtain ⟨d, p, rfl, _⟩ := h; rfl) fun cdv A outer s H E hr Γ r Γ' h => ?_
  obtain ⟨ns, k, rfl, hn, hk, rfl, rfl⟩ := h
  show BJ _ [.dat (scD ns), .dat (nI k), .un, .un] _ _
  refine bj_ifret (b0 := decide (k < ns.length)) (tj_is (tj_k ob_lt (ej_var (i := 1) rfl (Or.inl rfl) rfl) (ej_cb cb_lenL rfl B.len bt_len (dj_cons (ej_var (i := 0) rfl (Or.inl rfl) rfl) dj_nil))) (by rw [List.length_map, decide_eq_decide]; omega)) (fun h => ?_) (fun h => ?_)
  · have h' : k < ns.length := of_decide_eq_true h
    refine bj_ret (ej_ixL (atI_getD h') (ej_var (i := 0) rfl (Or.inl rfl) rfl) (ej_var (i := 1) rfl (Or.inl rfl) rfl)) ⟨?_, rfl, rfl, trivial⟩
    unfold cellI
    rw [if_pos h']
  · have h' : ¬ k < ns.length := of_decide_eq_false h
    refine bj_ifret (b0 := decide (ns = [])) (tj_is (tj_k (ob_eq hr.units ((Shp.lst (n := 0) fun d hd => by first | (obtain ⟨n, _, rfl⟩ := List.mem_map.mp hd; exact Shp.int) | cases hd).shaped (by decide)) ((Shp.lst (n := 0) fun d hd => by first | (obtain ⟨n, _, rfl⟩ := List.mem_map.mp hd; exact Shp.int) | cases hd).shaped (by decide))) (ej_var (i := 0) rfl (Or.inl rfl) rfl) (ej_frz (ej_lst dj_nil))) (by cases ns <;> rfl)) (fun h2 => ?_) (fun h2 => ?_)
    · refine bj_ret ej_int ⟨?_, rfl, rfl, trivial⟩
      unfold cellI
      rw [if_neg h', if_pos (of_decide_eq_true h2)]
    · have h2' : ns ≠ [] := of_decide_eq_false h2
      have hpos : 0 < ns.length := List.length_pos_iff.mpr h2'
      have hlt : k % ns.length < ns.length := Nat.mod_lt _ hpos
      have em : ((k : Int) % ((ns.map PyData.int).length : Int)) = ((k % ns.length : Nat) : Int) := by rw [List.length_map]; rfl
      have ed : ((k : Int) / ((ns.map PyData.int).length : Int)) = ((k / ns.length : Nat) : Int) := by rw [List.length_map]; rfl
      refine bj_set (i := 2) sc_law_cell_at.nd rfl (Or.inl rfl) (ej_ixL (by rw [em]; exact atI_getD hlt) (ej_var (i := 0) rfl (Or.inl rfl) rfl) (ej_b (ob_mod (by rw [List.length_map]; omega)) (ej_var (i := 1) rfl (Or.inl rfl) rfl) (ej_cb cb_lenL rfl B.len bt_len (dj_cons (ej_var (i := 0) rfl (Or.inl rfl) rfl) dj_nil)))) fun _ => ?_
      show BJ _ [.dat (scD ns), .dat (nI k), .dat (.int (ns.getD (k % ns.length) 0)), .un] _ _
      refine bj_forM (T := .nm 3) PassesOwn.never rfl (wj_range1m (n := min (k / ns.length) 60) rfl B.range (dj_cons (ej_is (ej_cb (cb_min2 rfl) rfl B.min bt_min (dj_cons (ej_b (ob_fdiv ⟨by rw [List.length_map]; omega, by rw [List.length_map]; omega⟩) (ej_var (i := 1) rfl (Or.inl rfl) rfl) (ej_cb cb_lenL rfl B.len bt_len (dj_cons (ej_var (i := 0) rfl (Or.inl rfl) rfl) dj_nil))) (dj_cons ej_int dj_nil))) (by rw [ed]; show Rs.dat (.int (min _ 60)) = Rs.dat (.int ((min (k / ns.length) 60 : Nat) : Int)); congr 2; omega)) dj_nil) (by omega)) (tgp_nm (i := 3) sc_law_cell_at.nd rfl (Or.inl rfl)) (fun i G => ∃ y, G = [.dat (scD ns), .dat (nI k), .dat (.int (divs i (ns.getD (k % ns.length) 0))), y]) ⟨_, rfl⟩ (fun i x G hx hI => ⟨trivial, ?_⟩) (fun G hI => ?_)
      · obtain ⟨y, rfl⟩ := hI
        show BJ _ [.dat (scD ns), .dat (nI k), .dat (.int (divs i (ns.getD (k % ns.length) 0))), .dat (nI x)] _ _
        exact bj_set (i := 2) sc_law_cell_at.nd rfl (Or.inl rfl) (ej_b (ob_fdiv ⟨by decide, by decide⟩) (ej_var (i := 2) rfl (Or.inl rfl) rfl) ej_int) fun _ => bj_nil ⟨_, rfl⟩
      · obtain ⟨y, rfl⟩ := hI
        rw [List.length_range]
        refine bj_ret (ej_b ob_add (ej_b ob_add (ej_b (ob_mul (.inr ⟨by decide, by decide⟩)) (ej_ixL (by rw [em]; exact atI_getD hlt) (ej_var (i := 0) rfl (Or.inl rfl) rfl) (ej_b (ob_mod (by rw [List.length_map]; omega)) (ej_var (i := 1) rfl (Or.inl rfl) rfl) (ej_cb cb_lenL rfl B.len bt_len (dj_cons (ej_var (i := 0) rfl (Or.inl rfl) rfl) dj_nil)))) ej_int) (ej_var (i := 1) rfl (Or.inl rfl) rfl)) (ej_b (ob_mul (.inr ⟨by decide, by decide⟩)) (ej_var (i := 2) rfl (Or.inl rfl) rfl) ej_int)) ⟨?_, rfl, rfl, trivial⟩
        unfold cellI
        rw [if_neg h', if_neg h2']
/-! _law_mixed -/
abbrev s_law_mixed : Stmt := topS 18
abbrev N_law_mixed : List Str := ["script", "k", "many", "spun"]
abbrev P_law_mixed : List Str := ["script", "k", "many"]
theorem sc_law_mixed : FnScope N_law_mixed P_law_mixed (defScope s_law_mixed) := ⟨rfl, rfl, rfl, by decide +kernel, rfl, by decide +kernel, by decide +kernel⟩
def mixI (ns : List Int) (k : Nat) (m : Int) : Int := ((((cellI ns k * 1103515245 + 7919 * (k : Int) + 12345) % 2147483647) ^ 5) % 2147483647) % 999983 % m
def mixN (ns : List Int) (k m : Nat) : Nat := (mixI ns k (m : Int)).toNat
theorem mix_nat {ns : List Int} {k m : Nat} (h : 0 < m) : mixI ns k (m : Int) = ((mixN ns k m : Nat) : Int) := by
  unfold mixN
  rw [Int.toNat_of_nonneg]
  exact Int.emod_nonneg _ (by omega)
theorem mix_lt {ns : List Int} {k m : Nat} (h : 0 < m) : mixN ns k m < m := by
  have h1 : mixI ns k (m : Int) < (m : Int) := Int.emod_lt_of_pos _ (by omega)
  rw [mix_nat h] at h1
  omega
def r_mixed : List Sl → Rs → List Sl → Prop := fun Γ r Γ' => ∃ ns k m, Γ = dats [scD ns, nI k, nI m] ∧ ns.length ≤ 63 ∧ k ≤ 1000000 ∧ 0 < m ∧ r = .dat (nI (mixN ns k m)) ∧ Γ' = Γ
theorem rl_mixed {ns : List Int} {k m : Nat} (h1 : ns.length ≤ 63) (h2 : k ≤ 1000000) (h3 : 0 < m) : r_mixed (dats [scD ns, nI k, nI m]) (.dat (nI (mixN ns k m))) (dats [scD ns, nI k, nI m]) := ⟨_, _, _, rfl, h1, h2, h3, rfl, rfl⟩
structure C_mixed (P : Program) (w : World) (K : PySem.W.Frag) (mg : Str → Option Value) (base : Heap) : Prop where
  law_cell_at : Cal P w K mg base 1 "_law_cell_at" (Ct K r_cell) []
theorem ok_law_mixed {P : Program} {w : World} {K : PySem.W.Frag} {mg : Str → Option Value} {base : Heap} {f : Addr} {fd : FuncData} {k : Nat} (F : Fun K "_law_mixed" "_law_mixed" s_law_mixed f fd) (B : Blt mg) (C : C_mixed P w K mg base) : FnOk P w K mg base CX0 (k + 2) f fd P_law_mixed (Ct K r_mixed) := by
  refine fn_ct (N := N_law_mixed) F sc_law_mixed (fun Γ r Γ' h => by obtain ⟨d, p, q, rfl, _⟩ := h; rfl) fun cdv A outer s H E hr Γ r Γ' h => ?_
  obtain ⟨ns, k, m, rfl, hn, hk, hm, rfl, rfl⟩ := h
  show BJ _ [.dat (scD ns), .dat (nI k), .dat (nI m), .un] _ _
  refine bj_set (i := 3) sc_law_mixed.nd rfl (Or.inl rfl) (ej_b (ob_mod (by first | decide | omega)) (ej_b ob_add (ej_b ob_add (ej_b (ob_mul (by first | exact .inr ⟨by decide, by decide⟩ | exact .inl ⟨by decide, by decide⟩)) (ej_callD C.law_cell_at hr (by omega) rfl (dj_cons (ej_var (i := 0) rfl (Or.inl rfl) rfl) (dj_cons (ej_var (i := 1) rfl (Or.inl rfl) rfl) dj_nil)) (rl_cell hn hk)) ej_int) (ej_b (ob_mul (by first | exact .inr ⟨by decide, by decide⟩ | exact .inl ⟨by decide, by decide⟩)) ej_int (ej_var (i := 1) rfl (Or.inl rfl) rfl))) ej_int) ej_int) fun _ => ?_
  have hs0 : 0 ≤ (cellI ns k * 1103515245 + 7919 * (k : Int) + 12345) % 2147483647 := Int.emod_nonneg _ (by decide)
  have hs1 : (cellI ns k * 1103515245 + 7919 * (k : Int) + 12345) % 2147483647 < 2147483647 := Int.emod_lt_of_pos _ (by decide)
  refine bj_ret (ej_b (ob_mod (by first | decide | omega)) (ej_b (ob_mod (by first | decide | omega)) (ej_b (ob_mod (by first | decide | omega)) (ej_b (ob_pow ⟨by decide, by decide, by omega⟩) (ej_var (i := 3) rfl (Or.inl rfl) rfl) ej_int) ej_int) ej_int) (ej_var (i := 2) rfl (Or.inl rfl) rfl)) ⟨?_, rfl, rfl, rfl, trivial⟩
  show Rs.dat (.int (mixI ns k (m : Int))) = _
  rw [mix_nat hm]
/-! _law_draw -/
abbrev s_law_draw : Stmt := topS 19
abbrev N_law_draw : List Str := ["script", "town", "many"]
abbrev P_law_draw : List Str := ["script", "town", "many"]
theorem sc_law_draw : FnScope N_law_draw P_law_draw (defScope s_law_draw) := ⟨rfl, rfl, rfl, by decide +kernel, rfl, by decide +kernel, by decide +kernel⟩
def zeros (t : Nat) : List PyData := List.replicate t (.int 0)
def r_draw : List Sl → Rs → List Sl → Prop := fun Γ r Γ' => ∃ ns p t m, Γ = [.dat (scD ns), .own p (.lst (zeros t)), .dat (nI m)] ∧ ns.length ≤ 63 ∧ t ≤ 100000 ∧ 0 < m ∧ r = .dat (nI (mixN ns (t + 1) m)) ∧ Γ' = [.dat (scD ns), .own p (.lst (zeros (t + 1))), .dat (nI m)]
theorem rl_draw {ns : List Int} {p : Addr} {t m : Nat} (h1 : ns.length ≤ 63) (h2 : t ≤ 100000) (h3 : 0 < m) : r_draw [.dat (scD ns), .own p (.lst (zeros t)), .dat (nI m)] (.dat (nI (mixN ns (t + 1) m))) [.dat (scD ns), .own p (.lst (zeros (t + 1))), .dat (nI m)] := ⟨_, _, _, _, rfl, h1, h2, h3, rfl, rfl⟩
structure C_draw (P : Program) (w : World) (K : PySem.W.Frag) (mg : Str → Option Value) (base : Heap) : Prop where
  law_mixed : Cal P w K mg base 2 "_law_mixed" (Ct K r_mixed) []
theorem ok_law_draw {P : Program} {w : World} {K : PySem.W.Frag} {mg : Str → Option Value} {base : Heap} {f : Addr} {fd : FuncData} {k : Nat} (F : Fun K "_law_draw" "_law_draw" s_law_draw f fd) (B : Blt mg) (C : C_draw P w K mg base) : FnOk P w K mg base CX0 (k + 3) f fd P_law_draw (Ct K r_draw) := by
  refine fn_ct (N := N_law_draw) F sc_law_draw (fun Γ r Γ' h => by obtain ⟨d, p, t, q, rfl, _⟩ := h; rfl) fun cdv A outer s H E hr Γ r Γ' h => ?_
  obtain ⟨ns, p, t, m, rfl, hn, ht, hm, rfl, rfl⟩ := h
  show BJ _ [.dat (scD ns), .own p (.lst (zeros t)), .dat (nI m)] _ _
  refine bj_append (i := 1) rfl (Or.inl rfl) ej_int ⟨_, rfl⟩ rfl ?_ ?_
  · unfold zeros
    rw [List.length_replicate]
    exact Nat.lt_of_le_of_lt ht (by decide)
  · have ez : zeros t ++ [.int 0] = zeros (t + 1) := by unfold zeros; rw [List.replicate_succ']
    rw [ez]
    show BJ _ [.dat (scD ns), .own p (.lst (zeros (t + 1))), .dat (nI m)] _ _
    have el : (zeros (t + 1)).length = t + 1 := by unfold zeros; rw [List.length_replicate]
    refine bj_ret (ej_lend [1] (ej_callD C.law_mixed hr (by omega) rfl (dj_cons (ej_var (i := 0) rfl (Or.inl rfl) rfl) (dj_cons (ej_cb cb_lenL rfl B.len bt_len (dj_cons (ej_var (i := 1) rfl (Or.inl rfl) rfl) dj_nil)) (dj_cons (ej_var (i := 2) rfl (Or.inl rfl) rfl) dj_nil))) (rl_mixed hn (by rw [el]; omega) hm)) rfl) ⟨?_, rfl, rfl, rfl, rfl, rfl, rfl, trivial⟩
    rw [el]
end G

namespace G
open PySem PySem.Spec PyProof.Rows L2 DL
/-! _law_pick -/
abbrev s_law_pick : Stmt := topS 21
abbrev N_law_pick : List Str := ["script", "town", "some"]
abbrev P_law_pick : List Str := ["script", "town", "some"]
theorem sc_law_pick : FnScope N_law_pick P_law_pick (defScope s_law_pick) := ⟨rfl, rfl, rfl, by decide +kernel, rfl, by decide +kernel, by decide +kernel⟩
def r_pick : List Sl → Rs → List Sl → Prop := fun Γ r Γ' => ∃ ns p t s ds d, Γ = [.dat (scD ns), .own p (.lst (zeros t)), s] ∧ (s = .dat (.list ds) ∨ ∃ q, s = .own q (.lst ds)) ∧ ns.length ≤ 63 ∧ t ≤ 100000 ∧ ds.length ≤ 1000000 ∧ ds[mixN ns (t + 1) ds.length]? = some d ∧ r = .dat d ∧ Γ' = [.dat (scD ns), .own p (.lst (zeros (t + 1))), s]
theorem rl_pickO {ns : List Int} {p q : Addr} {t : Nat} {ds : List PyData} {d : PyData} (h1 : ns.length ≤ 63) (h2 : t ≤ 100000) (h3 : ds.length ≤ 1000000) (h4 : ds[mixN ns (t + 1) ds.length]? = some d) : r_pick [.dat (scD ns), .own p (.lst (zeros t)), .own q (.lst ds)] (.dat d) [.dat (scD ns), .own p (.lst (zeros (t + 1))), .own q (.lst ds)] := ⟨_, _, _, _, _, _, rfl, .inr ⟨q, rfl⟩, h1, h2, h3, h4, rfl, rfl⟩
theorem rl_pickD {ns : List Int} {p : Addr} {t : Nat} {ds : List PyData} {d : PyData} (h1 : ns.length ≤ 63) (h2 : t ≤ 100000) (h3 : ds.length ≤ 1000000) (h4 : ds[mixN ns (t + 1) ds.length]? = some d) : r_pick [.dat (scD ns), .own p (.lst (zeros t)), .dat (.list ds)] (.dat d) [.dat (scD ns), .own p (.lst (zeros (t + 1))), .dat (.list ds)] := ⟨_, _, _, _, _, _, rfl, .inl rfl, h1, h2, h3, h4, rfl, rfl⟩
structure C_pick (P : Program) (w : World) (K : PySem.W.Frag) (mg : Str → Option Value) (base : Heap) : Prop where
  law_draw : Cal P w K mg base 3 "_law_draw" (Ct K r_draw) []
theorem ok_law_pick {P : Program} {w : World} {K : PySem.W.Frag} {mg : Str → Option Value} {base : Heap} {f : Addr} {fd : FuncData} {k : Nat} (F : Fun K "_law_pick" "_law_pick" s_law_pick f fd) (B : Blt mg) (C : C_pick P w K mg base) : FnOk P w K mg base CX0 (k + 4) f fd P_law_pick (Ct K r_pick) := by
  refine fn_ct (N := N_law_pick) F sc_law_pick (fun Γ r Γ' h => by obtain ⟨_, _, _, _, _, _, rfl, _⟩ := h; rfl) fun cdv A outer s H E hr Γ r Γ' h => ?_
  obtain ⟨ns, p, t, s, ds, d, rfl, hs, hn, ht, hl, hd, rfl, rfl⟩ := h
  have hpos : 0 < ds.length := by
    have := (List.getElem?_eq_some_iff.mp hd).1
    omega
  rcases hs with rfl | ⟨q, rfl⟩
  · show BJ _ [.dat (scD ns), .own p (.lst (zeros t)), .dat (.list ds)] _ _
    exact bj_ret (ej_ixL (atI_nat hd) (ej_var (i := 2) rfl (Or.inl rfl) rfl) (ej_call C.law_draw hr (by omega) rfl (aj_dat (ej_var (i := 0) rfl (Or.inl rfl) rfl) (aj_ref (i := 1) rfl (Or.inl rfl) rfl (aj_dat (ej_cb cb_lenL rfl B.len bt_len (dj_cons (ej_var (i := 2) rfl (Or.inl rfl) rfl) dj_nil)) aj_nil))) (rl_draw hn ht (by omega)) ⟨rfl, ⟨⟨_, _, _, rfl, rfl, rfl⟩, ⟨rfl, trivial⟩⟩⟩ (by simp [refs]))) ⟨rfl, rfl, rfl, rfl, rfl, rfl, rfl, trivial⟩
  · show BJ _ [.dat (scD ns), .own p (.lst (zeros t)), .own q (.lst ds)] _ _
    refine bj_ret (ej_ixO (i := 2) (atI_nat hd) rfl (Or.inl rfl) ⟨_, rfl⟩ (ej_call C.law_draw hr (by omega) rfl (aj_dat (ej_var (i := 0) rfl (Or.inl rfl) rfl) (aj_ref (i := 1) rfl (Or.inl rfl) rfl (aj_dat (ej_lend [2] (ej_cb cb_lenL rfl B.len bt_len (dj_cons (ej_var (i := 2) rfl (Or.inl rfl) rfl) dj_nil)) rfl) aj_nil))) (rl_draw hn ht (by omega)) ⟨rfl, ⟨_, _, _, rfl, rfl, rfl⟩, rfl, trivial⟩ (by simp [refs])) rfl) ⟨rfl, rfl, rfl, rfl, rfl, rfl, rfl, rfl, rfl, rfl, trivial⟩
/-! _law_some_order -/
abbrev s_law_some_order : Stmt := topS 22
abbrev N_law_some_order : List Str := ["script", "town", "most", "count", "rare", "left", "names", "again", "one", "above", "at", "other", "point", "some"]
abbrev P_law_some_order : List Str := ["script", "town", "most"]
theorem sc_law_some_order : FnScope N_law_some_order P_law_some_order (defScope s_law_some_order) := ⟨rfl, rfl, rfl, by decide +kernel, rfl, by decide +kernel, by decide +kernel⟩
def pre_some : List Sl → Prop := fun Γ => ∃ ns p t m, Γ = [.dat (scD ns), .own p (.lst (zeros t)), .dat (nI m)] ∧ ns.length ≤ 63 ∧ t ≤ 90000 ∧ 1 ≤ m ∧ m ≤ 8
def post_some : List Sl → Rs → List Sl → Prop := fun Γ r Γ' => ∃ ns p t m t' o, Γ = [.dat (scD ns), .own p (.lst (zeros t)), .dat (nI m)] ∧ MO.IsOrder o ∧ o.length ≤ m ∧ t ≤ t' ∧ t' ≤ t + 100 ∧ r = .dat (ordD o) ∧ Γ' = [.dat (scD ns), .own p (.lst (zeros t')), .dat (nI m)]
structure C_some (P : Program) (w : World) (K : PySem.W.Frag) (mg : Str → Option Value) (base : Heap) : Prop where
  law_draw : Cal P w K mg base 3 "_law_draw" (Ct K r_draw) []
  law_pick : Cal P w K mg base 4 "_law_pick" (Ct K r_pick) []
abbrev lsD (r : List Nat) : PyData := .list (r.map nI)
theorem lfs_nI (r : List Nat) : lfs (r.map nI) = true := lf_map fun _ _ => rfl
theorem szA {r : List Nat} {b : Nat} (h : r.length ≤ 128) : (r.map nI).length + [nI b].length ≤ sizeLine := by
  rw [List.length_map]
  exact Nat.le_trans (Nat.add_le_add_right h 1) (by decide)
theorem szB {r s : List Nat} (h : r.length ≤ 129) (h2 : s.length ≤ 128) : (r.map nI).length + (s.map nI).length ≤ sizeLine := by
  rw [List.length_map, List.length_map]
  exact Nat.le_trans (Nat.add_le_add h h2) (by decide)
theorem lfs_app : ∀ {a b : List PyData}, lfs a = true → lfs b = true → lfs (a ++ b) = true
  | [], _, _, h => h
  | x :: r, b, h1, h2 => by
    have h1' : (lf x && lfs r) = true := h1
    rw [Bool.and_eq_true] at h1'
    show (lf x && lfs (r ++ b)) = true
    rw [h1'.1, lfs_app h1'.2 h2]
    rfl
theorem atI_at {m : List Nat} {b : Nat} (h : b < m.length) : atI (m.map nI) (b : Int) = some (nI (MO.at_ m b)) := by
  rw [atI_map h]
  show some (nI m[b]) = some (nI (m.getD b 0))
  rw [List.getD_eq_getElem?_getD, List.getElem?_eq_getElem h]
  rfl
theorem atI_row {A : List (List Nat)} {v : Nat} (h : v < A.length) : atI (A.map lsD) (v : Int) = some (lsD (MO.row A v)) := by
  rw [atI_map h, MO.row_get (List.getElem?_eq_getElem h)]
theorem ok_law_some_order {P : Program} {w : World} {K : PySem.W.Frag} {mg : Str → Option Value} {base : Heap} {f : Addr} {fd : FuncData} {k : Nat} (F : Fun K "_law_some_order" "_law_some_order" s_law_some_order f fd) (B : Blt mg) (C : C_some P w K mg base) : FnOk P w K mg base CX0 (k + 5) f fd P_law_some_order (CtN K pre_some post_some) := by
  refine fn_ctN (N := N_law_some_order) F sc_law_some_order (fun Γ h => by obtain ⟨_, _, _, _, rfl, _⟩ := h; rfl) fun cdv A outer s H E hr Γ h => ?_
  obtain ⟨ns, p, t, m, rfl, hn, ht0, hm1, hm8⟩ := h
  show BJ _ [.dat (scD ns), .own p (.lst (zeros t)), .dat (nI m), .un, .un, .un, .un, .un, .un, .un, .un, .un, .un, .un] _ _
  have ht : t ≤ 100000 := by omega
  have hd := mix_lt (ns := ns) (k := t + 1) (m := m) (by omega)
  refine bj_set (i := 3) sc_law_some_order.nd rfl (Or.inl rfl) (ej_is (r' := .dat (nI (1 + mixN ns (t + 1) m))) (ej_b ob_add ej_int (ej_call C.law_draw hr (by omega) rfl (aj_dat (ej_var (i := 0) rfl (Or.inl rfl) rfl) (aj_ref (i := 1) rfl (Or.inl rfl) rfl (aj_dat (ej_var (i := 2) rfl (Or.inl rfl) rfl) aj_nil))) (rl_draw hn ht (by omega)) ⟨rfl, ⟨⟨_, _, _, rfl, rfl, rfl⟩, ⟨rfl, trivial⟩⟩⟩ (by simp [refs]))) (by show Rs.dat (.int (1 + ((_ : Nat) : Int))) = Rs.dat (.int _); congr 2)) fun _ => ?_
  generalize hc : 1 + mixN ns (t + 1) m = c
  have hc1 : 1 ≤ c := by omega
  have hc8 : c ≤ m := by omega
  clear hd
  refine bj_set (i := 4) sc_law_some_order.nd rfl (Or.inl rfl) (ej_is (r' := .dat (nI (2 + mixN ns (t + 2) 4))) (ej_b ob_add ej_int (ej_call C.law_draw hr (by omega) rfl (aj_dat (ej_var (i := 0) rfl (Or.inl rfl) rfl) (aj_ref (i := 1) rfl (Or.inl rfl) rfl (aj_dat ej_int aj_nil))) (rl_draw hn (by omega) (by decide)) ⟨rfl, ⟨⟨_, _, _, rfl, rfl, rfl⟩, ⟨rfl, trivial⟩⟩⟩ (by simp [refs]))) (by show Rs.dat (.int (2 + ((_ : Nat) : Int))) = Rs.dat (.int _); congr 2)) fun _ => ?_
  have hrare : 0 < 2 + mixN ns (t + 2) 4 := by omega
  generalize 2 + mixN ns (t + 2) 4 = rare at hrare
  show BJ _ [.dat (scD ns), .own p (.lst (zeros (t + 2))), .dat (nI m), .dat (nI c), .dat (nI rare), .un, .un, .un, .un, .un, .un, .un, .un, .un] _ _
  refine bj_parL (i := 5) (j := 6) rfl sc_law_some_order.nd rfl rfl (by decide) rfl rfl (ej_listRange rfl rfl B.list rfl B.range (ej_var (i := 3) rfl (Or.inl rfl) rfl) (by omega)) (ej_lst dj_nil) (fun ql qm => ?_)
  show BJ _ [.dat (scD ns), .own p (.lst (zeros (t + 2))), .dat (nI m), .dat (nI c), .dat (nI rare), .own ql (.lst ((List.range c).map nI)), .own qm (.lst []), .un, .un, .un, .un, .un, .un, .un] _ _
  refine bj_forM (T := .nm 7) PassesOwn.never rfl (wj_range1m rfl B.range (dj_cons (ej_var (i := 3) rfl (Or.inl rfl) rfl) dj_nil) (by omega)) (tgp_nm (i := 7) sc_law_some_order.nd rfl (Or.inl rfl)) (fun i G => ∃ l nm y8 y9, G = [.dat (scD ns), .own p (.lst (zeros (t + 2 + i))), .dat (nI m), .dat (nI c), .dat (nI rare), .own ql (.lst (l.map nI)), .own qm (.lst (nm.map nI)), y8, y9, .un, .un, .un, .un, .un] ∧ (nm ++ l).Perm (List.range c) ∧ nm.length = i) ⟨List.range c, [], _, _, rfl, List.Perm.refl _, rfl⟩ (fun i x G hx hI => ⟨trivial, ?_⟩) (fun G hI => ?_)
  · obtain ⟨l, nm, y8, y9, rfl, hp, hi⟩ := hI
    have hic : i < c := by
      have := (List.getElem?_eq_some_iff.mp hx).1
      rwa [List.length_range] at this
    have hll : l.length = c - i := by
      have := hp.length_eq
      rw [List.length_append, List.length_range] at this
      omega
    have hlt : mixN ns (t + 2 + i + 1) l.length < l.length := mix_lt (by omega)
    generalize hj : mixN ns (t + 2 + i + 1) l.length = j at hlt
    have hjl : (l.map nI)[mixN ns (t + 2 + i + 1) (l.map nI).length]? = some (nI l[j]) := by
      rw [List.length_map, hj, List.getElem?_map, List.getElem?_eq_getElem hlt]
      rfl
    refine bj_set (i := 8) sc_law_some_order.nd rfl (Or.inl rfl) (ej_call C.law_pick hr (by omega) rfl (aj_dat (ej_var (i := 0) rfl (Or.inl rfl) rfl) (aj_ref (i := 1) rfl (Or.inl rfl) rfl (aj_ref (i := 5) rfl (Or.inl rfl) rfl aj_nil))) (rl_pickO hn (by omega) (by rw [List.length_map]; omega) hjl) ⟨rfl, ⟨⟨_, _, _, rfl, rfl, rfl⟩, ⟨⟨_, _, _, rfl, rfl, rfl⟩, trivial⟩⟩⟩ (by simp [refs])) fun _ => ?_
    have hmem : l[j] ∈ l := List.getElem_mem hlt
    generalize l[j] = v at hmem
    show BJ _ [.dat (scD ns), .own p (.lst (zeros (t + 2 + i + 1))), .dat (nI m), .dat (nI c), .dat (nI rare), .own ql (.lst (l.map nI)), .own qm (.lst (nm.map nI)), .dat (nI x), .dat (nI v), .un, .un, .un, .un, .un] _ _
    refine bj_expr (ej_om PySem.F.slot_list_remove PySem.F.type_list_remove mt_remove (om_remove hmem) (i := 5) rfl (Or.inl rfl) (dj_cons (ej_var (i := 8) rfl (Or.inl rfl) rfl) dj_nil) ⟨_, rfl⟩ rfl) ?_
    refine bj_append (i := 6) rfl (Or.inl rfl) (ej_var (i := 8) rfl (Or.inl rfl) rfl) ⟨_, rfl⟩ rfl (by rw [List.length_map]; exact Nat.lt_of_lt_of_le (show nm.length < 8 by omega) (by decide)) (bj_nil ⟨l.erase v, nm ++ [v], .dat (nI x), .dat (nI v), ?_, ?_, ?_⟩)
    · show [Sl.dat (scD ns), .own p (.lst (zeros (t + 2 + i + 1))), .dat (nI m), .dat (nI c), .dat (nI rare), .own ql (.lst ((l.erase v).map nI)), .own qm (.lst (nm.map nI ++ [nI v])), .dat (nI x), .dat (nI v), .un, .un, .un, .un, .un] = _
      rw [List.map_append]
      rfl
    · refine List.Perm.trans ?_ hp
      rw [List.append_assoc]
      exact List.Perm.append_left nm (List.perm_cons_erase hmem).symm
    · rw [List.length_append, hi]; rfl
  · obtain ⟨l, nm, y8, y9, rfl, hp, hi⟩ := hI
    rw [List.length_range] at hi ⊢
    have hl0 : l = [] := by
      have := hp.length_eq
      rw [List.length_append, List.length_range] at this
      exact List.eq_nil_of_length_eq_zero (by omega)
    subst hl0
    rw [List.append_nil] at hp
    have N := MO.names_of hp
    have hset : ∀ {Γ0 : List Sl} (rest : List Stmt) (kk : Kt), True := fun _ _ => trivial
    refine bj_setLc (T := .nm 12) (own := [("point", 12)]) (fun _ => true) (fun _ => lsD []) rfl sc_law_some_order.nd (i := 9) rfl rfl (sw_true rfl rfl rfl (by decide +kernel)) (wj_range1m rfl B.range (dj_cons (ej_var (i := 3) rfl (Or.inl rfl) rfl) dj_nil) (by omega)) (blkOk_by (own := [("point", 12)]) (N := N_law_some_order) (sc := defScope s_law_some_order) (by decide +kernel)) (by decide) (fun _ _ _ _ _ => tgp_nm (i := 12) sc_law_some_order.nd rfl (Or.inl rfl)) (fun _ _ => trivial) (fun _ _ _ _ _ _ _ => ts_nil) (fun _ _ _ _ _ _ _ _ => ej_frz (ej_lst dj_nil)) rfl (by rw [List.length_range]; omega) (fun qa => ?_)
    have e0 : ((List.range c).filter fun _ => true).map (fun _ => lsD []) = (List.replicate c ([] : List Nat)).map lsD := by
      rw [List.filter_eq_self.mpr (fun _ _ => rfl), List.map_const', List.length_range, List.map_replicate]
    rw [e0]
    show BJ _ [.dat (scD ns), .own p (.lst (zeros (t + 2 + c))), .dat (nI m), .dat (nI c), .dat (nI rare), .own ql (.lst []), .own qm (.lst (nm.map nI)), y8, y9, .own qa (.lst ((List.replicate c ([] : List Nat)).map lsD)), .un, .un, .un, .un] _ _
    refine bj_forM (T := .nm 10) PassesOwn.never rfl (wj_rangeDown (n := c) rfl B.range (dj_cons (ej_b ob_sub (ej_var (i := 3) rfl (Or.inl rfl) rfl) ej_int) (dj_cons (ej_neg ej_int) (dj_cons (ej_neg ej_int) dj_nil))) (by omega)) (tgp_nm (i := 10) sc_law_some_order.nd rfl (Or.inl rfl)) (fun i G => ∃ A t' y10 y11, G = [.dat (scD ns), .own p (.lst (zeros t')), .dat (nI m), .dat (nI c), .dat (nI rare), .own ql (.lst []), .own qm (.lst (nm.map nI)), y8, y9, .own qa (.lst (A.map lsD)), y10, y11, .un, .un] ∧ MO.Part c nm (c - i) c A ∧ t + 2 + c ≤ t' ∧ t' ≤ t + 2 + c + i * 8) ⟨_, t + 2 + c, _, _, rfl, by rw [Nat.sub_zero]; exact MO.part_start, Nat.le_refl _, by omega⟩ (fun i a G ha hI => ⟨trivial, ?_⟩) (fun G hI => ?_)
    · obtain ⟨A, t', y10, y11, rfl, hP, ht1, ht2⟩ := hI
      obtain ⟨hic, rfl⟩ : i < c ∧ a = c - 1 - i := by
        unfold downFrom at ha
        rw [List.getElem?_map] at ha
        have hic : i < c := by
          cases e : (List.range c)[i]? with
          | none => rw [e] at ha; cases ha
          | some z =>
            have := (List.getElem?_eq_some_iff.mp e).1
            rwa [List.length_range] at this
        rw [List.getElem?_range hic] at ha
        exact ⟨hic, (Option.some.inj ha).symm⟩
      generalize ea : c - 1 - i = a
      have hac : a < c := by omega
      have hP1 : MO.Part c nm a (a + 1) A := MO.part_next (by rw [show a + 1 = c - i by omega]; exact hP) hac
      show BJ _ [.dat (scD ns), .own p (.lst (zeros t')), .dat (nI m), .dat (nI c), .dat (nI rare), .own ql (.lst []), .own qm (.lst (nm.map nI)), y8, y9, .own qa (.lst (A.map lsD)), .dat (nI a), y11, .un, .un] _ _
      refine bj_forM (T := .nm 11) PassesOwn.never rfl (wj_range2m (lo := a + 1) (n := c) rfl B.range (dj_cons (ej_is (ej_b ob_add (ej_var (i := 10) rfl (Or.inl rfl) rfl) ej_int) rfl) (dj_cons (ej_var (i := 3) rfl (Or.inl rfl) rfl) dj_nil)) ⟨by omega, by omega⟩) (tgp_nm (i := 11) sc_law_some_order.nd rfl (Or.inl rfl)) (fun j G => ∃ A t'' y11, G = [.dat (scD ns), .own p (.lst (zeros t'')), .dat (nI m), .dat (nI c), .dat (nI rare), .own ql (.lst []), .own qm (.lst (nm.map nI)), y8, y9, .own qa (.lst (A.map lsD)), .dat (nI a), y11, .un, .un] ∧ MO.Part c nm a (a + 1 + j) A ∧ t' ≤ t'' ∧ t'' ≤ t' + j) ⟨A, t', _, rfl, hP1, Nat.le_refl _, Nat.le_refl _⟩ (fun j e G he hJ => ⟨trivial, ?_⟩) (fun G hJ => ?_)
      · obtain ⟨A, t'', y11, rfl, hP, ht3, ht4⟩ := hJ
        obtain ⟨hjc, rfl⟩ : j < c - (a + 1) ∧ e = a + 1 + j := by
          have hj := (List.getElem?_eq_some_iff.mp he).1
          rw [List.length_range'] at hj
          rw [List.getElem?_range' hj] at he
          exact ⟨hj, by simpa using he.symm⟩
        generalize ee : a + 1 + j = e at hP
        have hae : a < e := by omega
        have hec : e < c := by omega
        have hal : a < nm.length := by omega
        have hel : e < nm.length := by omega
        have hva : MO.at_ nm a < A.length := by rw [hP.len]; exact N.lt a hac
        have hve : MO.at_ nm e < A.length := by rw [hP.len]; exact N.lt e hec
        have hpw : 2 ^ (c - 1 - a) ≤ 2 ^ 7 := Nat.pow_le_pow_right (by decide) (by omega)
        have hra : (MO.row A (MO.at_ nm a)).length ≤ 128 := Nat.le_trans (Nat.le_trans (Nat.le_add_right _ _) (hP.sz0 hac)) hpw
        have hre : (MO.row A (MO.at_ nm e)).length ≤ 128 := by
          have z := Nat.pow_le_pow_right (n := 2) (by decide) (show c - 1 - e ≤ 7 by omega)
          exact Nat.le_trans (Nat.le_trans (Nat.le_add_right _ _) (hP.sz e hae hec)) z
        show BJ _ [.dat (scD ns), .own p (.lst (zeros t'')), .dat (nI m), .dat (nI c), .dat (nI rare), .own ql (.lst []), .own qm (.lst (nm.map nI)), y8, y9, .own qa (.lst (A.map lsD)), .dat (nI a), .dat (nI e), .un, .un] _ _
        by_cases hin : (MO.row A (MO.at_ nm a)).contains (MO.at_ nm e) = true
        · refine bj_if (tj_w (wj_andF (tj_lendT [6, 9] (tj_k ob_ninLn (ej_ixL (by first | exact atI_row hva | exact atI_row hve | exact atI_at hal | exact atI_at hel) (ej_var (i := 6) rfl (Or.inl rfl) rfl) (ej_var (i := 11) rfl (Or.inl rfl) rfl)) (ej_ixL (by first | exact atI_row hva | exact atI_row hve | exact atI_at hal | exact atI_at hel) (ej_var (i := 9) rfl (Or.inl rfl) rfl) (ej_ixL (by first | exact atI_row hva | exact atI_row hve | exact atI_at hal | exact atI_at hel) (ej_var (i := 6) rfl (Or.inl rfl) rfl) (ej_var (i := 10) rfl (Or.inl rfl) rfl))))) (by rw [hin]; rfl))) (fun h => nomatch h) (fun _ => bj_nil (bj_nil ⟨A, t'', .dat (nI e), rfl, by rw [show a + 1 + (j + 1) = e + 1 by omega]; exact MO.part_skip hP, by omega, by omega⟩))
        · have hin' : (MO.row A (MO.at_ nm a)).contains (MO.at_ nm e) = false := by simpa using hin
          refine bj_if (b0 := decide (mixN ns (t'' + 1) rare = 0)) (tj_is (tj_w (wj_and (tj_lendT [6, 9] (tj_k ob_ninLn (ej_ixL (by first | exact atI_row hva | exact atI_row hve | exact atI_at hal | exact atI_at hel) (ej_var (i := 6) rfl (Or.inl rfl) rfl) (ej_var (i := 11) rfl (Or.inl rfl) rfl)) (ej_ixL (by first | exact atI_row hva | exact atI_row hve | exact atI_at hal | exact atI_at hel) (ej_var (i := 9) rfl (Or.inl rfl) rfl) (ej_ixL (by first | exact atI_row hva | exact atI_row hve | exact atI_at hal | exact atI_at hel) (ej_var (i := 6) rfl (Or.inl rfl) rfl) (ej_var (i := 10) rfl (Or.inl rfl) rfl))))) (fun _ => wj_and1 (tj_k (ob_eq hr.units rfl rfl) (ej_call C.law_draw hr (by omega) rfl (aj_dat (ej_var (i := 0) rfl (Or.inl rfl) rfl) (aj_ref (i := 1) rfl (Or.inl rfl) rfl (aj_dat (ej_var (i := 4) rfl (Or.inl rfl) rfl) aj_nil))) (rl_draw hn (by omega) hrare) ⟨rfl, ⟨⟨_, _, _, rfl, rfl, rfl⟩, ⟨rfl, trivial⟩⟩⟩ (by simp [refs])) ej_int)) (by intro h; rw [hin'] at h; cases h))) (by rw [hin']; show (true && PyData.eqv (nI _) (nI 0)) = _; rw [eqv_nI, Bool.true_and])) (fun _ => ?_) (fun _ => bj_nil (bj_nil ⟨A, t'' + 1, .dat (nI e), rfl, by rw [show a + 1 + (j + 1) = e + 1 by omega]; exact MO.part_skip hP, by omega, by omega⟩))
          show BJ _ [.dat (scD ns), .own p (.lst (zeros (t'' + 1))), .dat (nI m), .dat (nI c), .dat (nI rare), .own ql (.lst []), .own qm (.lst (nm.map nI)), y8, y9, .own qa (.lst (A.map lsD)), .dat (nI a), .dat (nI e), .un, .un] _ _
          have eix : ∀ B : List (List Nat), B.length = c → ixN (B.map lsD).length ((MO.at_ nm a : Nat) : Int) = some (MO.at_ nm a) := fun B hB => by
            unfold ixN
            rw [List.length_map, hB, if_pos (by omega), if_pos (by have := N.lt a hac; omega)]
            simp
          refine bj_setitem (pos' := ⟨0, 0, 0, 0⟩) (i := 9) rfl (Or.inl rfl) (ej_frz (ej_lend [6, 9] (ej_b (ob_catL (szA hra)) (ej_ixL (by first | exact atI_row hva | exact atI_row hve | exact atI_at hal | exact atI_at hel) (ej_var (i := 9) rfl (Or.inl rfl) rfl) (ej_ixL (by first | exact atI_row hva | exact atI_row hve | exact atI_at hal | exact atI_at hel) (ej_var (i := 6) rfl (Or.inl rfl) rfl) (ej_var (i := 10) rfl (Or.inl rfl) rfl))) (ej_frz (ej_lst (dj_cons (ej_ixL (by first | exact atI_row hva | exact atI_row hve | exact atI_at hal | exact atI_at hel) (ej_var (i := 6) rfl (Or.inl rfl) rfl) (ej_var (i := 11) rfl (Or.inl rfl) rfl)) dj_nil) (Nat.le_of_ble_eq_true rfl)))) ?_)) (ej_lend [6] (ej_ixL (by first | exact atI_row hva | exact atI_row hve | exact atI_at hal | exact atI_at hel) (ej_var (i := 6) rfl (Or.inl rfl) rfl) (ej_var (i := 10) rfl (Or.inl rfl) rfl)) rfl) ⟨_, rfl⟩ rfl (eix A hP.len) ?_ (pg_sub (pe_var (i := 9) rfl (Or.inl rfl)) (ej_lend [6] (ej_ixL (by first | exact atI_row hva | exact atI_row hve | exact atI_at hal | exact atI_at hel) (ej_var (i := 6) rfl (Or.inl rfl) rfl) (ej_var (i := 10) rfl (Or.inl rfl) rfl)) rfl) set_list)
          · exact lfs_app (lfs_nI _) (lfs_nI [MO.at_ nm e])
          · have eA : (A.map lsD).set (MO.at_ nm a) (.list ((MO.row A (MO.at_ nm a)).map nI ++ [nI (MO.at_ nm e)])) = (A.set (MO.at_ nm a) (MO.row A (MO.at_ nm a) ++ [MO.at_ nm e])).map lsD := by
              rw [List.map_set]
              show _ = (A.map lsD).set _ (.list ((MO.row A (MO.at_ nm a) ++ [MO.at_ nm e]).map nI))
              rw [List.map_append]
              rfl
            have hne : MO.at_ nm e ≠ MO.at_ nm a := fun z => by
              have := N.inj e a hec hac z
              omega
            generalize hA2 : A.set (MO.at_ nm a) (MO.row A (MO.at_ nm a) ++ [MO.at_ nm e]) = A2 at eA
            have hl2 : A2.length = c := by rw [← hA2, List.length_set, hP.len]
            have r1 : MO.row A2 (MO.at_ nm a) = MO.row A (MO.at_ nm a) ++ [MO.at_ nm e] := by rw [← hA2, MO.row_set hva, if_pos rfl]
            have r2 : MO.row A2 (MO.at_ nm e) = MO.row A (MO.at_ nm e) := by rw [← hA2, MO.row_set hva, if_neg hne]
            have hva2 : MO.at_ nm a < A2.length := by rw [hl2, ← hP.len]; exact hva
            have hve2 : MO.at_ nm e < A2.length := by rw [hl2, ← hP.len]; exact hve
            have hr1 : (MO.row A2 (MO.at_ nm a)).length ≤ 129 := by rw [r1, List.length_append]; exact Nat.add_le_add_right hra 1
            have hr2 : (MO.row A2 (MO.at_ nm e)).length ≤ 128 := by rw [r2]; exact hre
            show BJ _ [.dat (scD ns), .own p (.lst (zeros (t'' + 1))), .dat (nI m), .dat (nI c), .dat (nI rare), .own ql (.lst []), .own qm (.lst (nm.map nI)), y8, y9, .own qa (.lst ((A.map lsD).set (MO.at_ nm a) (.list ((MO.row A (MO.at_ nm a)).map nI ++ [nI (MO.at_ nm e)])))), .dat (nI a), .dat (nI e), .un, .un] _ _
            rw [eA]
            refine bj_setitem (pos' := ⟨0, 0, 0, 0⟩) (i := 9) rfl (Or.inl rfl) (ej_frz (ej_lend [6, 9] (ej_b (ob_catL (szB hr1 hr2)) (ej_ixL (by first | exact atI_row hva2 | exact atI_row hve2 | exact atI_at hal | exact atI_at hel) (ej_var (i := 9) rfl (Or.inl rfl) rfl) (ej_ixL (by first | exact atI_row hva2 | exact atI_row hve2 | exact atI_at hal | exact atI_at hel) (ej_var (i := 6) rfl (Or.inl rfl) rfl) (ej_var (i := 10) rfl (Or.inl rfl) rfl))) (ej_ixL (by first | exact atI_row hva2 | exact atI_row hve2 | exact atI_at hal | exact atI_at hel) (ej_var (i := 9) rfl (Or.inl rfl) rfl) (ej_ixL (by first | exact atI_row hva2 | exact atI_row hve2 | exact atI_at hal | exact atI_at hel) (ej_var (i := 6) rfl (Or.inl rfl) rfl) (ej_var (i := 11) rfl (Or.inl rfl) rfl)))) ?_)) (ej_lend [6] (ej_ixL (by first | exact atI_row hva2 | exact atI_row hve2 | exact atI_at hal | exact atI_at hel) (ej_var (i := 6) rfl (Or.inl rfl) rfl) (ej_var (i := 10) rfl (Or.inl rfl) rfl)) rfl) ⟨_, rfl⟩ rfl (eix A2 hl2) ?_ (pg_sub (pe_var (i := 9) rfl (Or.inl rfl)) (ej_lend [6] (ej_ixL (by first | exact atI_row hva2 | exact atI_row hve2 | exact atI_at hal | exact atI_at hel) (ej_var (i := 6) rfl (Or.inl rfl) rfl) (ej_var (i := 10) rfl (Or.inl rfl) rfl)) rfl) set_list)
            · exact lfs_app (lfs_nI _) (lfs_nI _)
            · have eB : (A2.map lsD).set (MO.at_ nm a) (.list ((MO.row A2 (MO.at_ nm a)).map nI ++ (MO.row A2 (MO.at_ nm e)).map nI)) = (A.set (MO.at_ nm a) ((MO.row A (MO.at_ nm a) ++ [MO.at_ nm e]) ++ MO.row A (MO.at_ nm e))).map lsD := by
                rw [← List.map_append, r1, r2, ← hA2, List.map_set, List.map_set, List.set_set]
              show BJ _ [.dat (scD ns), .own p (.lst (zeros (t'' + 1))), .dat (nI m), .dat (nI c), .dat (nI rare), .own ql (.lst []), .own qm (.lst (nm.map nI)), y8, y9, .own qa (.lst ((A2.map lsD).set (MO.at_ nm a) (.list ((MO.row A2 (MO.at_ nm a)).map nI ++ (MO.row A2 (MO.at_ nm e)).map nI)))), .dat (nI a), .dat (nI e), .un, .un] _ _
              rw [eB]
              exact bj_nil (bj_nil ⟨_, t'' + 1, .dat (nI e), rfl, by rw [show a + 1 + (j + 1) = e + 1 by omega]; exact MO.part_add N hP hae hec, by omega, by omega⟩)
      · obtain ⟨A, t'', y11, rfl, hP, ht3, ht4⟩ := hJ
        rw [List.length_range'] at hP ht4
        refine bj_nil ⟨A, t'', .dat (nI a), y11, rfl, ?_, by omega, by omega⟩
        rw [show c - (i + 1) = a by omega]
        rwa [show a + 1 + (c - (a + 1)) = c by omega] at hP
    · obtain ⟨A, t', y10, y11, rfl, hP, ht1, ht2⟩ := hI
      have hP0 : MO.Part c nm 0 c A := by rwa [show c - (downFrom c).length = 0 by unfold downFrom; rw [List.length_map, List.length_range]; omega] at hP
      have hrow : ∀ r ∈ A, r.length ≤ 1000 ∧ ∀ x ∈ r, x < c := fun r hr => by
        obtain ⟨v, hv, rfl⟩ := List.getElem_of_mem hr
        obtain ⟨b, hb, hbv⟩ := N.sur v (by rw [← hP0.len]; exact hv)
        have e1 : MO.row A (MO.at_ nm b) = A[v] := by rw [hbv]; exact MO.row_get (List.getElem?_eq_getElem hv)
        refine ⟨?_, fun x hx => ?_⟩
        · have z := Nat.pow_le_pow_right (n := 2) (by decide) (show c - 1 - b ≤ 7 by omega)
          rw [← e1]
          by_cases hb0 : b = 0
          · subst hb0
            exact Nat.le_trans (Nat.le_trans (Nat.le_trans (Nat.le_add_right _ _) (hP0.sz0 (by omega))) z) (by decide)
          · exact Nat.le_trans (Nat.le_trans (Nat.le_trans (Nat.le_add_right _ _) (hP0.sz b (by omega) hb)) z) (by decide)
        · rw [← e1] at hx
          obtain ⟨e, _, he, rfl⟩ := hP0.up b (by omega) hb x hx
          exact N.lt e he
      have hAl := hP0.len
      refine bj_ret (ej_is (r' := .dat (ordD (A.map (asc c)))) (ej_lend [9] (ej_ct cb_tupleL rfl B.tuple bt_tuple (dj_cons (ej_frz (ej_lcM rfl sc_law_some_order.nd (wj_list (ej_var (i := 9) rfl (Or.inl rfl) rfl)) (blkOk_by (own := [("some", 13)]) (N := N_law_some_order) (sc := defScope s_law_some_order) (by decide +kernel)) (by decide) (fun _ _ _ _ _ => (tgp_nm (i := 13) sc_law_some_order.nd rfl (Or.inl rfl))) (fun _ _ => trivial) (fun x0 hx0 _ _ _ _ _ => (ej_ct cb_tupleL rfl B.tuple bt_tuple (dj_cons (ej_frz (ej_sortedSet rfl rfl B.sorted rfl B.set (.inl rfl) (ej_var (i := 13) rfl (Or.inl rfl) rfl) (hrow _ hx0).2 (hrow _ hx0).1)) dj_nil))) rfl (by omega))) dj_nil)) (lf_map fun _ _ => lfs_nI _)) (by show Rs.dat (.tuple _) = Rs.dat (.tuple _); rw [List.map_map]; rfl)) ?_
      refine ⟨_, ⟨ns, p, t, m, t', _, rfl, MO.part_end N hP0 hc1 (by omega), by rw [List.length_map]; omega, by omega, ?_, rfl, rfl⟩, ⟨rfl, rfl, rfl, rfl, rfl, rfl, trivial⟩⟩
      have : (downFrom c).length = c := by unfold downFrom; rw [List.length_map, List.length_range]
      rw [this] at ht2
      omega
end G

namespace G
open PySem PySem.Spec PyProof.Rows L2 DL
/-! _law_same_truth -/
abbrev s_law_same_truth : Stmt := topS 20
abbrev N_law_same_truth : List Str := ["got", "due"]
abbrev P_law_same_truth : List Str := ["got", "due"]
theorem sc_law_same_truth : FnScope N_law_same_truth P_law_same_truth (defScope s_law_same_truth) := ⟨rfl, rfl, rfl, by decide +kernel, rfl, by decide +kernel, by decide +kernel⟩
def r_same : List Sl → Rs → List Sl → Prop := fun Γ r Γ' => ∃ b c, Γ = dats [.bool b, .bool c] ∧ r = .dat (.bool (decide (b = c))) ∧ Γ' = Γ
theorem rl_same {b c : Bool} : r_same (dats [.bool b, .bool c]) (.dat (.bool (decide (b = c)))) (dats [.bool b, .bool c]) := ⟨_, _, rfl, rfl, rfl⟩
theorem ok_law_same_truth {P : Program} {w : World} {K : PySem.W.Frag} {mg : Str → Option Value} {base : Heap} {f : Addr} {fd : FuncData} {k : Nat} (F : Fun K "_law_same_truth" "_law_same_truth" s_law_same_truth f fd) (B : Blt mg) : FnOk P w K mg base CX0 (k + 1) f fd P_law_same_truth (Ct K r_same) := by
  refine fn_ct (N := N_law_same_truth) F sc_law_same_truth (fun Γ r Γ' h => by obtain ⟨b, c, rfl, _⟩ := h; rfl) fun cdv A outer s H E hr Γ r Γ' h => ?_
  obtain ⟨b, c, rfl, rfl, rfl⟩ := h
  show BJ _ [.dat (.bool b), .dat (.bool c)] _ _
  refine bj_ret (ej_and (ej_isi (kit_bool _) rfl B.isinstance rfl B.bool bt_bool (ej_var (i := 0) rfl (Or.inl rfl) rfl)) fun h0 => (ej_one (ej_k (ob_eq hr.units rfl rfl) (ej_var (i := 0) rfl (Or.inl rfl) rfl) (ej_var (i := 1) rfl (Or.inl rfl) rfl)))) ⟨?_, rfl, rfl, trivial⟩
  rw [eqv_bool]
  rfl
/-! facts of this law -/
theorem cut_last {α : Type} (xs : List α) : DL.cutD xs none (some (-1)) = xs.dropLast := by
  unfold DL.cutD
  rw [HT.sIx_none, List.drop_zero, Nat.sub_zero, List.dropLast_eq_take]
  congr 1
  cases xs with
  | nil => rfl
  | cons a r =>
    unfold HT.sIx
    simp
    try omega
theorem atI_last {α β : Type} {f : α → β} {xs : List α} (h : xs ≠ []) : atI (xs.map f) (-1) = some (f (xs.getLast h)) := by
  have hl : 0 < xs.length := List.length_pos_iff.mpr h
  have e : ixN (xs.map f).length (-1) = some (xs.length - 1) := by
    unfold ixN
    rw [List.length_map]
    simp
    omega
  unfold atI
  rw [e]
  show (xs.map f)[xs.length - 1]? = _
  rw [List.getElem?_map, List.getElem?_eq_getElem (by omega), List.getLast_eq_getElem]
  rfl
theorem notOrd_at {ds : List PyData} {d : PyData} (hd : ∀ r, d ≠ rowD r) : isOrdB (.tuple (ds ++ [d])) = false := isOrdB_false fun o e _ => by
  have e' : ds ++ [d] = o.map rowD := PyData.tuple.inj e
  have hm : d ∈ o.map rowD := by rw [← e']; simp
  obtain ⟨r, _, h⟩ := List.mem_map.mp hm
  exact hd r h.symm
theorem notOrd_ord {q : List (List Nat)} (h : ¬ MO.IsOrder q) : isOrdB (ordD q) = false := isOrdB_false fun o e ho => h (MO.ord_inj e ▸ ho)
theorem post_some_of {ns : List Int} {p : Addr} {t m : Nat} {r : Rs} {Δ : List Sl} (h : post_some [.dat (scD ns), .own p (.lst (zeros t)), .dat (nI m)] r Δ) :
    ∃ t' o, MO.IsOrder o ∧ o.length ≤ m ∧ t ≤ t' ∧ t' ≤ t + 100 ∧ r = .dat (ordD o) ∧ Δ = [.dat (scD ns), .own p (.lst (zeros t')), .dat (nI m)] := by
  obtain ⟨ns', q, t0, m', t', o, e, ho, h1, h2, h3, rfl, rfl⟩ := h
  injection e with e1 e2
  injection e2 with e2 e3
  injection e3 with e3 _
  injection e2 with e4 e5
  injection e5 with e5
  injection e3 with e3
  injection e3 with e3
  have em : m = m' := Int.ofNat.inj e3
  have et : t = t0 := by
    have := congrArg List.length e5
    unfold zeros at this
    rwa [List.length_replicate, List.length_replicate] at this
  subst em et e4
  exact ⟨t', o, ho, h1, h2, h3, rfl, by rw [e1]⟩
theorem atI_row' {o : List (List Nat)} {v : Nat} (h : v < o.length) : atI (o.map rowD) (v : Int) = some (rowD (MO.row o v)) := by
  rw [atI_map h, MO.row_get (List.getElem?_eq_getElem h)]
theorem bj_cut {X : Cx} {Γ : List Sl} {st : Stmt} {rest : List Stmt} {k : Kt} {I : List Sl → Prop} (h1 : ∀ G, I G → BJ X G rest k) (h2 : (∀ G, I G → BJ X G rest k) → BJ X Γ (st :: rest) k) : BJ X Γ (st :: rest) k := h2 h1
theorem ne_fun (a : Nat) : (fun x : Nat => !PyData.eqv (nI x) (nI a)) = fun x => x != a := by
  funext x
  rw [eqv_nI]
  by_cases e : x = a
  · subst e; simp
  · simp [e]
theorem idx1 {n a x : Nat} {nm : List Nat} (hnm : ((List.range n).filter fun x => x != a) = nm) (ha : a < n) (hx : x < n) (ht : (!PyData.eqv (nI x) (nI a)) = true) : nm[MO.sh a x]? = some x := by
  have hne : x ≠ a := by
    rw [eqv_nI] at ht
    simpa using ht
  rw [← hnm, MO.others ha, List.getElem?_map, List.getElem?_range (by unfold MO.sh; split <;> omega)]
  show some (MO.un a (MO.sh a x)) = _
  rw [MO.un_sh hne]
theorem idx2 {n a x : Nat} {nm : List Nat} (hnm : ((List.range n).filter fun x => x != a) = nm) (ha : a < n) (hx : x < n) (ht : (!PyData.eqv (nI x) (nI a)) = true) : ∀ m, m < MO.sh a x → nm[m]? ≠ some x := fun m hm e => by
  have h1 := idx1 hnm ha hx ht
  have hp : nm.Pairwise (· < ·) := by rw [← hnm]; exact List.Pairwise.filter _ List.pairwise_lt_range
  obtain ⟨h2, h3⟩ := List.getElem?_eq_some_iff.mp e
  obtain ⟨h4, h5⟩ := List.getElem?_eq_some_iff.mp h1
  have := List.pairwise_iff_getElem.mp hp m _ h2 h4 hm
  omega
theorem szC {α : Type} {f : α → PyData} {xs : List α} {d : PyData} (h : xs.length ≤ 8) : (xs.map f).length + [d].length ≤ sizeLine := by
  rw [List.length_map]
  exact Nat.le_trans (Nat.add_le_add_right h 1) (by decide)
theorem rep_one (k : Nat) (d : PyData) : (List.replicate k [d]).flatten = List.replicate k d := by
  induction k with
  | zero => rfl
  | succ k ih => rw [List.replicate_succ, List.flatten_cons, ih, List.replicate_succ]; rfl
theorem shp_bools {ds : List PyData} (h : ∀ d ∈ ds, ∃ b, d = .bool b) : SeqAt.shaped (.list ds) = true := (Shp.lst (n := 0) fun d hd => by obtain ⟨b, rfl⟩ := h d hd; exact Shp.bool).shaped (by decide)
theorem eqv_same (k : Nat) : PyData.eqv (.list (List.replicate k (.bool false))) (.list (List.replicate k (.bool false))) = true := by
  show PyData.eqvAll _ _ = true
  refine eqvAll_iff.mpr ⟨rfl, fun i d e h1 h2 => ?_⟩
  rw [List.eq_of_mem_replicate (List.mem_of_getElem? h1), List.eq_of_mem_replicate (List.mem_of_getElem? h2)]
  rfl
def oddsD (o : List (List Nat)) (h : o ≠ []) : List PyData :=
  [.none, .int 5, .tuple [], .list (o.map rowD), .tuple (o.map rowD ++ [.tuple [nI o.length]]), .tuple (o.map rowD ++ [.tuple [.int ((o.length : Int) + 1)]]), .tuple ((DL.cutD o none (some (-1))).map rowD ++ [.tuple ((o.getLast h).map nI ++ [.int ((o.length : Int) - 1)])]),
    .tuple ((DL.cutD o none (some (-1))).map rowD ++ [.list ((o.getLast h).map nI)]), .tuple ((DL.cutD o none (some (-1))).map rowD ++ [.none]), .tuple ((DL.cutD o none (some (-1))).map rowD ++ [.tuple [.bool true]]), .tuple ((DL.cutD o none (some (-1))).map rowD ++ [.tuple [.str "0"]]),
    .tuple [.tuple [.int 1], .tuple [.int 0]], .tuple [.tuple [.int 1], .tuple [.int 2], .tuple []], .tuple [.tuple [.int 2, .int 1], .tuple [], .tuple []], .tuple [.tuple [.int 1, .int 1], .tuple []], .tuple (List.replicate 9 [.tuple []]).flatten, .tuple ((DL.cutD o none (some (-1))).map rowD ++ [.tuple [.int (-1)]])]
theorem okD_app {xs : List (List Nat)} {d : PyData} (h1 : xs.length ≤ 8) (h2 : ∀ r ∈ xs, r.length ≤ 8) (h3 : okT d) : okD (.tuple (xs.map rowD ++ [d])) := fun ds e => by
  cases e
  refine ⟨by rw [List.length_append, List.length_map, List.length_singleton]; omega, fun e he => ?_⟩
  rcases List.mem_append.mp he with h | h
  · obtain ⟨r, hr, rfl⟩ := List.mem_map.mp h
    intro ds e
    cases e
    rw [List.length_map]
    have := h2 r hr
    omega
  · rw [List.mem_singleton] at h
    subst h
    exact h3
theorem okT_s {ds : List PyData} (h : ds.length ≤ 1000) : okT (.tuple ds) := fun es e => by cases e; exact h
theorem okT_n {d : PyData} (h : ∀ ds, d ≠ .tuple ds) : okT d := fun ds e => absurd e (h ds)
theorem okD_n {d : PyData} (h : ∀ ds, d ≠ .tuple ds) : okD d := fun ds e => absurd e (h ds)
theorem okD_s {ds : List PyData} (h : ds.length ≤ 1000) (h2 : ∀ e ∈ ds, ∃ es, e = .tuple es ∧ es.length ≤ 1000) : okD (.tuple ds) := fun es e => by
  cases e
  refine ⟨h, fun e he => ?_⟩
  obtain ⟨es, rfl, h3⟩ := h2 e he
  exact okT_s h3
theorem notRow {ds : List PyData} {d : PyData} (hm : d ∈ ds) (h : ∀ n : Nat, d ≠ nI n) : ∀ r, PyData.tuple ds ≠ rowD r := fun r e => by
  have e' : ds = r.map nI := PyData.tuple.inj e
  rw [e'] at hm
  obtain ⟨n, _, h1⟩ := List.mem_map.mp hm
  exact h n h1.symm
theorem odds_ok {o : List (List Nat)} (ho : MO.IsOrder o) (h : o ≠ []) : ∀ d ∈ oddsD o h, okD d ∧ isOrdB d = false := by
  have hpos := ho.pos
  have hmost := ho.most
  have hlen : ∀ r ∈ o, r.length ≤ 8 := fun r hr => Nat.le_trans (MO.rising_len (ho.rise r hr)) hmost
  have hcl : (DL.cutD o none (some (-1))).length ≤ 8 := by rw [cut_last, List.length_dropLast]; omega
  have hcr : ∀ r ∈ DL.cutD o none (some (-1)), r.length ≤ 8 := fun r hr => by rw [cut_last] at hr; exact hlen r ((List.dropLast_sublist o).subset hr)
  have hla : (o.getLast h).length ≤ 8 := hlen _ (List.getLast_mem h)
  have nt : ∀ d : PyData, (∀ ds, d ≠ .tuple ds) → okD d ∧ isOrdB d = false := fun d hd => ⟨okD_n hd, isOrdB_false fun o e _ => hd _ e⟩
  have bad : ∀ {q : List (List Nat)}, ¬ MO.IsOrder q → isOrdB (.tuple (q.map rowD)) = false := fun h => notOrd_ord h
  unfold oddsD
  intro d hd
  simp only [List.mem_cons, List.not_mem_nil, or_false] at hd
  rcases hd with rfl | rfl | rfl | rfl | rfl | rfl | rfl | rfl | rfl | rfl | rfl | rfl | rfl | rfl | rfl | rfl | rfl
  · exact nt _ fun _ e => nomatch e
  · exact nt _ fun _ e => nomatch e
  · exact ⟨okD_s (by decide) (fun e he => nomatch he), bad (q := []) fun z => nomatch z.pos⟩
  · exact nt _ fun _ e => nomatch e
  · refine ⟨okD_app hmost hlen (okT_s (Nat.le_of_ble_eq_true rfl)), ?_⟩
    rw [show o.map rowD ++ [PyData.tuple [nI o.length]] = (o ++ [[o.length]]).map rowD by rw [List.map_append]; rfl]
    refine bad fun z => z.irr o.length ?_
    rw [MO.row_get (r := [o.length]) (by simp)]
    simp
  · refine ⟨okD_app hmost hlen (okT_s (Nat.le_of_ble_eq_true rfl)), ?_⟩
    rw [show o.map rowD ++ [PyData.tuple [.int ((o.length : Int) + 1)]] = (o ++ [[o.length + 1]]).map rowD by rw [List.map_append]; rfl]
    refine bad fun z => ?_
    have := (z.rise [o.length + 1] (by simp)).lt (o.length + 1) (by simp)
    simp at this
  · refine ⟨okD_app hcl hcr (okT_s (by rw [List.length_append, List.length_map, List.length_singleton]; omega)), ?_⟩
    rw [cut_last, show o.dropLast.map rowD ++ [PyData.tuple ((o.getLast h).map nI ++ [.int ((o.length : Int) - 1)])] = (o.dropLast ++ [o.getLast h ++ [o.length - 1]]).map rowD by
      rw [List.map_append, List.map_singleton]
      show _ = _ ++ [PyData.tuple ((o.getLast h ++ [o.length - 1]).map nI)]
      rw [List.map_append, List.map_singleton]
      show _ = _ ++ [PyData.tuple (_ ++ [PyData.int ((o.length - 1 : Nat) : Int)])]
      rw [show ((o.length - 1 : Nat) : Int) = (o.length : Int) - 1 by omega]]
    refine bad fun z => z.irr (o.length - 1) ?_
    rw [MO.row_get (r := o.getLast h ++ [o.length - 1])]
    · simp
    · rw [List.getElem?_append_right (by rw [List.length_dropLast]; exact Nat.le_refl _), List.length_dropLast, Nat.sub_self]
      rfl
  · exact ⟨okD_app hcl hcr (okT_n fun _ e => nomatch e), notOrd_at fun r e => nomatch e⟩
  · exact ⟨okD_app hcl hcr (okT_n fun _ e => nomatch e), notOrd_at fun r e => nomatch e⟩
  · exact ⟨okD_app hcl hcr (okT_s (by decide)), notOrd_at (notRow (d := .bool true) (by simp) fun n e => nomatch e)⟩
  · exact ⟨okD_app hcl hcr (okT_s (by decide)), notOrd_at (notRow (d := .str "0") (by simp) fun n e => nomatch e)⟩
  · refine ⟨okD_s (by decide) (by intro e he; simp at he; rcases he with rfl | rfl <;> exact ⟨_, rfl, by decide⟩), bad (q := [[1], [0]]) fun z => ?_⟩
    have := z.tr 0 1 0 (by decide) (by decide)
    revert this
    decide
  · refine ⟨okD_s (by decide) (by intro e he; simp at he; rcases he with rfl | rfl | rfl <;> exact ⟨_, rfl, by decide⟩), bad (q := [[1], [2], []]) fun z => ?_⟩
    have := z.tr 0 1 2 (by decide) (by decide)
    revert this
    decide
  · refine ⟨okD_s (by decide) (by intro e he; simp at he; rcases he with rfl | rfl <;> exact ⟨_, rfl, by decide⟩), bad (q := [[2, 1], [], []]) fun z => ?_⟩
    have := (z.rise [2, 1] (by simp)).up
    revert this
    decide
  · refine ⟨okD_s (by decide) (by intro e he; simp at he; rcases he with rfl | rfl <;> exact ⟨_, rfl, by decide⟩), bad (q := [[1, 1], []]) fun z => ?_⟩
    have := (z.rise [1, 1] (by simp)).up
    revert this
    decide
  · refine ⟨okD_s (by decide) (by intro e he; simp at he; subst he; exact ⟨_, rfl, by decide⟩), bad (q := List.replicate 9 []) fun z => ?_⟩
    have := z.most
    revert this
    decide
  · exact ⟨okD_app hcl hcr (okT_s (by decide)), notOrd_at (notRow (d := .int (-1)) (by simp) fun n e => by injection e with e; omega)⟩
/-! the law -/
/-! law -/
abbrev s_law : Stmt := topS 23
abbrev N_law : List Str := ["script", "town", "own", "count", "one", "other", "back", "point", "names", "rows", "odds", "odd", "less", "more"]
abbrev P_law : List Str := ["script"]
theorem sc_law : FnScope N_law P_law (defScope s_law) := ⟨rfl, rfl, rfl, by decide +kernel, rfl, by decide +kernel, by decide +kernel⟩
def r_law : List Sl → Rs → List Sl → Prop := fun Γ r Γ' => ∃ ns, Γ = [.dat (scD ns)] ∧ ns.length ≤ 63 ∧ r = .dat (.bool true) ∧ Γ' = Γ
structure C_law (P : Program) (w : World) (K : PySem.W.Frag) (mg : Str → Option Value) (base : Heap) : Prop where
  law_draw : Cal P w K mg base 3 "_law_draw" (Ct K r_draw) []
  law_same_truth : Cal P w K mg base 1 "_law_same_truth" (Ct K r_same) []
  law_some_order : Cal P w K mg base 5 "_law_some_order" (CtN K pre_some post_some) []
  is_order : Cal P w K mg base 3 "is_order" (Ct K r_is_order) []
  is_less : Cal P w K mg base 5 "is_less" (Ct K r_is_less) []
  turned : Cal P w K mg base 5 "turned" (Ct K r_turned) []
  dropped : Cal P w K mg base 5 "dropped" (Ct K r_dropped) []
theorem ok_law {P : Program} {w : World} {K : PySem.W.Frag} {mg : Str → Option Value} {base : Heap} {f : Addr} {fd : FuncData} {k : Nat} (F : Fun K "law" "law" s_law f fd) (B : Blt mg) (C : C_law P w K mg base) : FnOk P w K mg base CX0 (k + 6) f fd P_law (Ct K r_law) := by
  refine fn_ct (N := N_law) F sc_law (fun Γ r Γ' h => by obtain ⟨_, rfl, _⟩ := h; rfl) fun cdv A outer s H E hr Γ r Γ' h => ?_
  obtain ⟨ns, rfl, hn, rfl, rfl⟩ := h
  show BJ _ [.dat (scD ns), .un, .un, .un, .un, .un, .un, .un, .un, .un, .un, .un, .un, .un] _ _
  refine bj_set (i := 1) sc_law.nd rfl (Or.inl rfl) (ej_lst dj_nil) fun p => ?_
  refine bj_setN (i := 2) sc_law.nd rfl (Or.inr rfl) (ejn_call C.law_some_order hr (by omega) rfl (aj_dat (ej_var (i := 0) rfl (Or.inl rfl) rfl) (aj_ref (i := 1) rfl (Or.inl rfl) rfl (aj_dat ej_int aj_nil))) ⟨ns, p, 0, 8, rfl, hn, by omega, by omega, by omega⟩ (fun r Δ h => by obtain ⟨_, _, _, _, _, _, _, rfl⟩ := post_some_of (t := 0) (m := 8) h; exact ⟨rfl, ⟨_, _, _, rfl, rfl, rfl⟩, rfl, trivial⟩) (by simp [refs])) fun r G p' h => ?_
  obtain ⟨Δ, h, rfl⟩ := h
  obtain ⟨t, o, ho, _, _, ht, rfl, rfl⟩ := post_some_of (t := 0) (m := 8) h
  clear h
  show BJ _ [.dat (scD ns), .own p (.lst (zeros t)), .dat (ordD o), .un, .un, .un, .un, .un, .un, .un, .un, .un, .un, .un] _ _
  have hpos := ho.pos
  have hmost := ho.most
  refine bj_set (i := 3) sc_law.nd rfl (Or.inl rfl) (ej_is (r' := .dat (nI o.length)) (ej_cb cb_lenT rfl B.len bt_len (dj_cons (ej_var (i := 2) rfl (Or.inr (Or.inl rfl)) rfl) dj_nil)) (by rw [List.length_map])) fun _ => ?_
  have hd1 := mix_lt (ns := ns) (k := t + 1) (m := o.length) (by omega)
  have hd2 := mix_lt (ns := ns) (k := t + 2) (m := o.length) (by omega)
  refine bj_pairD (i := 4) (j := 5) (tgp_pr (i := 4) (j := 5) rfl sc_law.nd rfl (Or.inr rfl) rfl (Or.inl rfl)) (ej_tup (dj_cons (ej_call C.law_draw hr (by omega) rfl (aj_dat (ej_var (i := 0) rfl (Or.inl rfl) rfl) (aj_ref (i := 1) rfl (Or.inl rfl) rfl (aj_dat (ej_var (i := 3) rfl (Or.inl rfl) rfl) aj_nil))) (rl_draw hn (by omega) (by omega)) ⟨rfl, ⟨⟨_, _, _, rfl, rfl, rfl⟩, ⟨rfl, trivial⟩⟩⟩ (by simp [refs])) (dj_cons (ej_call C.law_draw hr (by omega) rfl (aj_dat (ej_var (i := 0) rfl (Or.inl rfl) rfl) (aj_ref (i := 1) rfl (Or.inl rfl) rfl (aj_dat (ej_var (i := 3) rfl (Or.inl rfl) rfl) aj_nil))) (rl_draw hn (by omega) (by omega)) ⟨rfl, ⟨⟨_, _, _, rfl, rfl, rfl⟩, ⟨rfl, trivial⟩⟩⟩ (by simp [refs])) dj_nil)) (Nat.le_of_ble_eq_true rfl)) ?_
  generalize mixN ns (t + 1) o.length = a at hd1
  generalize mixN ns (t + 2) o.length = b at hd2
  show BJ _ [.dat (scD ns), .own p (.lst (zeros (t + 2))), .dat (ordD o), .dat (nI o.length), .dat (nI a), .dat (nI b), .un, .un, .un, .un, .un, .un, .un, .un] _ _
  have ho1 : isOrdB (ordD o) = true := isOrdB_true ⟨o, rfl, ho⟩
  refine bj_ifret (b0 := false) (tj_is (tj_w (wj_or (tj_k ob_isnot (ej_callD C.is_order hr (by omega) rfl (dj_cons (ej_var (i := 2) rfl (Or.inr (Or.inl rfl)) rfl) dj_nil) (rl_is_order (okD_ord ho))) ej_bl) fun h0 => (wj_or1 (tj_not (tj_val (ej_callD C.law_same_truth hr (by omega) rfl (dj_cons (ej_callD C.is_less hr (by omega) rfl (dj_cons (ej_var (i := 2) rfl (Or.inr (Or.inl rfl)) rfl) (dj_cons (ej_var (i := 4) rfl (Or.inr (Or.inl rfl)) rfl) (dj_cons (ej_var (i := 5) rfl (Or.inl rfl) rfl) dj_nil))) (rl_is_less ho hd1 hd2)) (dj_cons (ej_k ob_inTn (ej_var (i := 5) rfl (Or.inl rfl) rfl) (ej_ixT (atI_map hd1) (ej_var (i := 2) rfl (Or.inr (Or.inl rfl)) rfl) (ej_var (i := 4) rfl (Or.inr (Or.inl rfl)) rfl))) dj_nil)) rl_same)))))) (by rw [ho1, ← MO.row_get (List.getElem?_eq_getElem hd1)]; simp)) (fun h => nomatch h) (fun _ => ?_)
  refine bj_set (i := 6) sc_law.nd rfl (Or.inl rfl) (ej_lst dj_nil) fun qb => ?_
  refine bj_forM (T := .nm 7) PassesOwn.never rfl (wj_range1m rfl B.range (dj_cons (ej_var (i := 3) rfl (Or.inl rfl) rfl) dj_nil) (by omega)) (tgp_nm (i := 7) sc_law.nd rfl (Or.inr rfl)) (fun i G => ∃ y, G = [.dat (scD ns), .own p (.lst (zeros (t + 2))), .dat (ordD o), .dat (nI o.length), .dat (nI a), .dat (nI b), .own qb (.lst (((List.range i).map fun p => MO.downs o p).map rowD)), y, .un, .un, .un, .un, .un, .un] ∧ (0 < i → ∃ x : Nat, y = .dat (nI x))) ⟨_, rfl, fun h => absurd h (Nat.lt_irrefl _)⟩ (fun i x G hx hI => ⟨trivial, ?_⟩) (fun G hI => ?_)
  · obtain ⟨y, rfl, _⟩ := hI
    obtain ⟨hi, rfl⟩ : i < o.length ∧ x = i := by
      have h1 := (List.getElem?_eq_some_iff.mp hx).1
      rw [List.length_range] at h1
      exact ⟨h1, by rw [List.getElem?_range h1] at hx; exact (Option.some.inj hx).symm⟩
    refine bj_append (i := 6) rfl (Or.inl rfl) (ej_is (r' := .dat (rowD (MO.downs o x))) (ej_ct cb_tupleL rfl B.tuple bt_tuple (dj_cons (ej_frz (ej_lc _ _ rfl sc_law.nd (wj_range1m rfl B.range (dj_cons (ej_var (i := 3) rfl (Or.inl rfl) rfl) dj_nil) (by omega)) (blkOk_by (own := [("less", 12)]) (N := N_law) (sc := defScope s_law) (by decide +kernel)) (by decide) (fun _ _ _ _ _ => (tgp_nm (i := 12) sc_law.nd rfl (Or.inl rfl))) (fun _ _ => trivial) (fun x0 hx0 _ _ _ _ _ => ts_one (tj_k ob_inTn (ej_var (i := 7) rfl (Or.inr (Or.inl rfl)) rfl) (ej_ixT (atI_row' (List.mem_range.mp hx0)) (ej_var (i := 2) rfl (Or.inr (Or.inl rfl)) rfl) (ej_var (i := 12) rfl (Or.inl rfl) rfl)))) (fun x0 hx0 ht0 _ _ _ _ _ => (ej_var (i := 12) rfl (Or.inl rfl) rfl)) rfl (by rw [List.length_range]; omega))) dj_nil)) rfl) ⟨_, rfl⟩ rfl ?_ (bj_nil ⟨.dat (nI x), ?_, fun _ => ⟨x, rfl⟩⟩)
    · rw [List.length_map, List.length_map, List.length_range]
      exact Nat.lt_of_lt_of_le hi (Nat.le_trans hmost (by decide))
    · show [Sl.dat (scD ns), .own p (.lst (zeros (t + 2))), .dat (ordD o), .dat (nI o.length), .dat (nI a), .dat (nI b), .own qb (.lst (_ ++ [rowD (MO.downs o x)])), .dat (nI x), .un, .un, .un, .un, .un, .un] = _
      rw [List.range_succ, List.map_append, List.map_append]
      rfl
  · obtain ⟨y, rfl, hy⟩ := hI
    rw [List.length_range] at hy ⊢
    obtain ⟨yx, rfl⟩ := hy hpos
    generalize (nI yx) = yd
    show BJ _ [.dat (scD ns), .own p (.lst (zeros (t + 2))), .dat (ordD o), .dat (nI o.length), .dat (nI a), .dat (nI b), .own qb (.lst ((MO.turn o).map rowD)), .dat yd, .un, .un, .un, .un, .un, .un] _ _
    refine bj_freeze (i := 6) rfl ?_
    show BJ _ [.dat (scD ns), .own p (.lst (zeros (t + 2))), .dat (ordD o), .dat (nI o.length), .dat (nI a), .dat (nI b), .dat (.list ((MO.turn o).map rowD)), .dat yd, .un, .un, .un, .un, .un, .un] _ _
    have hT := MO.order_turn ho
    have ho2 : isOrdB (ordD (MO.turn o)) = true := isOrdB_true ⟨_, rfl, hT⟩
    refine bj_ifret (b0 := false) (tj_is (tj_w (wj_or (tj_k (ob_ne hr.units ((Shp.ord _).shaped (by decide)) ((Shp.ord _).shaped (by decide))) (ej_callD C.turned hr (by omega) rfl (dj_cons (ej_var (i := 2) rfl (Or.inr (Or.inl rfl)) rfl) dj_nil) (rl_turned (by assumption))) (ej_ct cb_tupleL rfl B.tuple bt_tuple (dj_cons (ej_var (i := 6) rfl (Or.inl rfl) rfl) dj_nil))) fun h0 => (wj_or (tj_k (ob_ne hr.units ((Shp.ord _).shaped (by decide)) ((Shp.ord _).shaped (by decide))) (ej_callD C.turned hr (by omega) rfl (dj_cons (ej_callD C.turned hr (by omega) rfl (dj_cons (ej_var (i := 2) rfl (Or.inr (Or.inl rfl)) rfl) dj_nil) (rl_turned (by assumption))) dj_nil) (rl_turned (by assumption))) (ej_var (i := 2) rfl (Or.inr (Or.inl rfl)) rfl)) fun h1 => (wj_or1 (tj_k ob_isnot (ej_callD C.is_order hr (by omega) rfl (dj_cons (ej_ct cb_tupleL rfl B.tuple bt_tuple (dj_cons (ej_var (i := 6) rfl (Or.inl rfl) rfl) dj_nil)) dj_nil) (rl_is_order (okD_ord hT))) ej_bl))))) (by rw [eqv_ord, eqv_ord, MO.turn_turn ho, ho2]; simp)) (fun h => nomatch h) (fun _ => ?_)
    refine bj_cut (I := fun G => ∃ y8 y9 y10, G = [.dat (scD ns), .own p (.lst (zeros (t + 2))), .dat (ordD o), .dat (nI o.length), .dat (nI a), .dat (nI b), .dat (.list ((MO.turn o).map rowD)), y8, y9, y10, .un, .un, .un, .un]) (fun G hG => ?_) (fun hlast => ?_)
    · obtain ⟨y8, y9, y10, rfl⟩ := hG
      have hne : o ≠ [] := fun e => by rw [e] at hpos; cases hpos
      have hla : (o.getLast hne).length ≤ 8 := Nat.le_trans (MO.rising_len (ho.rise _ (List.getLast_mem hne))) hmost
      have hcl : (DL.cutD o none (some (-1))).length ≤ 8 := by rw [cut_last, List.length_dropLast]; omega
      refine bj_set (i := 10) sc_law.nd rfl (Or.inl rfl) (ej_lst (dj_cons ej_non (dj_cons ej_int (dj_cons (ej_tup dj_nil) (dj_cons (ej_frz (ej_ct cb_listT rfl B.list bt_list (dj_cons (ej_var (i := 2) rfl (Or.inr (Or.inl rfl)) rfl) dj_nil))) (dj_cons (ej_b (ob_catT (szC (by first | exact hcl | exact hmost | exact hla))) (ej_var (i := 2) rfl (Or.inr (Or.inl rfl)) rfl) (ej_tup (dj_cons (ej_tup (dj_cons (ej_var (i := 3) rfl (Or.inl rfl) rfl) dj_nil) (Nat.le_of_ble_eq_true rfl)) dj_nil) (Nat.le_of_ble_eq_true rfl))) (dj_cons (ej_b (ob_catT (szC (by first | exact hcl | exact hmost | exact hla))) (ej_var (i := 2) rfl (Or.inr (Or.inl rfl)) rfl) (ej_tup (dj_cons (ej_tup (dj_cons (ej_b ob_add (ej_var (i := 3) rfl (Or.inl rfl) rfl) ej_int) dj_nil) (Nat.le_of_ble_eq_true rfl)) dj_nil) (Nat.le_of_ble_eq_true rfl))) (dj_cons (ej_b (ob_catT (szC (by first | exact hcl | exact hmost | exact hla))) (ej_slTm (ej_var (i := 2) rfl (Or.inr (Or.inl rfl)) rfl) pj_none (pj_some (ej_neg ej_int))) (ej_tup (dj_cons (ej_b (ob_catT (szC (by first | exact hcl | exact hmost | exact hla))) (ej_ixT (atI_last hne) (ej_var (i := 2) rfl (Or.inr (Or.inl rfl)) rfl) (ej_neg ej_int)) (ej_tup (dj_cons (ej_b ob_sub (ej_var (i := 3) rfl (Or.inl rfl) rfl) ej_int) dj_nil) (Nat.le_of_ble_eq_true rfl))) dj_nil) (Nat.le_of_ble_eq_true rfl))) dj_nil))))))) (Nat.le_of_ble_eq_true rfl)) fun qo => ?_
      refine bj_expr (ej_extend (i := 10) rfl (Or.inl rfl) (ej_lst (dj_cons (ej_b (ob_catT (szC (by first | exact hcl | exact hmost | exact hla))) (ej_slTm (ej_var (i := 2) rfl (Or.inr (Or.inl rfl)) rfl) pj_none (pj_some (ej_neg ej_int))) (ej_tup (dj_cons (ej_frz (ej_ct cb_listT rfl B.list bt_list (dj_cons (ej_ixT (atI_last hne) (ej_var (i := 2) rfl (Or.inr (Or.inl rfl)) rfl) (ej_neg ej_int)) dj_nil))) dj_nil) (Nat.le_of_ble_eq_true rfl))) (dj_cons (ej_b (ob_catT (szC (by first | exact hcl | exact hmost | exact hla))) (ej_slTm (ej_var (i := 2) rfl (Or.inr (Or.inl rfl)) rfl) pj_none (pj_some (ej_neg ej_int))) (ej_tup (dj_cons ej_non dj_nil) (Nat.le_of_ble_eq_true rfl))) (dj_cons (ej_b (ob_catT (szC (by first | exact hcl | exact hmost | exact hla))) (ej_slTm (ej_var (i := 2) rfl (Or.inr (Or.inl rfl)) rfl) pj_none (pj_some (ej_neg ej_int))) (ej_tup (dj_cons (ej_tup (dj_cons ej_bl dj_nil) (Nat.le_of_ble_eq_true rfl)) dj_nil) (Nat.le_of_ble_eq_true rfl))) (dj_cons (ej_b (ob_catT (szC (by first | exact hcl | exact hmost | exact hla))) (ej_slTm (ej_var (i := 2) rfl (Or.inr (Or.inl rfl)) rfl) pj_none (pj_some (ej_neg ej_int))) (ej_tup (dj_cons (ej_tup (dj_cons ej_str dj_nil) (Nat.le_of_ble_eq_true rfl)) dj_nil) (Nat.le_of_ble_eq_true rfl))) dj_nil)))) (Nat.le_of_ble_eq_true rfl)) ⟨_, rfl⟩ rfl (Nat.le_of_ble_eq_true rfl)) ?_
      refine bj_expr (ej_extend (i := 10) rfl (Or.inl rfl) (ej_lst (dj_cons (ej_tup (dj_cons (ej_tup (dj_cons ej_int dj_nil) (Nat.le_of_ble_eq_true rfl)) (dj_cons (ej_tup (dj_cons ej_int dj_nil) (Nat.le_of_ble_eq_true rfl)) dj_nil)) (Nat.le_of_ble_eq_true rfl)) (dj_cons (ej_tup (dj_cons (ej_tup (dj_cons ej_int dj_nil) (Nat.le_of_ble_eq_true rfl)) (dj_cons (ej_tup (dj_cons ej_int dj_nil) (Nat.le_of_ble_eq_true rfl)) (dj_cons (ej_tup dj_nil) dj_nil))) (Nat.le_of_ble_eq_true rfl)) (dj_cons (ej_tup (dj_cons (ej_tup (dj_cons ej_int (dj_cons ej_int dj_nil)) (Nat.le_of_ble_eq_true rfl)) (dj_cons (ej_tup dj_nil) (dj_cons (ej_tup dj_nil) dj_nil))) (Nat.le_of_ble_eq_true rfl)) (dj_cons (ej_tup (dj_cons (ej_tup (dj_cons ej_int (dj_cons ej_int dj_nil)) (Nat.le_of_ble_eq_true rfl)) (dj_cons (ej_tup dj_nil) dj_nil)) (Nat.le_of_ble_eq_true rfl)) (dj_cons (ej_b (ob_repT (by simp) (by decide) (by decide) (by decide)) (ej_tup (dj_cons (ej_tup dj_nil) dj_nil) (Nat.le_of_ble_eq_true rfl)) ej_int) (dj_cons (ej_b (ob_catT (szC (by first | exact hcl | exact hmost | exact hla))) (ej_slTm (ej_var (i := 2) rfl (Or.inr (Or.inl rfl)) rfl) pj_none (pj_some (ej_neg ej_int))) (ej_tup (dj_cons (ej_tup (dj_cons (ej_neg ej_int) dj_nil) (Nat.le_of_ble_eq_true rfl)) dj_nil) (Nat.le_of_ble_eq_true rfl))) dj_nil)))))) (Nat.le_of_ble_eq_true rfl)) ⟨_, rfl⟩ rfl (Nat.le_of_ble_eq_true rfl)) ?_
      refine bj_freeze (i := 10) rfl ?_
      show BJ _ [.dat (scD ns), .own p (.lst (zeros (t + 2))), .dat (ordD o), .dat (nI o.length), .dat (nI a), .dat (nI b), .dat (.list ((MO.turn o).map rowD)), y8, y9, y10, .dat (.list (oddsD o hne)), .un, .un, .un] _ _
      have hodds := odds_ok ho hne
      have hol : (oddsD o hne).length = 17 := rfl
      generalize oddsD o hne = odds at hodds hol
      refine bj_ret (ej_is (ej_k (ob_eq hr.units (shp_bools (by intro d hd; first | (obtain ⟨_, _, rfl⟩ := List.mem_map.mp hd; exact ⟨_, rfl⟩) | (rw [rep_one] at hd; exact ⟨_, List.eq_of_mem_replicate hd⟩))) (shp_bools (by intro d hd; first | (obtain ⟨_, _, rfl⟩ := List.mem_map.mp hd; exact ⟨_, rfl⟩) | (rw [rep_one] at hd; exact ⟨_, List.eq_of_mem_replicate hd⟩)))) (ej_frz (ej_lcM rfl sc_law.nd (wj_id (wj_list (ej_var (i := 10) rfl (Or.inl rfl) rfl))) (blkOk_by (own := [("odd", 11)]) (N := N_law) (sc := defScope s_law) (by decide +kernel)) (by decide) (fun _ _ _ _ _ => (tgp_nm (i := 11) sc_law.nd rfl (Or.inl rfl))) (fun _ _ => trivial) (fun x0 hx0 _ _ _ _ _ => (ej_callD C.is_order hr (by omega) rfl (dj_cons (ej_var (i := 11) rfl (Or.inl rfl) rfl) dj_nil) (rl_is_order (hodds x0 hx0).1))) rfl (by omega))) (ej_frz (ej_repL (ej_lst (dj_cons ej_bl dj_nil) (Nat.le_of_ble_eq_true rfl)) (ej_cb cb_lenL rfl B.len bt_len (dj_cons (ej_var (i := 10) rfl (Or.inl rfl) rfl) dj_nil)) (by omega) (by decide)))) ?_) ⟨rfl, rfl, trivial⟩
      rw [rep_one, List.map_congr_left (g := fun _ => PyData.bool false) (fun d hd => by rw [(hodds d hd).2]), List.map_const']
      congr 2
      exact eqv_same _
    · by_cases h1 : 1 < o.length
      · refine bj_if (b0 := true) (tj_is (tj_k ob_gt (ej_var (i := 3) rfl (Or.inl rfl) rfl) ej_int) (decide_eq_true (by omega))) (fun _ => ?_) (fun h => nomatch h)
        refine bj_set (i := 8) sc_law.nd rfl (Or.inr rfl) (ej_is (r' := .new (.lst (((List.range o.length).filter fun x => x != a).map nI))) (ej_lc _ _ rfl sc_law.nd (wj_range1m rfl B.range (dj_cons (ej_var (i := 3) rfl (Or.inl rfl) rfl) dj_nil) (by omega)) (blkOk_by (own := [("point", 7)]) (N := N_law) (sc := defScope s_law) (by decide +kernel)) (by decide) (fun _ _ _ _ _ => (tgp_nm (i := 7) sc_law.nd rfl (Or.inl rfl))) (fun _ _ => trivial) (fun x0 hx0 _ _ _ _ _ => ts_one (tj_k (ob_ne hr.units rfl rfl) (ej_var (i := 7) rfl (Or.inl rfl) rfl) (ej_var (i := 4) rfl (Or.inr (Or.inl rfl)) rfl))) (fun x0 hx0 ht0 _ _ _ _ _ => (ej_var (i := 7) rfl (Or.inl rfl) rfl)) rfl (by rw [List.length_range]; omega)) (by rw [ne_fun])) fun qn => ?_
        refine bj_freeze (i := 8) rfl ?_
        show BJ _ [.dat (scD ns), .own p (.lst (zeros (t + 2))), .dat (ordD o), .dat (nI o.length), .dat (nI a), .dat (nI b), .dat (.list ((MO.turn o).map rowD)), .dat yd, .dat (.list (((List.range o.length).filter fun x => x != a).map nI)), .un, .un, .un, .un, .un] _ _
        generalize hnm : ((List.range o.length).filter fun x => x != a) = nm
        have hnl : nm.length ≤ 8 := by
          rw [← hnm]
          exact Nat.le_trans (List.length_filter_le _ _) (by rw [List.length_range]; exact hmost)
        have hnlt : ∀ x ∈ nm, x < o.length := fun x hx => by
          rw [← hnm] at hx
          exact List.mem_range.mp (List.mem_filter.mp hx).1
        refine bj_set (i := 9) sc_law.nd rfl (Or.inl rfl) (ej_lst dj_nil) fun qr => ?_
        refine bj_forM (T := .nm 7) PassesOwn.never rfl (wj_list (ej_var (i := 8) rfl (Or.inr (Or.inl rfl)) rfl)) (tgp_nm (i := 7) sc_law.nd rfl (Or.inr rfl)) (fun i G => ∃ y, G = [.dat (scD ns), .own p (.lst (zeros (t + 2))), .dat (ordD o), .dat (nI o.length), .dat (nI a), .dat (nI b), .dat (.list ((MO.turn o).map rowD)), y, .dat (.list (nm.map nI)), .own qr (.lst (((nm.take i).map fun q => MO.cutP a (MO.row o q)).map rowD)), .un, .un, .un, .un]) ⟨_, rfl⟩ (fun i x G hx hI => ⟨trivial, ?_⟩) (fun G hI => ?_)
        · obtain ⟨y, rfl⟩ := hI
          have hxo : x < o.length := hnlt x (List.mem_of_getElem? hx)
          refine bj_append (i := 9) rfl (Or.inl rfl) (ej_is (r' := .dat (rowD (MO.cutP a (MO.row o x)))) (ej_ct cb_tupleL rfl B.tuple bt_tuple (dj_cons (ej_frz (ej_lc _ _ rfl sc_law.nd (wj_tup (ej_ixT (atI_row' hxo) (ej_var (i := 2) rfl (Or.inr (Or.inl rfl)) rfl) (ej_var (i := 7) rfl (Or.inr (Or.inl rfl)) rfl))) (blkOk_by (own := [("more", 13)]) (N := N_law) (sc := defScope s_law) (by decide +kernel)) (by decide) (fun _ _ _ _ _ => (tgp_nm (i := 13) sc_law.nd rfl (Or.inl rfl))) (fun _ _ => trivial) (fun x0 hx0 _ _ _ _ _ => ts_one (tj_k (ob_ne hr.units rfl rfl) (ej_var (i := 13) rfl (Or.inl rfl) rfl) (ej_var (i := 4) rfl (Or.inr (Or.inl rfl)) rfl))) (fun x0 hx0 ht0 _ _ _ _ _ => (ej_index (idx1 hnm hd1 (ho.lt hx0).2 ht0) (idx2 hnm hd1 (ho.lt hx0).2 ht0) (ej_var (i := 8) rfl (Or.inr (Or.inl rfl)) rfl) (ej_var (i := 13) rfl (Or.inl rfl) rfl))) rfl (Nat.le_trans (MO.rising_len (ho.rise _ (MO.row_mem hxo))) (Nat.le_trans hmost (by decide))))) dj_nil)) (by rw [ne_fun]; show Rs.dat (.tuple _) = Rs.dat (.tuple _); unfold MO.cutP; rw [List.map_map]; rfl)) ⟨_, rfl⟩ rfl ?_ (bj_nil ⟨.dat (nI x), ?_⟩)
          · rw [List.length_map, List.length_map, List.length_take]
            exact Nat.lt_of_le_of_lt (Nat.min_le_right _ _) (Nat.lt_of_le_of_lt hnl (by decide))
          · show [Sl.dat (scD ns), .own p (.lst (zeros (t + 2))), .dat (ordD o), .dat (nI o.length), .dat (nI a), .dat (nI b), .dat (.list ((MO.turn o).map rowD)), .dat (nI x), .dat (.list (nm.map nI)), .own qr (.lst (_ ++ [rowD (MO.cutP a (MO.row o x))])), .un, .un, .un, .un] = _
            rw [List.take_add_one, hx, List.map_append, List.map_append]
            rfl
        · obtain ⟨y, rfl⟩ := hI
          rw [List.take_length]
          have er : (nm.map fun q => MO.cutP a (MO.row o q)) = MO.drop1 o a := by rw [← hnm]; rfl
          rw [er]
          refine bj_freeze (i := 9) rfl ?_
          show BJ _ [.dat (scD ns), .own p (.lst (zeros (t + 2))), .dat (ordD o), .dat (nI o.length), .dat (nI a), .dat (nI b), .dat (.list ((MO.turn o).map rowD)), y, .dat (.list (nm.map nI)), .dat (.list ((MO.drop1 o a).map rowD)), .un, .un, .un, .un] _ _
          have hD := MO.order_drop1 ho hd1 h1
          have ho3 : isOrdB (ordD (MO.drop1 o a)) = true := isOrdB_true ⟨_, rfl, hD⟩
          refine bj_ifret (b0 := false) (tj_is (tj_w (wj_or (tj_k (ob_ne hr.units ((Shp.ord _).shaped (by decide)) ((Shp.ord _).shaped (by decide))) (ej_callD C.dropped hr (by omega) rfl (dj_cons (ej_var (i := 2) rfl (Or.inr (Or.inl rfl)) rfl) (dj_cons (ej_var (i := 4) rfl (Or.inr (Or.inl rfl)) rfl) dj_nil)) (rl_dropped ho hd1 h1)) (ej_ct cb_tupleL rfl B.tuple bt_tuple (dj_cons (ej_var (i := 9) rfl (Or.inl rfl) rfl) dj_nil))) fun h0 => (wj_or1 (tj_k ob_isnot (ej_callD C.is_order hr (by omega) rfl (dj_cons (ej_ct cb_tupleL rfl B.tuple bt_tuple (dj_cons (ej_var (i := 9) rfl (Or.inl rfl) rfl) dj_nil)) dj_nil) (rl_is_order (okD_ord hD))) ej_bl)))) (by rw [eqv_ord, ho3]; simp)) (fun h => nomatch h) (fun _ => ?_)
          exact bj_nil (hlast _ ⟨_, _, _, rfl⟩)
      · refine bj_if (b0 := false) (tj_is (tj_k ob_gt (ej_var (i := 3) rfl (Or.inl rfl) rfl) ej_int) (decide_eq_false (by omega))) (fun h => nomatch h) (fun _ => bj_nil (hlast _ ⟨_, _, _, rfl⟩))
end G

namespace G
open PySem PySem.Spec PyProof.Rows L2 DL
structure Dfs (K : PySem.W.Frag) : Prop where
  d_is_integer : Df K "is_integer" s_is_integer
  d_is_rising : Df K "is_rising" s_is_rising
  d_is_order : Df K "is_order" s_is_order
  d_check_order : Df K "check_order" s_check_order
  d_check_point : Df K "check_point" s_check_point
  d_is_less : Df K "is_less" s_is_less
  d_turned : Df K "turned" s_turned
  d_without : Df K "without" s_without
  d_dropped : Df K "dropped" s_dropped
  d_law_cell_at : Df K "_law_cell_at" s_law_cell_at
  d_law_mixed : Df K "_law_mixed" s_law_mixed
  d_law_draw : Df K "_law_draw" s_law_draw
  d_law_pick : Df K "_law_pick" s_law_pick
  d_law_some_order : Df K "_law_some_order" s_law_some_order
  d_law_same_truth : Df K "_law_same_truth" s_law_same_truth
  d_law : Df K "law" s_law
theorem law_ok {l : PySem.W.OpenLaw} {w : World} {K : PySem.W.Frag} {h : Heap} {mg : Str → Option Value} {fa : Addr} (X : K.In h) (G : h.Ns mainGlobals mg) (hfa : mg "law" = some (.ref fa)) (B : Blt mg) (D : Dfs K) :
    ∃ fd : FuncData, (∀ (s : Shared) (v : Value), BindsTo s fd ⟨[v], []⟩ [("script", v)]) ∧ ∀ base : Heap, K.In base → base.Ns mainGlobals mg → FnOk l.prog w K mg base CX0 6 fa fd ["script"] (Ct K (lawRel 63)) := by
  refine law_fn (k := 6) X G hfa D.d_law (fun _ _ _ _ _ _ us hl => match us, hl with | [_], _ => rfl) fun base _ _ f fd F => ?_
  have c_is_integer : Cal l.prog w K mg base 1 "is_integer" _ [] := cal_mk X G D.d_is_integer (fun _ _ _ _ _ _ us hl => match us, hl with | [_, _, _], _ => rfl) fun f fd F => ok_is_integer (k := 0) F B
  have c_is_rising : Cal l.prog w K mg base 2 "is_rising" _ [] := cal_mk X G D.d_is_rising (fun _ _ _ _ _ _ us hl => match us, hl with | [_, _], _ => rfl) fun f fd F => ok_is_rising (k := 0) F B ⟨c_is_integer⟩
  have c_is_order : Cal l.prog w K mg base 3 "is_order" _ [] := cal_mk X G D.d_is_order (fun _ _ _ _ _ _ us hl => match us, hl with | [_], _ => rfl) fun f fd F => ok_is_order (k := 0) F B ⟨c_is_rising⟩
  have c_check_order : Cal l.prog w K mg base 4 "check_order" _ [] := cal_mk X G D.d_check_order (fun _ _ _ _ _ _ us hl => match us, hl with | [_], _ => rfl) fun f fd F => ok_check_order (k := 0) F B ⟨c_is_order⟩
  have c_check_point : Cal l.prog w K mg base 2 "check_point" _ [] := cal_mk X G D.d_check_point (fun _ _ _ _ _ _ us hl => match us, hl with | [_, _], _ => rfl) fun f fd F => ok_check_point (k := 0) F B ⟨c_is_integer⟩
  have c_is_less : Cal l.prog w K mg base 5 "is_less" _ [] := cal_mk X G D.d_is_less (fun _ _ _ _ _ _ us hl => match us, hl with | [_, _, _], _ => rfl) fun f fd F => ok_is_less (k := 0) F B ⟨c_check_order, c_check_point⟩
  have c_turned : Cal l.prog w K mg base 5 "turned" _ [] := cal_mk X G D.d_turned (fun _ _ _ _ _ _ us hl => match us, hl with | [_], _ => rfl) fun f fd F => ok_turned (k := 0) F B ⟨c_check_order⟩
  have c_without : Cal l.prog w K mg base 1 "without" _ [] := cal_mk X G D.d_without (fun _ _ _ _ _ _ us hl => match us, hl with | [_, _], _ => rfl) fun f fd F => ok_without (k := 0) F B
  have c_dropped : Cal l.prog w K mg base 5 "dropped" _ [] := cal_mk X G D.d_dropped (fun _ _ _ _ _ _ us hl => match us, hl with | [_, _], _ => rfl) fun f fd F => ok_dropped (k := 0) F B ⟨c_check_order, c_check_point, c_without⟩
  have c_law_cell_at : Cal l.prog w K mg base 1 "_law_cell_at" _ [] := cal_mk X G D.d_law_cell_at (fun _ _ _ _ _ _ us hl => match us, hl with | [_, _], _ => rfl) fun f fd F => ok_law_cell_at (k := 0) F B
  have c_law_mixed : Cal l.prog w K mg base 2 "_law_mixed" _ [] := cal_mk X G D.d_law_mixed (fun _ _ _ _ _ _ us hl => match us, hl with | [_, _, _], _ => rfl) fun f fd F => ok_law_mixed (k := 0) F B ⟨c_law_cell_at⟩
  have c_law_draw : Cal l.prog w K mg base 3 "_law_draw" _ [] := cal_mk X G D.d_law_draw (fun _ _ _ _ _ _ us hl => match us, hl with | [_, _, _], _ => rfl) fun f fd F => ok_law_draw (k := 0) F B ⟨c_law_mixed⟩
  have c_law_pick : Cal l.prog w K mg base 4 "_law_pick" _ [] := cal_mk X G D.d_law_pick (fun _ _ _ _ _ _ us hl => match us, hl with | [_, _, _], _ => rfl) fun f fd F => ok_law_pick (k := 0) F B ⟨c_law_draw⟩
  have c_law_some_order : Cal l.prog w K mg base 5 "_law_some_order" _ [] := cal_mk X G D.d_law_some_order (fun _ _ _ _ _ _ us hl => match us, hl with | [_, _, _], _ => rfl) fun f fd F => ok_law_some_order (k := 0) F B ⟨c_law_draw, c_law_pick⟩
  have c_law_same_truth : Cal l.prog w K mg base 1 "_law_same_truth" _ [] := cal_mk X G D.d_law_same_truth (fun _ _ _ _ _ _ us hl => match us, hl with | [_, _], _ => rfl) fun f fd F => ok_law_same_truth (k := 0) F B
  exact ok_law (k := 0) F B ⟨c_law_draw, c_law_same_truth, c_law_some_order, c_is_order, c_is_less, c_turned, c_dropped⟩
theorem all_ok {l : PySem.W.OpenLaw} {w : PySem.World} {K : PySem.W.Frag} {h : PySem.Heap} {mg : PySem.Str → Option PySem.Value} {fa : PySem.Addr} (X : K.In h) (GN : h.Ns PySem.mainGlobals mg) (hfa : mg "law" = some (.ref fa))
    (d_is_integer : DL.Df K "is_integer" s_is_integer)
    (d_is_rising : DL.Df K "is_rising" s_is_rising)
    (d_is_order : DL.Df K "is_order" s_is_order)
    (d_check_order : DL.Df K "check_order" s_check_order)
    (d_check_point : DL.Df K "check_point" s_check_point)
    (d_is_less : DL.Df K "is_less" s_is_less)
    (d_turned : DL.Df K "turned" s_turned)
    (d_without : DL.Df K "without" s_without)
    (d_dropped : DL.Df K "dropped" s_dropped)
    (d_law_cell_at : DL.Df K "_law_cell_at" s_law_cell_at)
    (d_law_mixed : DL.Df K "_law_mixed" s_law_mixed)
    (d_law_draw : DL.Df K "_law_draw" s_law_draw)
    (d_law_pick : DL.Df K "_law_pick" s_law_pick)
    (d_law_some_order : DL.Df K "_law_some_order" s_law_some_order)
    (d_law_same_truth : DL.Df K "_law_same_truth" s_law_same_truth)
    (d_law : DL.Df K "law" s_law)
    (b_isinstance : PySem.W.nsIn K PySem.mainGlobals "isinstance" = some none)
    (b_int : PySem.W.nsIn K PySem.mainGlobals "int" = some none)
    (b_bool : PySem.W.nsIn K PySem.mainGlobals "bool" = some none)
    (b_tuple : PySem.W.nsIn K PySem.mainGlobals "tuple" = some none)
    (b_all : PySem.W.nsIn K PySem.mainGlobals "all" = some none)
    (b_any : PySem.W.nsIn K PySem.mainGlobals "any" = some none)
    (b_zip : PySem.W.nsIn K PySem.mainGlobals "zip" = some none)
    (b_len : PySem.W.nsIn K PySem.mainGlobals "len" = some none)
    (b_enumerate : PySem.W.nsIn K PySem.mainGlobals "enumerate" = some none)
    (b_range : PySem.W.nsIn K PySem.mainGlobals "range" = some none)
    (b_min : PySem.W.nsIn K PySem.mainGlobals "min" = some none)
    (b_max : PySem.W.nsIn K PySem.mainGlobals "max" = some none)
    (b_sum : PySem.W.nsIn K PySem.mainGlobals "sum" = some none)
    (b_list : PySem.W.nsIn K PySem.mainGlobals "list" = some none)
    (b_sorted : PySem.W.nsIn K PySem.mainGlobals "sorted" = some none)
    (b_set : PySem.W.nsIn K PySem.mainGlobals "set" = some none)
    (b_str : PySem.W.nsIn K PySem.mainGlobals "str" = some none)
    (b_dict : PySem.W.nsIn K PySem.mainGlobals "dict" = some none)
    {t_most : PySem.Tok} (b_most : PySem.W.nsIn K PySem.mainGlobals "MOST" = some (some (.int 8 t_most))) :
    ∃ fd : PySem.FuncData, (∀ (s : PySem.Shared) (v : PySem.Value), BindsTo s fd ⟨[v], []⟩ [("script", v)]) ∧ ∀ base : PySem.Heap, K.In base → base.Ns PySem.mainGlobals mg → L2.FnOk l.prog w K mg base L2.CX0 6 fa fd ["script"] (DL.Ct K (DL.lawRel 63)) :=
  law_ok X GN hfa ⟨PySem.W.mg_none_of X GN b_isinstance, PySem.W.mg_none_of X GN b_int, PySem.W.mg_none_of X GN b_bool, PySem.W.mg_none_of X GN b_tuple, PySem.W.mg_none_of X GN b_all, PySem.W.mg_none_of X GN b_any, PySem.W.mg_none_of X GN b_zip, PySem.W.mg_none_of X GN b_len, PySem.W.mg_none_of X GN b_enumerate, PySem.W.mg_none_of X GN b_range, PySem.W.mg_none_of X GN b_min, PySem.W.mg_none_of X GN b_max, PySem.W.mg_none_of X GN b_sum, PySem.W.mg_none_of X GN b_list, PySem.W.mg_none_of X GN b_sorted, PySem.W.mg_none_of X GN b_set, PySem.W.mg_none_of X GN b_str, PySem.W.mg_none_of X GN b_dict, ⟨_, PySem.W.mg_of X GN b_most⟩⟩ ⟨d_is_integer, d_is_rising, d_is_order, d_check_order, d_check_point, d_is_less, d_turned, d_without, d_dropped, d_law_cell_at, d_law_mixed, d_law_draw, d_law_pick, d_law_some_order, d_law_same_truth, d_law⟩
end G
open PyProof.Rows PySem PySem.W
set_option maxRecDepth 100000 in
set_option maxHeartbeats 0 in
theorem PySem.Challenge.cw_chainshapes_k01_whole_orders_holds : PySem.Challenge.rw_chainshapes_k01_whole_orders.Holds := by
  w_on; o_law; k_head; (case hw => w_witness2)
  k_fill
  refine DL.law_walk (k := 6) (l := PySem.Challenge.rw_chainshapes_k01_whole_orders) ⟨rfl, by decide, by decide⟩ rfl rfl (fun w h Y => PySem.W.kIn_of Y) ?F
  case F =>
    intro w mg fa h KX GN hmg
    refine' G.all_ok KX GN hmg (DL.df_mk ?a_is_integer ?l_is_integer ?c_is_integer ?k_is_integer) (DL.df_mk ?a_is_rising ?l_is_rising ?c_is_rising ?k_is_rising) (DL.df_mk ?a_is_order ?l_is_order ?c_is_order ?k_is_order) (DL.df_mk ?a_check_order ?l_check_order ?c_check_order ?k_check_order) (DL.df_mk ?a_check_point ?l_check_point ?c_check_point ?k_check_point) (DL.df_mk ?a_is_less ?l_is_less ?c_is_less ?k_is_less) (DL.df_mk ?a_turned ?l_turned ?c_turned ?k_turned) (DL.df_mk ?a_without ?l_without ?c_without ?k_without) (DL.df_mk ?a_dropped ?l_dropped ?c_dropped ?k_dropped) (DL.df_mk ?a_law_cell_at ?l_law_cell_at ?c_law_cell_at ?k_law_cell_at) (DL.df_mk ?a_law_mixed ?l_law_mixed ?c_law_mixed ?k_law_mixed) (DL.df_mk ?a_law_draw ?l_law_draw ?c_law_draw ?k_law_draw) (DL.df_mk ?a_law_pick ?l_law_pick ?c_law_pick ?k_law_pick) (DL.df_mk ?a_law_some_order ?l_law_some_order ?c_law_some_order ?k_law_some_order) (DL.df_mk ?a_law_same_truth ?l_law_same_truth ?c_law_same_truth ?k_law_same_truth) (DL.df_mk ?a_law ?l_law ?c_law ?k_law) ?b_isinstance ?b_int ?b_bool ?b_tuple ?b_all ?b_any ?b_zip ?b_len ?b_enumerate ?b_range ?b_min ?b_max ?b_sum ?b_list ?b_sorted ?b_set ?b_str ?b_dict ?b_most
    (case a_is_integer => k_is); (case l_is_integer => k_is); (case c_is_integer => k_is); (case k_is_integer => k_is)
    (case a_is_rising => k_is); (case l_is_rising => k_is); (case c_is_rising => k_is); (case k_is_rising => k_is)
    (case a_is_order => k_is); (case l_is_order => k_is); (case c_is_order => k_is); (case k_is_order => k_is)
    (case a_check_order => k_is); (case l_check_order => k_is); (case c_check_order => k_is); (case k_check_order => k_is)
    (case a_check_point => k_is); (case l_check_point => k_is); (case c_check_point => k_is); (case k_check_point => k_is)
    (case a_is_less => k_is); (case l_is_less => k_is); (case c_is_less => k_is); (case k_is_less => k_is)
    (case a_turned => k_is); (case l_turned => k_is); (case c_turned => k_is); (case k_turned => k_is)
    (case a_without => k_is); (case l_without => k_is); (case c_without => k_is); (case k_without => k_is)
    (case a_dropped => k_is); (case l_dropped => k_is); (case c_dropped => k_is); (case k_dropped => k_is)
    (case a_law_cell_at => k_is); (case l_law_cell_at => k_is); (case c_law_cell_at => k_is); (case k_law_cell_at => k_is)
    (case a_law_mixed => k_is); (case l_law_mixed => k_is); (case c_law_mixed => k_is); (case k_law_mixed => k_is)
    (case a_law_draw => k_is); (case l_law_draw => k_is); (case c_law_draw => k_is); (case k_law_draw => k_is)
    (case a_law_pick => k_is); (case l_law_pick => k_is); (case c_law_pick => k_is); (case k_law_pick => k_is)
    (case a_law_some_order => k_is); (case l_law_some_order => k_is); (case c_law_some_order => k_is); (case k_law_some_order => k_is)
    (case a_law_same_truth => k_is); (case l_law_same_truth => k_is); (case c_law_same_truth => k_is); (case k_law_same_truth => k_is)
    (case a_law => k_is); (case l_law => k_is); (case c_law => k_is); (case k_law => k_is)
    (case b_isinstance => k_is)
    (case b_int => k_is)
    (case b_bool => k_is)
    (case b_tuple => k_is)
    (case b_all => k_is)
    (case b_any => k_is)
    (case b_zip => k_is)
    (case b_len => k_is)
    (case b_enumerate => k_is)
    (case b_range => k_is)
    (case b_min => k_is)
    (case b_max => k_is)
    (case b_sum => k_is)
    (case b_list => k_is)
    (case b_sorted => k_is)
    (case b_set => k_is)
    (case b_str => k_is)
    (case b_dict => k_is)
    (case b_most => k_is)

