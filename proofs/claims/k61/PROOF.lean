import PyProof.Rows.All
import Wide.All
import OpenK.AllK
import Wide.FinOn
import HandS.ForMost
import HandS.TupAny
import HandS.IsInst
import HandS.SortKw
import KE.SortData
import KE.LtData
import HandS.Strs
import HandS.SetFor
import HandS.Walk
import KE.GoesMore
import KE.GoesEnum
import HandS.ExcInit
import HandS.ForExc
import KE.KDictCopyH
import KE.KDictZip
import KE.KDictKeyed
import HandS.TupLe
import PySem.Challenge.RW_wallplan_k61_whole_what_fits_is_put
import HandS.NoneIn
section
set_option Elab.async false
set_option linter.all false
set_option maxRecDepth 100000
set_option maxHeartbeats 2000000
namespace G
open PySem L2

/-! ### frozen data -/
mutual
inductive Rp (H : Hp) : V → PyData → Prop
  | non : Rp H .non .none
  | bl (b : Bool) : Rp H (.bl b) (.bool b)
  | int (i : Int) : Rp H (.int i) (.int i)
  | str (x : Str) : Rp H (.str x) (.str x)
  | lst {a : Addr} {xs : List V} {ds : List PyData} : H a = some (.lst xs) → RpL H xs ds → Rp H (.ref a) (.list ds)
  | tup {a : Addr} {xs : List V} {ds : List PyData} : H a = some (.tup xs) → RpL H xs ds → Rp H (.ref a) (.tuple ds)
inductive RpL (H : Hp) : List V → List PyData → Prop
  | nil : RpL H [] []
  | cons {v : V} {vs : List V} {d : PyData} {ds : List PyData} : Rp H v d → RpL H vs ds → RpL H (v :: vs) (d :: ds)
end
section
variable {H H' : Hp}
mutual
theorem Rp.mono (e : Same H H') : ∀ {v : V} {d : PyData}, Rp H v d → Rp H' v d
  | _, _, .non => .non
  | _, _, .bl b => .bl b
  | _, _, .int i => .int i
  | _, _, .str x => .str x
  | _, _, .lst h r => .lst (e _ _ h) (RpL.mono e r)
  | _, _, .tup h r => .tup (e _ _ h) (RpL.mono e r)
theorem RpL.mono (e : Same H H') : ∀ {vs : List V} {ds : List PyData}, RpL H vs ds → RpL H' vs ds
  | _, _, .nil => .nil
  | _, _, .cons h r => .cons (Rp.mono e h) (RpL.mono e r)
end
mutual
theorem Rp.dp {K : PySem.W.Frag} : ∀ {v : V} {d : PyData}, Rp H v d → Dp K H v d
  | _, _, .non => .non
  | _, _, .bl b => .bl b
  | _, _, .int i => .int i
  | _, _, .str x => .str x
  | _, _, .lst h r => .lst (SqL.of h) (RpL.dp r)
  | _, _, .tup h r => .tup (SqT.of h) (RpL.dp r)
theorem RpL.dp {K : PySem.W.Frag} : ∀ {vs : List V} {ds : List PyData}, RpL H vs ds → DpAll K H vs ds
  | _, _, .nil => .nil
  | _, _, .cons h r => .cons (Rp.dp h) (RpL.dp r)
end
theorem RpL.length : ∀ {vs : List V} {ds : List PyData}, RpL H vs ds → vs.length = ds.length
  | _, _, .nil => rfl
  | _, _, .cons _ r => congrArg (· + 1) r.length
theorem RpL.get : ∀ {vs : List V} {ds : List PyData}, RpL H vs ds → ∀ {i : Nat} {d : PyData}, ds[i]? = some d → ∃ v, vs[i]? = some v ∧ Rp H v d
  | _, _, .nil, i, d, e => by simp at e
  | _, _, .cons h r, 0, d, e => by
    simp at e; subst e; exact ⟨_, rfl, h⟩
  | _, _, .cons h r, i + 1, d, e => by
    obtain ⟨v, h1, h2⟩ := r.get (i := i) (d := d) (by simpa using e)
    exact ⟨v, by simpa using h1, h2⟩
theorem RpL.getV : ∀ {vs : List V} {ds : List PyData}, RpL H vs ds → ∀ {i : Nat} {v : V}, vs[i]? = some v → ∃ d, ds[i]? = some d ∧ Rp H v d
  | _, _, .nil, i, d, e => by simp at e
  | _, _, .cons h r, 0, d, e => by
    simp at e; subst e; exact ⟨_, rfl, h⟩
  | _, _, .cons h r, i + 1, d, e => by
    obtain ⟨v, h1, h2⟩ := r.getV (i := i) (v := d) (by simpa using e)
    exact ⟨v, by simpa using h1, h2⟩
theorem RpL.append : ∀ {vs : List V} {ds : List PyData}, RpL H vs ds → ∀ {ws : List V} {es : List PyData}, RpL H ws es → RpL H (vs ++ ws) (ds ++ es)
  | _, _, .nil, _, _, r => r
  | _, _, .cons h t, _, _, r => .cons h (t.append r)
theorem RpL.drop : ∀ (n : Nat) {vs : List V} {ds : List PyData}, RpL H vs ds → RpL H (vs.drop n) (ds.drop n)
  | 0, _, _, r => r
  | n + 1, _, _, .nil => .nil
  | n + 1, _, _, .cons _ t => RpL.drop n t
theorem RpL.take : ∀ (n : Nat) {vs : List V} {ds : List PyData}, RpL H vs ds → RpL H (vs.take n) (ds.take n)
  | 0, _, _, _ => .nil
  | n + 1, _, _, .nil => .nil
  | n + 1, _, _, .cons h t => .cons h (RpL.take n t)
theorem RpL.eraseIdx : ∀ {vs : List V} {ds : List PyData} (i : Nat), RpL H vs ds → RpL H (vs.eraseIdx i) (ds.eraseIdx i)
  | _, _, _, .nil => .nil
  | _, _, 0, .cons _ t => t
  | _, _, i + 1, .cons h t => .cons h (RpL.eraseIdx i t)
theorem RpL.ints : ∀ {vs : List V} {ns : List Int}, RpL H vs (ns.map PyData.int) → vs = ns.map V.int
  | _, [], h => by cases h; rfl
  | _, n :: ns, h => by
    cases h with
    | cons h1 h2 => cases h1; rw [RpL.ints h2]; rfl
theorem RpL.bools : ∀ {vs : List V} {ns : List Bool}, RpL H vs (ns.map PyData.bool) → vs = ns.map V.bl
  | _, [], h => by cases h; rfl
  | _, n :: ns, h => by
    cases h with
    | cons h1 h2 => cases h1; rw [RpL.bools h2]; rfl
theorem RpL.strs : ∀ {vs : List V} {ns : List Str}, RpL H vs (ns.map PyData.str) → vs = ns.map V.str
  | _, [], h => by cases h; rfl
  | _, n :: ns, h => by
    cases h with
    | cons h1 h2 => cases h1; rw [RpL.strs h2]; rfl
theorem RpL.ofInts : ∀ (ns : List Int), RpL H (ns.map V.int) (ns.map PyData.int)
  | [] => .nil
  | n :: ns => .cons (.int n) (RpL.ofInts ns)
end

/-- any frozen thing, by what is true of it -/
structure Mono where
  P : Hp → V → Prop
  mono : ∀ {H H' : Hp} {v : V}, Same H H' → P H v → P H' v
/-- what a name holds -/
inductive D where
  | py (d : PyData)
  | loc (p : Addr)
  | ab (M : Mono)
def Rq (H : Hp) (v : V) : D → Prop
  | .py d => Rp H v d
  | .loc p => v = .ref p
  | .ab M => M.P H v
theorem Rq.mono {H H' : Hp} (e : Same H H') {v : V} : ∀ {d : D}, Rq H v d → Rq H' v d
  | .py _, h => Rp.mono e h
  | .loc _, h => h
  | .ab M, h => M.mono e h
abbrev RqL (H : Hp) : List V → List D → Prop := Paired fun v d => Rq H v d
theorem RqL.mono {H H' : Hp} (e : Same H H') : ∀ {vs : List V} {ds : List D}, RqL H vs ds → RqL H' vs ds
  | _, _, .nil => .nil
  | _, _, .cons h r => .cons (Rq.mono e h) (RqL.mono e r)
theorem RqL.py {H : Hp} : ∀ {vs : List V} {ds : List PyData}, RqL H vs (ds.map D.py) → RpL H vs ds
  | _, [], h => by cases h; exact .nil
  | _, d :: ds, h => by
    cases h with
    | cons h1 h2 => exact .cons h1 (RqL.py h2)
theorem RqL.ofPy {H : Hp} : ∀ {vs : List V} {ds : List PyData}, RpL H vs ds → RqL H vs (ds.map D.py)
  | _, _, .nil => .nil
  | _, _, .cons h1 h2 => .cons h1 (RqL.ofPy h2)
abbrev I (i : Int) : D := .py (.int i)
abbrev B (b : Bool) : D := .py (.bool b)
abbrev S (s : Str) : D := .py (.str s)
abbrev N0 : D := .py .none

/-- what one's own object holds -/
inductive Own where
  | lst (ds : List D)
  | dk (kvs : List (Key × D))
  | dt (kvs : List (List Key × D))
  | feed (n : Nat)
  | raw (o : HO)
  | ob (C dx : Addr) (fs : List (Str × D))
def OwnOk (H : Hp) (o : HO) : Own → Prop
  | .lst ds => ∃ vs, o = .lst vs ∧ RqL H vs ds
  | .dk kvs => ∃ ws, o = .dK ws ∧ ws.map (·.1) = kvs.map (·.1) ∧ RqL H (ws.map (·.2)) (kvs.map (·.2))
  | .dt kvs => ∃ ws, o = .dT ws ∧ ws.map (·.1) = kvs.map (·.1) ∧ RqL H (ws.map (·.2)) (kvs.map (·.2))
  | .feed n => ∃ (l : Addr) (at_ rest : Int) (ns : List Int), o = .lst [.ref l, .int at_, .int rest] ∧ H l = some (.lst (ns.map V.int)) ∧ ns.length ≤ 63 ∧ 0 ≤ at_ ∧ at_ ≤ n ∧ 0 ≤ rest
  | .raw u => o = u ∧ ∀ xs, u ≠ .tup xs
  | .ob C dx fs => ∃ ws, o = .ins C dx ws ∧ ws.map (·.1) = fs.map (·.1) ∧ RqL H (ws.map (·.2)) (fs.map (·.2))
theorem OwnOk.mono {H H' : Hp} (e : Same H H') {o : HO} : ∀ {w : Own}, OwnOk H o w → OwnOk H' o w
  | .lst _, ⟨vs, h1, h2⟩ => ⟨vs, h1, h2.mono e⟩
  | .dk _, ⟨vs, h1, h2, h3⟩ => ⟨vs, h1, h2, h3.mono e⟩
  | .dt _, ⟨vs, h1, h2, h3⟩ => ⟨vs, h1, h2, h3.mono e⟩
  | .feed _, ⟨l, a, r, ns, h1, h2, h3⟩ => ⟨l, a, r, ns, h1, e _ _ h2, h3⟩
  | .raw _, h => h
  | .ob _ _ _, ⟨vs, h1, h2, h3⟩ => ⟨vs, h1, h2, h3.mono e⟩
theorem OwnOk.nt {H : Hp} {o : HO} : ∀ {w : Own}, OwnOk H o w → ∀ xs, o ≠ .tup xs
  | .lst _, ⟨vs, h1, _⟩, xs, e => by rw [h1] at e; cases e
  | .dk _, ⟨vs, h1, _⟩, xs, e => by rw [h1] at e; cases e
  | .dt _, ⟨vs, h1, _⟩, xs, e => by rw [h1] at e; cases e
  | .feed _, ⟨l, a, r, ns, h1, _⟩, xs, e => by rw [h1] at e; cases e
  | .raw _, ⟨h1, h2⟩, xs, e => by rw [h1] at e; exact h2 xs e
  | .ob _ _ _, ⟨vs, h1, _⟩, xs, e => by rw [h1] at e; cases e
abbrev Om := List (Addr × Own)
abbrev En := List (Option D)

/-- the heaps: H0 frozen within H; one's own objects stand in H alone -/
structure Hs (Ω : Om) (H0 H : Hp) : Prop where
  ex : Same H0 H
  own : ∀ q ∈ Ω, H0 q.1 = none ∧ ∃ o, H q.1 = some o ∧ OwnOk H0 o q.2
  nd : (Ω.map (·.1)).Nodup
structure Sl (Γ : En) (σ : St) (H0 : Hp) : Prop where
  len : σ.length = Γ.length
  at_ : ∀ (i : Nat) (d : D), Γ[i]? = some (some d) → ∃ v, σ[i]? = some (some v) ∧ Rq H0 v d
theorem Sl.mono {Γ : En} {σ : St} {H H' : Hp} (s : Sl Γ σ H) (e : Same H H') : Sl Γ σ H' := ⟨s.len, fun i d h => by
  obtain ⟨v, h1, h2⟩ := s.at_ i d h
  exact ⟨v, h1, h2.mono e⟩⟩
structure Step (Ω Ω' : Om) (H0 H H0' H' : Hp) : Prop where
  ex : Same H0 H0'
  keep : ∀ a o, H a = some o → a ∉ Ω.map (·.1) → H' a = some o ∧ (H0 a = none → (∀ xs, o ≠ .tup xs) → H0' a = none)
  new : ∀ a ∈ Ω'.map (·.1), a ∈ Ω.map (·.1) ∨ H a = none
theorem Step.refl (Ω : Om) (H0 H : Hp) : Step Ω Ω H0 H H0 H := ⟨.refl _, fun _ _ h _ => ⟨h, fun h0 _ => h0⟩, fun _ h => .inl h⟩
theorem Step.trans {Ω Ω1 Ω2 : Om} {H0 H H01 H1 H02 H2 : Hp} (a : Step Ω Ω1 H0 H H01 H1) (b : Step Ω1 Ω2 H01 H1 H02 H2) (e : Same H01 H1) : Step Ω Ω2 H0 H H02 H2 where
  ex := a.ex.trans b.ex
  keep := fun x o h hx => by
    obtain ⟨k1, k2⟩ := a.keep x o h hx
    obtain ⟨k3, k4⟩ := b.keep x o k1 fun hm => by
      rcases a.new x hm with q | q
      · exact hx q
      · rw [h] at q; cases q
    exact ⟨k3, fun h0 nt => k4 (k2 h0 nt) nt⟩
  new := fun x hx => by
    rcases b.new x hx with q | q
    · exact a.new x q
    · by_cases hm : x ∈ Ω.map (·.1)
      · exact .inl hm
      · refine .inr ?_
        cases h : H x with
        | none => rfl
        | some o =>
          rw [(a.keep x o h hm).1] at q; cases q

/-! ### what evaluates -/
def EvW (te : TE) (Γ : En) (Ω : Om) (Q : D → Om → Prop) : Prop := ∀ (σ : St) (H0 H : Hp) (R : VK), Sl Γ σ H0 → Hs Ω H0 H →
  (∀ v d Ω' H0' H', Q d Ω' → Hs Ω' H0' H' → Step Ω Ω' H0 H H0' H' → Rq H0' v d → R v H') → te σ H R
def EvD (te : TE) (Γ : En) (Ω : Om) (d : D) : Prop := ∀ Q : D → Om → Prop, Q d Ω → EvW te Γ Ω Q
def TsW (t : TT) (Γ : En) (Ω : Om) (Q : Bool → Om → Prop) : Prop := ∀ (σ : St) (H0 H : Hp) (R : Bool → Hp → Prop), Sl Γ σ H0 → Hs Ω H0 H →
  (∀ b Ω' H0' H', Q b Ω' → Hs Ω' H0' H' → Step Ω Ω' H0 H H0' H' → R b H') → t σ H R
def TsD (t : TT) (Γ : En) (Ω : Om) (b : Bool) : Prop := ∀ Q : Bool → Om → Prop, Q b Ω → TsW t Γ Ω Q
def ArW (t : TA) (Γ : En) (Ω : Om) (Q : List D → Om → Prop) : Prop := ∀ (σ : St) (H0 H : Hp) (R : List V → Hp → Prop), Sl Γ σ H0 → Hs Ω H0 H →
  (∀ vs ds Ω' H0' H', Q ds Ω' → Hs Ω' H0' H' → Step Ω Ω' H0 H H0' H' → RqL H0' vs ds → R vs H') → t σ H R
def ArD (t : TA) (Γ : En) (Ω : Om) (ds : List D) : Prop := ∀ Q : List D → Om → Prop, Q ds Ω → ArW t Γ Ω Q

section
variable {Γ : En} {Ω : Om} {te ta tb tc : TE} {tt tu : TT}
theorem EvD.w {d : D} (h : EvD te Γ Ω d) {Q : D → Om → Prop} (q : Q d Ω) : EvW te Γ Ω Q := h Q q
theorem EvW.imp {Q Q' : D → Om → Prop} (h : EvW te Γ Ω Q) (q : ∀ d Ω', Q d Ω' → Q' d Ω') : EvW te Γ Ω Q' := fun σ H0 H R s g k =>
  h σ H0 H R s g fun v d Ω' H0' H' a => k v d Ω' H0' H' (q _ _ a)
/-- one after another -/
theorem EvW.bind {Q : D → Om → Prop} {σ : St} {H0 H : Hp} {R : VK} (h : EvW te Γ Ω Q) (s : Sl Γ σ H0) (g : Hs Ω H0 H)
    (k : ∀ v d Ω' H0' H', Q d Ω' → Sl Γ σ H0' → Hs Ω' H0' H' → Step Ω Ω' H0 H H0' H' → Rq H0' v d → R v H') : te σ H R :=
  h σ H0 H R s g fun v d Ω' H0' H' a b c e => k v d Ω' H0' H' a (s.mono c.ex) b c e
theorem ev_var {i : Nat} {d : D} (h : Γ[i]? = some (some d)) : EvD (tVar i) Γ Ω d := fun Q q σ H0 H R s g k => by
  obtain ⟨v, h1, h2⟩ := s.at_ i d h
  exact ⟨v, h1, k v d Ω H0 H q g (.refl _ _ _) h2⟩
theorem ev_py {v : V} {d : PyData} (r : ∀ H, Rp H v d) : EvD (tC v) Γ Ω (.py d) := fun Q q σ H0 H R s g k => k v _ Ω H0 H q g (.refl _ _ _) (r _)
theorem ev_int {i : Int} : EvD (tC (.int i)) Γ Ω (I i) := ev_py fun _ => .int i
theorem ev_bl {b : Bool} : EvD (tC (.bl b)) Γ Ω (B b) := ev_py fun _ => .bl b
theorem ev_non : EvD (tC .non) Γ Ω N0 := ev_py fun _ => .non
theorem ev_str {x : Str} : EvD (tC (.str x)) Γ Ω (S x) := ev_py fun _ => .str x
/-- two operands in WP form -/
theorem op_w {r : R2} {Q : D → Om → Prop} (h : EvW ta Γ Ω fun x Ω1 => EvW tb Γ Ω1 fun y Ω2 => ∀ (v u : V) (σ : St) (H0 H : Hp) (R : VK), Sl Γ σ H0 → Hs Ω2 H0 H → Rq H0 v x → Rq H0 u y →
    (∀ z d Ω' H0' H', Q d Ω' → Hs Ω' H0' H' → Step Ω2 Ω' H0 H H0' H' → Rq H0' z d → R z H') → r v u H R) : EvW (tOp r ta tb) Γ Ω Q := fun σ H0 H R s g k =>
  h.bind s g fun v x Ω1 H01 H1 q1 s1 g1 c1 r1 => q1.bind s1 g1 fun u y Ω2 H02 H2 q2 s2 g2 c2 r2 =>
    q2 v u σ H02 H2 R s2 g2 (r1.mono c2.ex) r2 fun z d Ω' H0' H' a b c e => k z d Ω' H0' H' a b ((c1.trans c2 g1.ex).trans c g2.ex) e
/-- .. in D form: the operation is by values and gives a scalar -/
theorem op_d {r : R2} {x y z : D} (ha : EvD ta Γ Ω x) (hb : EvD tb Γ Ω y) (hr : ∀ (v u : V) (H0 H : Hp) (R : VK), Hs Ω H0 H → Rq H0 v x → Rq H0 u y →
    (∀ w H0' H', Hs Ω H0' H' → Step Ω Ω H0 H H0' H' → Rq H0' w z → R w H') → r v u H R) : EvD (tOp r ta tb) Γ Ω z := fun Q q =>
  op_w (ha.w (hb.w fun v u σ H0 H R s g rv ru k => hr v u H0 H R g rv ru fun w H0' H' a b c => k w z Ω H0' H' q a b c))
theorem ev_i0 {f : Int → Int → Int} {i j : Int} (ha : EvD ta Γ Ω (I i)) (hb : EvD tb Γ Ω (I j)) : EvD (tOp (rI0 fun i j => .int (f i j)) ta tb) Γ Ω (I (f i j)) :=
  op_d ha hb fun v u H0 H R g rv ru k => by
    cases rv; cases ru
    exact ⟨i, j, rfl, rfl, k _ H0 H g (.refl _ _ _) (.int _)⟩
theorem ev_iB {f : Int → Int → Bool} {i j : Int} (ha : EvD ta Γ Ω (I i)) (hb : EvD tb Γ Ω (I j)) : EvD (tOp (rI0 fun i j => .bl (f i j)) ta tb) Γ Ω (B (f i j)) :=
  op_d ha hb fun v u H0 H R g rv ru k => by
    cases rv; cases ru
    exact ⟨i, j, rfl, rfl, k _ H0 H g (.refl _ _ _) (.bl _)⟩
theorem ev_iC {C : Int → Int → Prop} {f : Int → Int → Int} {i j : Int} (ha : EvD ta Γ Ω (I i)) (hb : EvD tb Γ Ω (I j)) (hc : C i j) : EvD (tOp (rI C fun i j => .int (f i j)) ta tb) Γ Ω (I (f i j)) :=
  op_d ha hb fun v u H0 H R g rv ru k => by
    cases rv; cases ru
    exact ⟨i, j, rfl, rfl, hc, k _ H0 H g (.refl _ _ _) (.int _)⟩
theorem ev_chain {p q : Int → Int → Bool} {i j l : Int} (ha : EvD ta Γ Ω (I i)) (hb : EvD tb Γ Ω (I j)) (hc : EvD tc Γ Ω (I l)) :
    EvD (tChain (rI0 fun i j => .bl (p i j)) (rI0 fun i j => .bl (q i j)) ta tb tc) Γ Ω (B (p i j && q j l)) := fun Q hq σ H0 H R s g k =>
  (ha.w (Q := fun x Ω1 => x = I i ∧ Ω1 = Ω) ⟨rfl, rfl⟩).bind s g fun v x Ω1 H01 H1 q1 s1 g1 c1 r1 => by
    obtain ⟨rfl, rfl⟩ := q1
    refine (hb.w (Q := fun x Ω2 => x = I j ∧ Ω2 = Ω1) ⟨rfl, rfl⟩).bind s1 g1 fun u y Ω2 H02 H2 q2 s2 g2 c2 r2 => ?_
    obtain ⟨rfl, rfl⟩ := q2
    cases r1
    cases r2
    refine ⟨i, j, rfl, rfl, p i j, rfl, ?_⟩
    cases hp : p i j with
    | false =>
      rw [if_neg Bool.false_ne_true]
      exact k _ (B (p i j && q j l)) Ω2 H02 H2 hq g2 (c1.trans c2 g1.ex) (by rw [hp]; exact .bl _)
    | true =>
      rw [if_pos rfl]
      refine (hc.w (Q := fun x Ω3 => x = I l ∧ Ω3 = Ω2) ⟨rfl, rfl⟩).bind s2 g2 fun w z Ω3 H03 H3 q3 s3 g3 c3 r3 => ?_
      obtain ⟨rfl, rfl⟩ := q3
      cases r3
      exact ⟨j, l, rfl, rfl, k _ (B (p i j && q j l)) Ω3 H03 H3 hq g3 ((c1.trans c2 g1.ex).trans c3 g2.ex) (by rw [hp]; exact .bl _)⟩
/-! tests -/
theorem ts_B {b : Bool} (h : EvD te Γ Ω (B b)) : TsD (tB te) Γ Ω b := fun Q q σ H0 H R s g k =>
  (h.w (Q := fun x Ω1 => x = B b ∧ Ω1 = Ω) ⟨rfl, rfl⟩).bind s g fun v x Ω1 H01 H1 q1 s1 g1 c1 r1 => by
    obtain ⟨rfl, rfl⟩ := q1
    cases r1
    exact ⟨b, rfl, k b Ω1 H01 H1 q g1 c1⟩
theorem ts_T {b : Bool} (h : EvD te Γ Ω (B b)) : TsD (tTest te) Γ Ω b := ts_B h
theorem TsD.bind {b : Bool} {σ : St} {H0 H : Hp} {R : Bool → Hp → Prop} (h : TsD tt Γ Ω b) (s : Sl Γ σ H0) (g : Hs Ω H0 H)
    (k : ∀ H0' H', Sl Γ σ H0' → Hs Ω H0' H' → Step Ω Ω H0 H H0' H' → R b H') : tt σ H R :=
  h (fun c Ω' => c = b ∧ Ω' = Ω) ⟨rfl, rfl⟩ σ H0 H R s g fun c Ω' H0' H' q a e => by
    obtain ⟨rfl, rfl⟩ := q
    exact k H0' H' (s.mono e.ex) a e
theorem EvD.bind {d : D} {σ : St} {H0 H : Hp} {R : VK} (h : EvD te Γ Ω d) (s : Sl Γ σ H0) (g : Hs Ω H0 H)
    (k : ∀ v H0' H', Sl Γ σ H0' → Hs Ω H0' H' → Step Ω Ω H0 H H0' H' → Rq H0' v d → R v H') : te σ H R :=
  h (fun c Ω' => c = d ∧ Ω' = Ω) ⟨rfl, rfl⟩ σ H0 H R s g fun v c Ω' H0' H' q a e r => by
    obtain ⟨rfl, rfl⟩ := q
    exact k v H0' H' (s.mono e.ex) a e r
theorem ts_and {a b : Bool} (h1 : TsD tt Γ Ω a) (h2 : a = true → TsD tu Γ Ω b) : TsD (tAnd tt tu) Γ Ω (a && b) := fun Q q σ H0 H R s g k =>
  h1.bind s g fun H01 H1 s1 g1 c1 => by
    cases a with
    | true => exact (h2 rfl).bind s1 g1 fun H02 H2 s2 g2 c2 => k b Ω H02 H2 q g2 (c1.trans c2 g1.ex)
    | false => exact k false Ω H01 H1 q g1 c1
theorem ts_or {a b : Bool} (h1 : TsD tt Γ Ω a) (h2 : a = false → TsD tu Γ Ω b) : TsD (tOr tt tu) Γ Ω (a || b) := fun Q q σ H0 H R s g k =>
  h1.bind s g fun H01 H1 s1 g1 c1 => by
    cases a with
    | false => exact (h2 rfl).bind s1 g1 fun H02 H2 s2 g2 c2 => k b Ω H02 H2 q g2 (c1.trans c2 g1.ex)
    | true => exact k true Ω H01 H1 q g1 c1
theorem ts_not {a : Bool} (h1 : TsD tt Γ Ω a) : TsD (tNot tt) Γ Ω (!a) := fun Q q σ H0 H R s g k =>
  h1.bind s g fun H01 H1 s1 g1 c1 => k (!a) Ω H01 H1 q g1 c1
theorem ev_and {a b : Bool} (h1 : EvD ta Γ Ω (B a)) (h2 : a = true → EvD tb Γ Ω (B b)) : EvD (tAndV ta tb) Γ Ω (B (a && b)) := fun Q q σ H0 H R s g k =>
  h1.bind s g fun v H01 H1 s1 g1 c1 r1 => by
    cases r1
    refine ⟨a, rfl, ?_⟩
    cases a with
    | true => exact (h2 rfl).bind s1 g1 fun v H02 H2 s2 g2 c2 r2 => k v _ Ω H02 H2 q g2 (c1.trans c2 g1.ex) r2
    | false => exact k _ _ Ω H01 H1 q g1 c1 (.bl _)
theorem ev_or {a b : Bool} (h1 : EvD ta Γ Ω (B a)) (h2 : a = false → EvD tb Γ Ω (B b)) : EvD (tOrV ta tb) Γ Ω (B (a || b)) := fun Q q σ H0 H R s g k =>
  h1.bind s g fun v H01 H1 s1 g1 c1 r1 => by
    cases r1
    refine ⟨a, rfl, ?_⟩
    cases a with
    | false => exact (h2 rfl).bind s1 g1 fun v H02 H2 s2 g2 c2 r2 => k v _ Ω H02 H2 q g2 (c1.trans c2 g1.ex) r2
    | true => exact k _ _ Ω H01 H1 q g1 c1 (.bl _)
theorem ev_not {a : Bool} (h1 : EvD ta Γ Ω (B a)) : EvD (tNotV ta) Γ Ω (B (!a)) := fun Q q σ H0 H R s g k =>
  h1.bind s g fun v H01 H1 s1 g1 c1 r1 => by
    cases r1
    exact ⟨a, rfl, k _ _ Ω H01 H1 q g1 c1 (.bl _)⟩
theorem ev_if {b : Bool} {d d' : D} (h : TsD tt Γ Ω b) (h1 : b = true → EvD ta Γ Ω d) (h2 : b = false → EvD tb Γ Ω d') : EvD (tIf tt ta tb) Γ Ω (if b then d else d') := fun Q q σ H0 H R s g k =>
  h.bind s g fun H01 H1 s1 g1 c1 => by
    cases b with
    | true => exact (h1 rfl).bind s1 g1 fun v H02 H2 s2 g2 c2 r2 => k v _ Ω H02 H2 q g2 (c1.trans c2 g1.ex) r2
    | false => exact (h2 rfl).bind s1 g1 fun v H02 H2 s2 g2 c2 r2 => k v _ Ω H02 H2 q g2 (c1.trans c2 g1.ex) r2
/-! arguments -/
theorem ar_nil : ArD tNil Γ Ω [] := fun Q q σ H0 H R s g k => k [] [] Ω H0 H q g (.refl _ _ _) .nil
theorem ArD.bind {t : TA} {ds : List D} {σ : St} {H0 H : Hp} {R : List V → Hp → Prop} (h : ArD t Γ Ω ds) (s : Sl Γ σ H0) (g : Hs Ω H0 H)
    (k : ∀ vs H0' H', Sl Γ σ H0' → Hs Ω H0' H' → Step Ω Ω H0 H H0' H' → RqL H0' vs ds → R vs H') : t σ H R :=
  h (fun c Ω' => c = ds ∧ Ω' = Ω) ⟨rfl, rfl⟩ σ H0 H R s g fun v c Ω' H0' H' q a e r => by
    obtain ⟨rfl, rfl⟩ := q
    exact k v H0' H' (s.mono e.ex) a e r
theorem ar_cons {t : TA} {d : D} {ds : List D} (h : EvD te Γ Ω d) (hr : ArD t Γ Ω ds) : ArD (tCons te t) Γ Ω (d :: ds) := fun Q q σ H0 H R s g k =>
  h.bind s g fun v H01 H1 s1 g1 c1 r1 => hr.bind s1 g1 fun vs H02 H2 s2 g2 c2 r2 => k (v :: vs) _ Ω H02 H2 q g2 (c1.trans c2 g1.ex) (.cons (r1.mono c2.ex) r2)
theorem ar_consW {t : TA} {Q : List D → Om → Prop} (h : EvW te Γ Ω fun d Ω1 => ArW t Γ Ω1 fun ds Ω2 => Q (d :: ds) Ω2) : ArW (tCons te t) Γ Ω Q := fun σ H0 H R s g k =>
  h.bind s g fun v d Ω1 H01 H1 q1 s1 g1 c1 r1 => q1 σ H01 H1 _ s1 g1 fun vs ds Ω2 H02 H2 q2 g2 c2 r2 => k (v :: vs) _ Ω2 H02 H2 q2 g2 (c1.trans c2 g1.ex) (.cons (r1.mono c2.ex) r2)
/-! a new frozen object -/
theorem Hs.frz {H0 H : Hp} (g : Hs Ω H0 H) {p : Addr} (hp : H p = none) (o : HO) : Hs Ω (upd H0 p o) (upd H p o) ∧ Step Ω Ω H0 H (upd H0 p o) (upd H p o) := by
  have hp0 : H0 p = none := Same.free g.ex hp
  have ex0 : Same H0 (upd H0 p o) := fun b u e => by rw [upd_ne (ne_of_none e hp0)]; exact e
  have ex1 : Same H (upd H p o) := fun b u e => by rw [upd_ne (ne_of_none e hp)]; exact e
  refine ⟨⟨fun b u e => ?_, fun q hq => ?_, g.nd⟩, ex0, fun a u h _ => ⟨ex1 a u h, fun h0 _ => by rw [upd_ne (ne_of_none h hp)]; exact h0⟩, fun a h => .inl h⟩
  · by_cases hb : b = p
    · subst hb; rw [upd_same] at e ⊢; exact e
    · rw [upd_ne hb] at e ⊢; exact g.ex b u e
  · obtain ⟨h1, u, h2, h3⟩ := g.own q hq
    have hn := ne_of_none h2 hp
    exact ⟨by rw [upd_ne hn]; exact h1, u, by rw [upd_ne hn]; exact h2, h3.mono ex0⟩
theorem ev_tup {t : TA} {ds : List PyData} (h : ArD t Γ Ω (ds.map D.py)) (hz : ds.length ≤ 1000 := by first | exact Nat.le_of_ble_eq_true rfl | (simp only [List.length_cons, List.length_nil]; omega) | omega) : EvD (tTup t) Γ Ω (.py (.tuple ds)) := fun Q q σ H0 H R s g k =>
  h.bind s g fun vs H01 H1 s1 g1 c1 r1 => by
    have r := RqL.py r1
    refine ⟨by rw [r.length]; exact Nat.le_trans hz (by decide), fun p hp => ?_⟩
    obtain ⟨g2, c2⟩ := g1.frz hp (.tup vs)
    exact k _ _ Ω _ _ q g2 (c1.trans c2 g1.ex) (.tup upd_same (r.mono c2.ex))
theorem ev_lst {t : TA} {ds : List PyData} (h : ArD t Γ Ω (ds.map D.py)) (hz : ds.length ≤ 1000 := by first | exact Nat.le_of_ble_eq_true rfl | (simp only [List.length_cons, List.length_nil]; omega) | omega) : EvD (tLst t) Γ Ω (.py (.list ds)) := fun Q q σ H0 H R s g k =>
  h.bind s g fun vs H01 H1 s1 g1 c1 r1 => by
    have r := RqL.py r1
    refine ⟨by rw [r.length]; exact Nat.le_trans hz (by decide), fun p hp => ?_⟩
    obtain ⟨g2, c2⟩ := g1.frz hp (.lst vs)
    exact k _ _ Ω _ _ q g2 (c1.trans c2 g1.ex) (.lst upd_same (r.mono c2.ex))
/-! subscripts, slices, + -/
theorem atI_map {α β : Type} {xs : List α} {ys : List β} (hl : xs.length = ys.length) {i : Int} {y : β} (h : atI ys i = some y) {P : α → β → Prop} (hp : ∀ (j : Nat), ys[j]? = some y → ∃ x, xs[j]? = some x ∧ P x y) : ∃ x, atI xs i = some x ∧ P x y := by
  unfold atI at h ⊢
  rw [hl]
  cases e : ixN ys.length i with
  | none => rw [e] at h; cases h
  | some j =>
    rw [e] at h
    obtain ⟨x, h1, h2⟩ := hp j h
    exact ⟨x, h1, h2⟩
theorem ev_ixT {K : PySem.W.Frag} {ds : List PyData} {i : Int} {d : PyData} (ha : EvD ta Γ Ω (.py (.tuple ds))) (hb : EvD tb Γ Ω (I i)) (h : atI ds i = some d) : EvD (tOp (rIxT K) ta tb) Γ Ω (.py d) :=
  op_d ha hb fun v u H0 H R g rv ru k => by
    cases ru
    cases rv with
    | tup h1 r =>
      obtain ⟨x, e1, e2⟩ := atI_map r.length h (P := Rp H0) fun j hj => r.get hj
      exact ⟨_, _, i, x, rfl, rfl, SqT.of (g.ex _ _ h1), e1, k x H0 H g (.refl _ _ _) e2⟩
theorem ev_ixL {K : PySem.W.Frag} {ds : List PyData} {i : Int} {d : PyData} (ha : EvD ta Γ Ω (.py (.list ds))) (hb : EvD tb Γ Ω (I i)) (h : atI ds i = some d) : EvD (tOp (rIxL K) ta tb) Γ Ω (.py d) :=
  op_d ha hb fun v u H0 H R g rv ru k => by
    cases ru
    cases rv with
    | lst h1 r =>
      obtain ⟨x, e1, e2⟩ := atI_map r.length h (P := Rp H0) fun j hj => r.get hj
      exact ⟨_, _, i, x, rfl, rfl, SqL.of (g.ex _ _ h1), e1, k x H0 H g (.refl _ _ _) e2⟩
/-- a slice with written ends -/
def cutD (ds : List PyData) (lo hi : Option Int) : List PyData := (ds.drop (HT.sIx ds.length 0 lo)).take (HT.sIx ds.length ds.length hi - HT.sIx ds.length 0 lo)
def OpD (to : TO) (o : Option Int) : Prop := ∀ (σ : St) (H : Hp) (R : Option Int → Hp → Prop), R o H → to σ H R
theorem po_n : OpD tNoPart none := fun _ _ _ h => h
theorem po_c {i : Int} : OpD (tPart (tC (.int i))) (some i) := fun _ _ _ h => ⟨i, rfl, h⟩
theorem cut_rp {H : Hp} {xs : List V} {ds : List PyData} (r : RpL H xs ds) (lo hi : Option Int) : RpL H (cutV xs lo hi) (cutD ds lo hi) := by
  unfold cutV cutD
  rw [r.length]
  exact (r.drop _).take _
theorem cut_whole {ds : List PyData} {lo hi : Option Int} (h : HT.sIx ds.length 0 lo = 0 ∧ HT.sIx ds.length ds.length hi = ds.length) : cutD ds lo hi = ds := by
  unfold cutD
  rw [h.1, h.2]; simp
theorem ev_slT {K : PySem.W.Frag} {tl th : TO} {lo hi : Option Int} {ds : List PyData} (ha : EvD ta Γ Ω (.py (.tuple ds))) (hl : OpD tl lo) (hh : OpD th hi) : EvD (tSl (rSlA K) ta tl th) Γ Ω (.py (.tuple (cutD ds lo hi))) := fun Q q σ H0 H R s g k =>
  ha.bind s g fun v H01 H1 s1 g1 c1 r1 => hl σ H1 _ (hh σ H1 _ (by
    cases r1 with
    | tup h1 r =>
      rename_i a xs
      have el : xs.length = ds.length := r.length
      refine ⟨a, xs, rfl, SqT.of (g1.ex _ _ h1), fun hw => ?_, fun _ p hp => ?_⟩
      · rw [el] at hw
        refine k _ _ Ω H01 H1 q g1 c1 ?_
        rw [cut_whole hw]
        exact .tup h1 r
      · obtain ⟨g2, c2⟩ := g1.frz hp (.tup (cutV xs lo hi))
        exact k _ _ Ω _ _ q g2 (c1.trans c2 g1.ex) (.tup upd_same ((cut_rp r lo hi).mono c2.ex))))
theorem ev_slL {K : PySem.W.Frag} {tl th : TO} {lo hi : Option Int} {ds : List PyData} (ha : EvD ta Γ Ω (.py (.list ds))) (hl : OpD tl lo) (hh : OpD th hi) : EvD (tSl (rSlL K) ta tl th) Γ Ω (.py (.list (cutD ds lo hi))) := fun Q q σ H0 H R s g k =>
  ha.bind s g fun v H01 H1 s1 g1 c1 r1 => hl σ H1 _ (hh σ H1 _ (by
    cases r1 with
    | lst h1 r =>
      rename_i a xs
      have el : xs.length = ds.length := r.length
      refine ⟨a, xs, rfl, SqL.of (g1.ex _ _ h1), fun p hp => ?_⟩
      obtain ⟨g2, c2⟩ := g1.frz hp (.lst (cutV xs lo hi))
      exact k _ _ Ω _ _ q g2 (c1.trans c2 g1.ex) (.lst upd_same ((cut_rp r lo hi).mono c2.ex))))
theorem RpL.nil_iff {H : Hp} {vs : List V} {ds : List PyData} (r : RpL H vs ds) : vs = [] ↔ ds = [] := by
  cases r <;> simp
theorem ev_catT {K : PySem.W.Frag} {ds es : List PyData} (ha : EvD ta Γ Ω (.py (.tuple ds))) (hb : EvD tb Γ Ω (.py (.tuple es))) (hz : ds.length + es.length ≤ 10000 := by first | exact Nat.le_of_ble_eq_true rfl | (simp only [List.length_cons, List.length_nil]; omega) | omega) : EvD (tOp (rCatA K) ta tb) Γ Ω (.py (.tuple (ds ++ es))) :=
  op_d ha hb fun v u H0 H R g rv ru k => by
    cases rv with
    | tup h1 r =>
      cases ru with
      | tup h2 r2 =>
        refine ⟨_, _, _, _, rfl, rfl, SqT.of (g.ex _ _ h1), SqT.of (g.ex _ _ h2), by rw [r.length, r2.length]; exact Nat.le_trans hz (by decide), fun e => ?_, fun _ e => ?_, fun _ _ p hp => ?_⟩
        · rw [r.nil_iff] at e
          subst e
          exact k _ H0 H g (.refl _ _ _) (.tup h2 r2)
        · rw [r2.nil_iff] at e
          subst e
          rw [List.append_nil] at k
          exact k _ H0 H g (.refl _ _ _) (.tup h1 r)
        · obtain ⟨g2, c2⟩ := g.frz hp (.tup _)
          exact k _ _ _ g2 c2 (.tup upd_same ((r.append r2).mono c2.ex))
theorem ev_catL {ds es : List PyData} (ha : EvD ta Γ Ω (.py (.list ds))) (hb : EvD tb Γ Ω (.py (.list es))) (hz : ds.length + es.length ≤ 10000 := by first | exact Nat.le_of_ble_eq_true rfl | (simp only [List.length_cons, List.length_nil]; omega) | omega) : EvD (tOp rCat ta tb) Γ Ω (.py (.list (ds ++ es))) :=
  op_d ha hb fun v u H0 H R g rv ru k => by
    cases rv with
    | lst h1 r =>
      cases ru with
      | lst h2 r2 =>
        refine ⟨_, _, _, _, rfl, rfl, g.ex _ _ h1, g.ex _ _ h2, by rw [r.length, r2.length]; exact Nat.le_trans hz (by decide), fun p hp => ?_⟩
        obtain ⟨g2, c2⟩ := g.frz hp (.lst _)
        exact k _ _ _ g2 c2 (.lst upd_same ((r.append r2).mono c2.ex))
end
end G
end

section
set_option Elab.async false
set_option linter.all false
set_option maxRecDepth 100000
set_option maxHeartbeats 2000000
namespace G
open PySem L2
open PyProof.Rows (envOfC)

/-! ### the frame -/
theorem Hs.perm {Ω Ω2 : Om} {H0 H : Hp} (g : Hs Ω H0 H) (p : Ω.Perm Ω2) : Hs Ω2 H0 H :=
  ⟨g.ex, fun q hq => g.own q (p.mem_iff.mpr hq), (p.map _).nodup_iff.mp g.nd⟩
theorem Hs.left {Ω Ωr : Om} {H0 H : Hp} (g : Hs (Ω ++ Ωr) H0 H) : Hs Ω H0 H :=
  ⟨g.ex, fun q hq => g.own q (List.mem_append_left _ hq), by
    have := g.nd
    rw [List.map_append] at this
    exact (List.nodup_append.mp this).1⟩
theorem Hs.nil {Ω : Om} {H0 H : Hp} (g : Hs Ω H0 H) : Hs [] H0 H := ⟨g.ex, fun q hq => (List.not_mem_nil hq).elim, List.nodup_nil⟩
theorem frame {Ω Ω' Ωr : Om} {H0 H H0' H' : Hp} (g : Hs (Ω ++ Ωr) H0 H) (g' : Hs Ω' H0' H') (c : Step Ω Ω' H0 H H0' H') : Hs (Ω' ++ Ωr) H0' H' ∧ Step (Ω ++ Ωr) (Ω' ++ Ωr) H0 H H0' H' := by
  have nd := g.nd
  rw [List.map_append] at nd
  obtain ⟨n1, n2, n3⟩ := List.nodup_append.mp nd
  have away : ∀ q ∈ Ωr, q.1 ∉ Ω.map (·.1) := fun q hq hm => n3 _ hm _ (List.mem_map_of_mem hq) rfl
  refine ⟨⟨g'.ex, fun q hq => ?_, ?_⟩, c.ex, fun a o h ha => ?_, fun a ha => ?_⟩
  · rcases List.mem_append.mp hq with hq | hq
    · exact g'.own q hq
    · obtain ⟨h0, o, h1, h2⟩ := g.own q (List.mem_append_right _ hq)
      obtain ⟨k1, k2⟩ := c.keep q.1 o h1 (away q hq)
      exact ⟨k2 h0 h2.nt, o, k1, h2.mono c.ex⟩
  · rw [List.map_append]
    refine List.nodup_append.mpr ⟨g'.nd, n2, fun a ha b hb e => ?_⟩
    subst e
    rcases c.new a ha with q | q
    · exact n3 _ q _ hb rfl
    · obtain ⟨x, hx, rfl⟩ := List.mem_map.mp hb
      obtain ⟨h0, o, h1, h2⟩ := g.own x (List.mem_append_right _ hx)
      rw [h1] at q; cases q
  · rw [List.map_append] at ha
    exact c.keep a o h fun hm => ha (List.mem_append_left _ hm)
  · rw [List.map_append] at ha ⊢
    rcases List.mem_append.mp ha with ha | ha
    · rcases c.new a ha with q | q
      · exact .inl (List.mem_append_left _ q)
      · exact .inr q
    · exact .inl (List.mem_append_right _ ha)
section
variable {Γ : En} {Ω Ωr : Om} {te ta tb tc : TE} {tt tu : TT}
theorem EvW.frame {Q : D → Om → Prop} (h : EvW te Γ Ω Q) : EvW te Γ (Ω ++ Ωr) fun d Ω' => ∃ Ω1, Ω' = Ω1 ++ Ωr ∧ Q d Ω1 := fun σ H0 H R s g k =>
  h σ H0 H R s g.left fun v d Ω' H0' H' q g' c r => by
    obtain ⟨a, b⟩ := G.frame g g' c
    exact k v d _ H0' H' ⟨Ω', rfl, q⟩ a b r
/-- what needs nothing of one's own -/
theorem EvD.up {d : D} (h : EvD te Γ [] d) : EvD te Γ Ω d := fun Q q σ H0 H R s g k =>
  h (fun x Ω' => x = d ∧ Ω' = []) ⟨rfl, rfl⟩ σ H0 H R s g.nil fun v d Ω' H0' H' q1 g' c r => by
    obtain ⟨rfl, rfl⟩ := q1
    obtain ⟨a, b⟩ := G.frame (Ω := []) (Ωr := Ω) g g' c
    exact k v d _ H0' H' q a b r
theorem TsD.up {b : Bool} (h : TsD tt Γ [] b) : TsD tt Γ Ω b := fun Q q σ H0 H R s g k =>
  h (fun x Ω' => x = b ∧ Ω' = []) ⟨rfl, rfl⟩ σ H0 H R s g.nil fun d Ω' H0' H' q1 g' c => by
    obtain ⟨rfl, rfl⟩ := q1
    obtain ⟨a, b⟩ := G.frame (Ω := []) (Ωr := Ω) g g' c
    exact k d _ H0' H' q a b
theorem EvD.is {d e : D} (h : EvD te Γ Ω d) (q : d = e) : EvD te Γ Ω e := q ▸ h
theorem TsD.is {d e : Bool} (h : TsD tt Γ Ω d) (q : d = e) : TsD tt Γ Ω e := q ▸ h

/-! ### promises -/
abbrev Co := List D → Om → (D → Om → Prop) → Prop
def spG (C : Co) : Sp := fun vs H Q _ => ∃ H0 ds Ω Ψ, Hs Ω H0 H ∧ RqL H0 vs ds ∧ C ds Ω Ψ ∧
  ∀ v d Ω' H0' H', Ψ d Ω' → Hs Ω' H0' H' → Step Ω Ω' H0 H H0' H' → Rq H0' v d → Q v H'
/-- a def that touches nothing of its caller's -/
abbrev Cp := List D → (D → Prop) → Prop
def pureC (C : Cp) : Co := fun ds Ω Ψ => Ω = [] ∧ C ds fun d => Ψ d []
abbrev spP (C : Cp) : Sp := spG (pureC C)
/-- a def that draws: the feed is its first argument -/
abbrev Cf := Nat → List D → (D → Nat → Prop) → Prop
def feedC (C : Cf) : Co := fun ds Ω Ψ => ∃ F n es, ds = D.loc F :: es ∧ Ω = [(F, Own.feed n)] ∧ C n es fun d n' => Ψ d [(F, Own.feed n')]
abbrev spF (C : Cf) : Sp := spG (feedC C)
theorem ev_fn {C : Cp} {t : TA} {ds : List D} {d : D} (ha : ArD t Γ Ω ds) (hc : ∀ Ψ : D → Prop, Ψ d → C ds Ψ) : EvD (tCall (spP C) [] E0 t) Γ Ω d := fun Q q σ H0 H R s g k =>
  ha.bind s g fun vs H01 H1 s1 g1 c1 r1 => by
    refine ⟨H01, ds, [], fun x Ω' => x = d ∧ Ω' = [], g1.nil, by rw [List.append_nil]; exact r1, ⟨rfl, hc _ ⟨rfl, rfl⟩⟩, fun v x Ω' H0' H' q1 g' c r => ?_⟩
    obtain ⟨rfl, rfl⟩ := q1
    obtain ⟨a, b⟩ := G.frame (Ω := []) (Ωr := Ω) g1 g' c
    exact k v x _ H0' H' q a (c1.trans b g1.ex) r
theorem ev_fnW {C : Cp} {t : TA} {Q : D → Om → Prop} (ha : ArW t Γ Ω fun ds Ω1 => C ds fun d => Q d Ω1) : EvW (tCall (spP C) [] E0 t) Γ Ω Q := fun σ H0 H R s g k =>
  ha σ H0 H _ s g fun vs ds Ω1 H01 H1 q1 g1 c1 r1 => by
    refine ⟨H01, ds, [], fun x Ω' => Q x Ω1 ∧ Ω' = [], g1.nil, by rw [List.append_nil]; exact r1, ⟨rfl, ?_⟩, fun v x Ω' H0' H' q2 g' c r => ?_⟩
    · have e : (fun d => Q d Ω1 ∧ ([] : Om) = []) = fun d => Q d Ω1 := by funext d; simp
      rw [e]; exact q1
    · obtain ⟨q2, rfl⟩ := q2
      obtain ⟨a, b⟩ := G.frame (Ω := []) (Ωr := Ω1) g1 g' c
      exact k v x _ H0' H' q2 a (c1.trans b g1.ex) r
theorem ev_fnF {C : Cf} {t : TA} {Q : D → Om → Prop} (ha : ArW t Γ Ω fun ds Ω1 => ∃ F n es Ωr, ds = D.loc F :: es ∧ Ω1 = (F, Own.feed n) :: Ωr ∧ C n es fun d n' => Q d ((F, Own.feed n') :: Ωr)) : EvW (tCall (spF C) [] E0 t) Γ Ω Q := fun σ H0 H R s g k =>
  ha σ H0 H _ s g fun vs ds Ω1 H01 H1 q1 g1 c1 r1 => by
    obtain ⟨F, n, es, Ωr, rfl, rfl, hc⟩ := q1
    refine ⟨H01, _, [(F, Own.feed n)], fun x Ω' => ∃ n', Ω' = [(F, Own.feed n')] ∧ Q x ((F, Own.feed n') :: Ωr), Hs.left (Ωr := Ωr) g1, by rw [List.append_nil]; exact r1, ⟨F, n, es, rfl, rfl, ?_⟩, fun v x Ω' H0' H' q2 g' c r => ?_⟩
    · have e : (fun d n' => ∃ m, [(F, Own.feed n')] = [(F, Own.feed m)] ∧ Q d ((F, Own.feed m) :: Ωr)) = fun d n' => Q d ((F, Own.feed n') :: Ωr) := by
        funext d n'
        apply propext
        constructor
        · rintro ⟨m, e, q⟩
          cases e
          exact q
        · exact fun q => ⟨n', rfl, q⟩
      rw [e]; exact hc
    · obtain ⟨n', rfl, q2⟩ := q2
      obtain ⟨a, b⟩ := G.frame (Ω := [(F, Own.feed n)]) (Ωr := Ωr) g1 g' c
      exact k v x _ H0' H' q2 a (c1.trans b g1.ex) r
theorem EvD.toW {d : D} {Q : D → Om → Prop} (h : EvD te Γ Ω d) (q : Q d Ω) : EvW te Γ Ω Q := h Q q
theorem ArD.w {t : TA} {ds : List D} {Q : List D → Om → Prop} (h : ArD t Γ Ω ds) (q : Q ds Ω) : ArW t Γ Ω Q := h Q q
end

/-! ### statements -/
structure Po where
  nx : En → Om → Prop
  rt : D → Om → Prop := fun _ _ => False
  bk : En → Om → Prop := fun _ _ => False
  ct : En → Om → Prop := fun _ _ => False
structure Real (Φ : Po) (W : Ends) (Ω : Om) (H0 H : Hp) : Prop where
  nx : ∀ σ' Γ' Ω' H0' H', Φ.nx Γ' Ω' → Sl Γ' σ' H0' → Hs Ω' H0' H' → Step Ω Ω' H0 H H0' H' → W.nx σ' H'
  rt : ∀ v d Ω' H0' H', Φ.rt d Ω' → Rq H0' v d → Hs Ω' H0' H' → Step Ω Ω' H0 H H0' H' → W.rt v H'
  bk : ∀ σ' Γ' Ω' H0' H', Φ.bk Γ' Ω' → Sl Γ' σ' H0' → Hs Ω' H0' H' → Step Ω Ω' H0 H H0' H' → W.bk σ' H'
  ct : ∀ σ' Γ' Ω' H0' H', Φ.ct Γ' Ω' → Sl Γ' σ' H0' → Hs Ω' H0' H' → Step Ω Ω' H0 H H0' H' → W.ct σ' H'
theorem Real.step {Φ : Po} {W : Ends} {Ω Ω1 : Om} {H0 H H01 H1 : Hp} (r : Real Φ W Ω H0 H) (c : Step Ω Ω1 H0 H H01 H1) (e : Same H01 H1) : Real Φ W Ω1 H01 H1 :=
  ⟨fun a b d f g h1 h2 h3 h4 => r.nx a b d f g h1 h2 h3 (c.trans h4 e), fun a b d f g h1 h2 h3 h4 => r.rt a b d f g h1 h2 h3 (c.trans h4 e),
   fun a b d f g h1 h2 h3 h4 => r.bk a b d f g h1 h2 h3 (c.trans h4 e), fun a b d f g h1 h2 h3 h4 => r.ct a b d f g h1 h2 h3 (c.trans h4 e)⟩
def SW (t : TS) (Γ : En) (Ω : Om) (Φ : Po) : Prop := ∀ (σ : St) (H0 H : Hp) (W : Ends), Sl Γ σ H0 → Hs Ω H0 H → Real Φ W Ω H0 H → t W σ H
/-- targets -/
def TgW (g : TG) (d : D) (Γ : En) (Ω : Om) (Q : En → Om → Prop) : Prop := ∀ (σ : St) (H0 H : Hp) (v : V) (R : St → Hp → Prop), Sl Γ σ H0 → Hs Ω H0 H → Rq H0 v d →
  (∀ σ' Γ' Ω' H0' H', Q Γ' Ω' → Sl Γ' σ' H0' → Hs Ω' H0' H' → Step Ω Ω' H0 H H0' H' → R σ' H') → g v σ H R
def TgsW (g : TGs) (ds : List D) (Γ : En) (Ω : Om) (Q : En → Om → Prop) : Prop := ∀ (σ : St) (H0 H : Hp) (vs : List V) (R : St → Hp → Prop), Sl Γ σ H0 → Hs Ω H0 H → RqL H0 vs ds →
  (∀ σ' Γ' Ω' H0' H', Q Γ' Ω' → Sl Γ' σ' H0' → Hs Ω' H0' H' → Step Ω Ω' H0 H H0' H' → R σ' H') → g vs σ H R
section
variable {Γ : En} {Ω : Om} {te ta tb tc : TE} {tt tu : TT} {t u : TS} {Φ : Po} {g : TG} {gs : TGs}
theorem Sl.set {σ : St} {H0 : Hp} (s : Sl Γ σ H0) (i : Nat) {v : V} {d : D} (r : Rq H0 v d) : Sl (Γ.set i (some d)) (σ.set i (some v)) H0 := by
  refine ⟨by rw [List.length_set, List.length_set]; exact s.len, fun j e h => ?_⟩
  rw [List.getElem?_set] at h ⊢
  by_cases hij : i = j
  · rw [if_pos hij] at h ⊢
    rw [s.len]
    split at h
    · rename_i hl
      rw [if_pos hl]
      cases h
      exact ⟨v, rfl, r⟩
    · cases h
  · rw [if_neg hij] at h ⊢
    exact s.at_ j e h
theorem tg_name {i : Nat} {d : D} {Q : En → Om → Prop} (q : Q (Γ.set i (some d)) Ω) : TgW (gName i) d Γ Ω Q := fun σ H0 H v R s g r k =>
  k _ _ Ω H0 H q (s.set i r) g (.refl _ _ _)
theorem tg_tup {K : PySem.W.Frag} {n : Nat} {ds : List PyData} {Q : En → Om → Prop} (hn : ds.length = n) (h : TgsW gs (ds.map D.py) Γ Ω Q) : TgW (gTup K n gs) (.py (.tuple ds)) Γ Ω Q := fun σ H0 H v R s g r k => by
  cases r with
  | tup h1 r => exact ⟨_, _, rfl, SqT.of (g.ex _ _ h1), r.length.trans hn, h σ H0 H _ R s g (RqL.ofPy r) k⟩
theorem tgs_nil {Q : En → Om → Prop} (q : Q Γ Ω) : TgsW gNil [] Γ Ω Q := fun σ H0 H vs R s g r k => by
  cases r
  exact ⟨rfl, k σ Γ Ω H0 H q s g (.refl _ _ _)⟩
theorem tgs_cons {d : D} {ds : List D} {Q : En → Om → Prop} (h : TgW g d Γ Ω fun Γ1 Ω1 => TgsW gs ds Γ1 Ω1 Q) : TgsW (gCons g gs) (d :: ds) Γ Ω Q := fun σ H0 H vs R s g r k => by
  cases r with
  | cons r1 r2 =>
    refine ⟨_, _, rfl, h σ H0 H _ _ s g r1 fun σ1 Γ1 Ω1 H01 H1 q1 s1 g1 c1 => ?_⟩
    exact q1 σ1 H01 H1 _ R s1 g1 (RqL.mono c1.ex r2) fun σ2 Γ2 Ω2 H02 H2 q2 s2 g2 c2 => k σ2 Γ2 Ω2 H02 H2 q2 s2 g2 (c1.trans c2 g1.ex)
theorem sw_next (q : Φ.nx Γ Ω) : SW tNext Γ Ω Φ := fun σ H0 H W s g r => r.nx σ Γ Ω H0 H q s g (.refl _ _ _)
theorem sw_break (q : Φ.bk Γ Ω) : SW tBreak Γ Ω Φ := fun σ H0 H W s g r => r.bk σ Γ Ω H0 H q s g (.refl _ _ _)
theorem sw_seq (h : SW t Γ Ω { Φ with nx := fun Γ' Ω' => SW u Γ' Ω' Φ }) : SW (tSeq t u) Γ Ω Φ := fun σ H0 H W s g r =>
  h σ H0 H _ s g ⟨fun σ' Γ' Ω' H0' H' q s' g' c => q σ' H0' H' W s' g' (r.step c g'.ex), r.rt, r.bk, r.ct⟩
theorem SW.imp {Φ' : Po} (h : SW t Γ Ω Φ) (hn : ∀ Γ' Ω', Φ.nx Γ' Ω' → Φ'.nx Γ' Ω') (hr : ∀ d Ω', Φ.rt d Ω' → Φ'.rt d Ω') (hb : ∀ Γ' Ω', Φ.bk Γ' Ω' → Φ'.bk Γ' Ω') (hc : ∀ Γ' Ω', Φ.ct Γ' Ω' → Φ'.ct Γ' Ω') : SW t Γ Ω Φ' := fun σ H0 H W s g r =>
  h σ H0 H W s g ⟨fun a b d f e q => r.nx a b d f e (hn _ _ q), fun a b d f e q => r.rt a b d f e (hr _ _ q), fun a b d f e q => r.bk a b d f e (hb _ _ q), fun a b d f e q => r.ct a b d f e (hc _ _ q)⟩
theorem sw_asgW (h : EvW te Γ Ω fun d Ω1 => TgW g d Γ Ω1 Φ.nx) : SW (tAsg te g) Γ Ω Φ := fun σ H0 H W s gh r =>
  h.bind s gh fun v d Ω1 H01 H1 q1 s1 g1 c1 r1 => q1 σ H01 H1 v _ s1 g1 r1 fun σ2 Γ2 Ω2 H02 H2 q2 s2 g2 c2 => r.nx σ2 Γ2 Ω2 H02 H2 q2 s2 g2 (c1.trans c2 g1.ex)
theorem sw_set {i : Nat} {d : D} (h : EvD te Γ Ω d) (q : Φ.nx (Γ.set i (some d)) Ω) : SW (tAsg te (gName i)) Γ Ω Φ := sw_asgW (h.toW (tg_name q))
theorem sw_setW {i : Nat} (h : EvW te Γ Ω fun d Ω1 => Φ.nx (Γ.set i (some d)) Ω1) : SW (tAsg te (gName i)) Γ Ω Φ := sw_asgW (h.imp fun _ _ q => tg_name q)
theorem sw_par {i j : Nat} {d e : D} {ta : TA} (h : ArD ta Γ Ω [d, e]) (q : Φ.nx ((Γ.set i (some d)).set j (some e)) Ω) : SW (tPar i j ta) Γ Ω Φ := fun σ H0 H W s g r =>
  h.bind s g fun vs H01 H1 s1 g1 c1 r1 => by
    cases r1 with
    | cons a b =>
      cases b with
      | cons b c =>
        cases c
        exact ⟨_, _, rfl, r.nx _ _ Ω H01 H1 q ((s1.set i a).set j b) g1 c1⟩
theorem sw_parW {i j : Nat} {ta : TA} (h : ArW ta Γ Ω fun ds Ω1 => ∃ d e, ds = [d, e] ∧ Φ.nx ((Γ.set i (some d)).set j (some e)) Ω1) : SW (tPar i j ta) Γ Ω Φ := fun σ H0 H W s g r =>
  h σ H0 H _ s g fun vs ds Ω1 H01 H1 q1 g1 c1 r1 => by
    obtain ⟨d, e, rfl, q⟩ := q1
    cases r1 with
    | cons a b =>
      cases b with
      | cons b c =>
        cases c
        exact ⟨_, _, rfl, r.nx _ _ Ω1 H01 H1 q (((s.mono c1.ex).set i a).set j b) g1 c1⟩
theorem sw_ret {d : D} (h : EvD te Γ Ω d) (q : Φ.rt d Ω) : SW (tRet te) Γ Ω Φ := fun σ H0 H W s g r =>
  h.bind s g fun v H01 H1 s1 g1 c1 r1 => r.rt v d Ω H01 H1 q r1 g1 c1
theorem sw_retW (h : EvW te Γ Ω fun d Ω1 => Φ.rt d Ω1) : SW (tRet te) Γ Ω Φ := fun σ H0 H W s g r =>
  h.bind s g fun v d Ω1 H01 H1 q s1 g1 c1 r1 => r.rt v d Ω1 H01 H1 q r1 g1 c1
theorem sw_drop {d : D} (h : EvD te Γ Ω d) (q : Φ.nx Γ Ω) : SW (tDrop te) Γ Ω Φ := fun σ H0 H W s g r =>
  h.bind s g fun v H01 H1 s1 g1 c1 r1 => r.nx σ Γ Ω H01 H1 q s1 g1 c1
theorem sw_if {b : Bool} (h : TsD tt Γ Ω b) (h1 : b = true → SW t Γ Ω Φ) (h2 : b = false → SW u Γ Ω Φ) : SW (tIfS tt t u) Γ Ω Φ := fun σ H0 H W s g r =>
  h.bind s g fun H01 H1 s1 g1 c1 => by
    cases b with
    | true => exact h1 rfl σ H01 H1 W s1 g1 (r.step c1 g1.ex)
    | false => exact h2 rfl σ H01 H1 W s1 g1 (r.step c1 g1.ex)
theorem sw_ifW (h : TsW tt Γ Ω fun b Ω1 => if b = true then SW t Γ Ω1 Φ else SW u Γ Ω1 Φ) : SW (tIfS tt t u) Γ Ω Φ := fun σ H0 H W s g r =>
  h σ H0 H _ s g fun b Ω1 H01 H1 q g1 c1 => by
    cases b with
    | true => exact q σ H01 H1 W (s.mono c1.ex) g1 (r.step c1 g1.ex)
    | false => exact q σ H01 H1 W (s.mono c1.ex) g1 (r.step c1 g1.ex)
/-! loops over what is frozen -/
theorem sw_forT {K : PySem.W.Frag} {ds : List PyData} (h : EvD te Γ Ω (.py (.tuple ds))) (J : Nat → En → Om → Prop) (h0 : J 0 Γ Ω)
    (hs : ∀ i d Γ' Ω', ds[i]? = some d → J i Γ' Ω' → TgW g (.py d) Γ' Ω' fun Γ2 Ω2 => SW t Γ2 Ω2 { Φ with nx := J (i + 1), ct := J (i + 1), bk := Φ.nx }) (hd : ∀ Γ' Ω', J ds.length Γ' Ω' → Φ.nx Γ' Ω') : SW (tFor (iTup K te) g t) Γ Ω Φ := fun σ H0 H W s gh r =>
  h.bind s gh fun v H01 H1 s1 g1 c1 r1 => by
    cases r1 with
    | tup h1 rr =>
      rename_i a xs
      have r' := r.step c1 g1.ex
      refine ⟨a, rfl, ⟨xs, SqT.of (g1.ex _ _ h1)⟩, for_tup (K := K) (a := a) (xs := xs) (fun i σ' H' => ∃ Γ' Ω' H0', J i Γ' Ω' ∧ Sl Γ' σ' H0' ∧ Hs Ω' H0' H' ∧ Step Ω Ω' H01 H1 H0' H') ⟨Γ, Ω, H01, h0, s1, g1, .refl _ _ _⟩ (fun i σ' H' _ ⟨Γ', Ω', H0', _, _, g', c'⟩ => SqT.of (g'.ex _ _ (c'.ex _ _ h1))) ?_ ?_⟩
      · rintro i x σ' H' hx ⟨Γ', Ω', H0', j, s', g', c'⟩
        obtain ⟨d, hd', rd⟩ := rr.getV hx
        refine hs i d Γ' Ω' hd' j σ' H0' H' x _ s' g' (rd.mono c'.ex) fun σ2 Γ2 Ω2 H02 H2 q2 s2 g2 c2 => ?_
        refine q2 σ2 H02 H2 _ s2 g2 ?_
        have c3 := c'.trans c2 g'.ex
        exact ⟨fun σ3 Γ3 Ω3 H03 H3 q3 s3 g3 c4 => ⟨Γ3, Ω3, H03, q3, s3, g3, c3.trans c4 g2.ex⟩, fun v d Ω3 H03 H3 q3 r3 g3 c4 => r'.rt v d Ω3 H03 H3 q3 r3 g3 (c3.trans c4 g2.ex),
          fun σ3 Γ3 Ω3 H03 H3 q3 s3 g3 c4 => r'.nx σ3 Γ3 Ω3 H03 H3 q3 s3 g3 (c3.trans c4 g2.ex), fun σ3 Γ3 Ω3 H03 H3 q3 s3 g3 c4 => ⟨Γ3, Ω3, H03, q3, s3, g3, c3.trans c4 g2.ex⟩⟩
      · rintro σ' H' ⟨Γ', Ω', H0', j, s', g', c'⟩
        rw [rr.length] at j
        exact r'.nx σ' Γ' Ω' H0' H' (hd _ _ j) s' g' c'
theorem sw_forL {K : PySem.W.Frag} {ds : List PyData} (h : EvD te Γ Ω (.py (.list ds))) (J : Nat → En → Om → Prop) (h0 : J 0 Γ Ω)
    (hs : ∀ i d Γ' Ω', ds[i]? = some d → J i Γ' Ω' → TgW g (.py d) Γ' Ω' fun Γ2 Ω2 => SW t Γ2 Ω2 { Φ with nx := J (i + 1), ct := J (i + 1), bk := Φ.nx }) (hd : ∀ Γ' Ω', J ds.length Γ' Ω' → Φ.nx Γ' Ω') : SW (tFor (iList K te) g t) Γ Ω Φ := fun σ H0 H W s gh r =>
  h.bind s gh fun v H01 H1 s1 g1 c1 r1 => by
    cases r1 with
    | lst h1 rr =>
      rename_i a xs
      have r' := r.step c1 g1.ex
      refine ⟨a, rfl, ⟨xs, SqL.of (g1.ex _ _ h1)⟩, for_list (K := K) (a := a) (xs := xs) (fun i σ' H' => ∃ Γ' Ω' H0', J i Γ' Ω' ∧ Sl Γ' σ' H0' ∧ Hs Ω' H0' H' ∧ Step Ω Ω' H01 H1 H0' H') ⟨Γ, Ω, H01, h0, s1, g1, .refl _ _ _⟩ (fun i σ' H' _ ⟨Γ', Ω', H0', _, _, g', c'⟩ => SqL.of (g'.ex _ _ (c'.ex _ _ h1))) ?_ ?_⟩
      · rintro i x σ' H' hx ⟨Γ', Ω', H0', j, s', g', c'⟩
        obtain ⟨d, hd', rd⟩ := rr.getV hx
        refine hs i d Γ' Ω' hd' j σ' H0' H' x _ s' g' (rd.mono c'.ex) fun σ2 Γ2 Ω2 H02 H2 q2 s2 g2 c2 => ?_
        refine q2 σ2 H02 H2 _ s2 g2 ?_
        have c3 := c'.trans c2 g'.ex
        exact ⟨fun σ3 Γ3 Ω3 H03 H3 q3 s3 g3 c4 => ⟨Γ3, Ω3, H03, q3, s3, g3, c3.trans c4 g2.ex⟩, fun v d Ω3 H03 H3 q3 r3 g3 c4 => r'.rt v d Ω3 H03 H3 q3 r3 g3 (c3.trans c4 g2.ex),
          fun σ3 Γ3 Ω3 H03 H3 q3 s3 g3 c4 => r'.nx σ3 Γ3 Ω3 H03 H3 q3 s3 g3 (c3.trans c4 g2.ex), fun σ3 Γ3 Ω3 H03 H3 q3 s3 g3 c4 => ⟨Γ3, Ω3, H03, q3, s3, g3, c3.trans c4 g2.ex⟩⟩
      · rintro σ' H' ⟨Γ', Ω', H0', j, s', g', c'⟩
        rw [rr.length] at j
        exact r'.nx σ' Γ' Ω' H0' H' (hd _ _ j) s' g' c'
theorem sw_forR {ta : TA} {n : Int} (h : ArD ta Γ Ω [I n]) (hn : n ≤ 1000000) (h0n : 0 ≤ n) (J : Nat → En → Om → Prop) (h0 : J 0 Γ Ω)
    (hs : ∀ (i : Nat) Γ' Ω', (i : Int) < n → J i Γ' Ω' → TgW g (I (i : Nat)) Γ' Ω' fun Γ2 Ω2 => SW t Γ2 Ω2 { Φ with nx := J (i + 1), ct := J (i + 1), bk := Φ.nx }) (hd : ∀ Γ' Ω', J n.toNat Γ' Ω' → Φ.nx Γ' Ω') : SW (tFor (iRng1 ta) g t) Γ Ω Φ := fun σ H0 H W s gh r =>
  h.bind s gh fun vs H01 H1 s1 g1 c1 r1 => by
    cases r1 with
    | cons a b =>
      cases b
      cases a
      have r' := r.step c1 g1.ex
      refine ⟨n, rfl, by omega, by omega, for_range (lo := 0) (n := n.toNat) (fun i σ' H' => ∃ Γ' Ω' H0', J i Γ' Ω' ∧ Sl Γ' σ' H0' ∧ Hs Ω' H0' H' ∧ Step Ω Ω' H01 H1 H0' H') ⟨Γ, Ω, H01, h0, s1, g1, .refl _ _ _⟩ ?_ ?_⟩
      · rintro i σ' H' hi ⟨Γ', Ω', H0', j, s', g', c'⟩
        have e : (0 : Int) + (i : Nat) = (i : Nat) := by omega
        rw [e]
        refine hs i Γ' Ω' (by omega) j σ' H0' H' _ _ s' g' (Rp.int _) fun σ2 Γ2 Ω2 H02 H2 q2 s2 g2 c2 => ?_
        refine q2 σ2 H02 H2 _ s2 g2 ?_
        have c3 := c'.trans c2 g'.ex
        exact ⟨fun σ3 Γ3 Ω3 H03 H3 q3 s3 g3 c4 => ⟨Γ3, Ω3, H03, q3, s3, g3, c3.trans c4 g2.ex⟩, fun v d Ω3 H03 H3 q3 r3 g3 c4 => r'.rt v d Ω3 H03 H3 q3 r3 g3 (c3.trans c4 g2.ex),
          fun σ3 Γ3 Ω3 H03 H3 q3 s3 g3 c4 => r'.nx σ3 Γ3 Ω3 H03 H3 q3 s3 g3 (c3.trans c4 g2.ex), fun σ3 Γ3 Ω3 H03 H3 q3 s3 g3 c4 => ⟨Γ3, Ω3, H03, q3, s3, g3, c3.trans c4 g2.ex⟩⟩
      · rintro σ' H' ⟨Γ', Ω', H0', j, s', g', c'⟩
        exact r'.nx σ' Γ' Ω' H0' H' (hd _ _ j) s' g' c'
end

/-! ### a def and its promise -/
def startD (N : List Str) (ds : List D) : En := ds.map some ++ List.replicate (N.length - ds.length) none
theorem start_sl {H0 : Hp} (N : List Str) {vs : List V} {ds : List D} (r : RqL H0 vs ds) : Sl (startD N ds) (L2.start N vs) H0 := by
  have el : vs.length = ds.length := Paired.length r
  refine ⟨by unfold startD L2.start; rw [List.length_append, List.length_append, List.length_map, List.length_map, List.length_replicate, List.length_replicate, el], fun i d h => ?_⟩
  unfold startD at h
  unfold L2.start
  rw [List.getElem?_append] at h ⊢
  rw [List.length_map] at h ⊢
  rw [el]
  split at h
  · rename_i hl
    rw [if_pos hl]
    rw [List.getElem?_map] at h ⊢
    cases e : ds[i]? with
    | none => rw [e] at h; cases h
    | some d' =>
      rw [e] at h
      cases h
      have : ∀ {vs : List V} {ds : List D}, RqL H0 vs ds → ∀ {i : Nat}, ds[i]? = some d → ∃ v, vs[i]? = some v ∧ Rq H0 v d := by
        intro vs ds r
        induction r with
        | nil => intro i e; simp at e
        | cons a _ ih =>
          intro i e
          cases i with
          | zero => simp at e; subst e; exact ⟨_, rfl, a⟩
          | succ i =>
            obtain ⟨v, h1, h2⟩ := ih (i := i) (by simpa using e)
            exact ⟨v, by simpa using h1, h2⟩
      obtain ⟨v, h1, h2⟩ := this r e
      exact ⟨v, by rw [h1]; rfl, h2⟩
  · rw [List.getElem?_replicate] at h
    split at h <;> cases h
structure Fn (P : Program) (w : World) (K : PySem.W.Frag) (mg : Str → Option Value) (base : Heap) (CX : CXT) (x : Str) (k : Nat) (ps : List Str) (sp : Sp) : Prop where
  ex : ∃ (f : Addr) (fd : FuncData), mg x = some (.ref f) ∧ PySem.W.keepIn K (.ref f) = true ∧ Binds K fd ps [] ∧ FnOk P w K mg base CX k f fd ps sp
/-- a def of the top as it stands behind it -/
structure Df (K : PySem.W.Frag) (mg : Str → Option Value) (x : Str) (st : Stmt) (ps : List Str) : Prop where
  ex : ∃ (f : Addr) (fd : FuncData), Fun K x x st f fd ∧ mg x = some (.ref f) ∧ Binds K fd ps []
theorem pe_fn {X : Cx} {x : Str} {k j : Nat} {ps : List Str} {sp : Sp} {e : Expr} {es : List Expr} {t : TA} {p pos : Pos} (F : Fn X.prog X.w X.K X.mg X.base CX0 x k ps sp) (hr : Room j X.A) (hk : k ≤ j) (ha : PA X (e :: es) t) (hg : Gl X x := by rfl)
    (hdb : (x == ("__debug__" : Str)) = false := by decide) (he : starEach (e :: es) X.env = (false, eval e X.env) :: starEach es X.env := by rfl) (hpl : (backTo pos (starEach es X.env)).any (·.1) = false := by rfl) :
    PE X (.Call (.Name x p) (e :: es) [] pos) (tCall sp [] E0 t) := by
  obtain ⟨f, fd, h1, h2, h3, h4⟩ := F.ex
  exact pe_call h4 (hr.mono hk) hg h1 h2 h3 .nil pass0 ha hdb he hpl
section
variable {P : Program} {w : World} {K : PySem.W.Frag} {mg : Str → Option Value} {base : Heap}
theorem fn_mk {x : Str} {st : Stmt} {ps N : List Str} {k : Nat} {C : Co} (F : Df K mg x st ps) (S : FnScope N ps (defScope st)) (len : ∀ ds Ω Ψ, C ds Ω Ψ → ds.length = ps.length)
    (hbody : ∀ (f : Addr) (cdv : Value) (A : Around) (outer : List Env) (s : Shared) (H : Hp) (E : XK), Room k (A.deeper (envOfC x (defScope st) s.heap.objs.size f cdv)) →
      ∃ t, PSs (cxOf CX0 P w K mg base N x (defScope st) f cdv A outer s H E).nox (defBody st) t ∧ ∀ ds Ω Ψ, C ds Ω Ψ → SW t (startD N ds) Ω { nx := fun _ Ω' => Ψ N0 Ω', rt := Ψ }) : Fn P w K mg base CX0 x (k + 1) ps (spG C) := by
  obtain ⟨f, fd, h1, h2, h3⟩ := F.ex
  refine ⟨f, fd, h2, h1.kp, h3, h1.ok S (fun vs H Q E h => ?_) fun cdv A outer s H vs Q E hr h => ?_⟩
  · obtain ⟨H0, ds, Ω, Ψ, _, r, c, _⟩ := h
    exact (Paired.length r).trans (len _ _ _ c)
  · obtain ⟨H0, ds, Ω, Ψ, g, r, c, k⟩ := h
    obtain ⟨t, ht, q⟩ := hbody f cdv A outer s H E hr
    refine ⟨t, ht, q ds Ω Ψ c _ H0 H _ (start_sl N r) g ⟨fun σ' Γ' Ω' H0' H' q s' g' c' => k _ _ Ω' H0' H' q g' c' .non, fun v d Ω' H0' H' q r' g' c' => k v d Ω' H0' H' q g' c' r', fun _ _ _ _ _ h => h.elim, fun _ _ _ _ _ h => h.elim⟩⟩
end
end G
end

section
set_option Elab.async false
set_option linter.all false
set_option maxRecDepth 100000
set_option maxHeartbeats 2000000
namespace G
open PySem L2
open PyProof.Rows (envOfC)

/-! ### one's own objects: new, changed, frozen -/
section
variable {Γ : En} {Ω : Om} {H0 H : Hp}
theorem Hs.get (g : Hs Ω H0 H) {j : Nat} {p : Addr} {w : Own} (h : Ω[j]? = some (p, w)) : H0 p = none ∧ ∃ o, H p = some o ∧ OwnOk H0 o w := g.own (p, w) (List.mem_of_getElem? h)
theorem nd_ix {α : Type} : ∀ {l : List α}, l.Nodup → ∀ {i j : Nat} {x : α}, l[i]? = some x → l[j]? = some x → i = j
  | [], _, i, j, x, a, _ => by simp at a
  | y :: l, h, 0, 0, x, a, b => rfl
  | y :: l, h, 0, j + 1, x, a, b => by
    simp at a b
    subst a
    exact ((List.nodup_cons.mp h).1 (List.mem_of_getElem? b)).elim
  | y :: l, h, i + 1, 0, x, a, b => by
    simp at a b
    subst b
    exact ((List.nodup_cons.mp h).1 (List.mem_of_getElem? a)).elim
  | y :: l, h, i + 1, j + 1, x, a, b => by
    simp at a b
    exact congrArg (· + 1) (nd_ix (List.nodup_cons.mp h).2 a b)
theorem keys_set {j : Nat} {p : Addr} {w w' : Own} (h : Ω[j]? = some (p, w)) : (Ω.set j (p, w')).map (·.1) = Ω.map (·.1) := by
  rw [List.map_set]
  apply List.ext_getElem?
  intro i
  rw [List.getElem?_set]
  split
  · rename_i e
    subst e
    rw [List.getElem?_map, h]
    have := (List.getElem?_eq_some_iff.mp h).1
    rw [List.length_map, if_pos this]; rfl
  · rfl
theorem Hs.new (g : Hs Ω H0 H) {p : Addr} (hp : H p = none) {o : HO} {w : Own} (ok : OwnOk H0 o w) : Hs (Ω ++ [(p, w)]) H0 (upd H p o) ∧ Step Ω (Ω ++ [(p, w)]) H0 H H0 (upd H p o) := by
  have hp0 : H0 p = none := Same.free g.ex hp
  have ex1 : Same H (upd H p o) := fun b u e => by rw [upd_ne (ne_of_none e hp)]; exact e
  refine ⟨⟨g.ex.trans ex1, fun q hq => ?_, ?_⟩, .refl _, fun a u h _ => ⟨ex1 a u h, fun h0 _ => h0⟩, fun a ha => ?_⟩
  · rcases List.mem_append.mp hq with hq | hq
    · obtain ⟨h1, u, h2, h3⟩ := g.own q hq
      exact ⟨h1, u, ex1 _ _ h2, h3⟩
    · rw [List.mem_singleton.mp hq]
      exact ⟨hp0, o, upd_same, ok⟩
  · rw [List.map_append]
    refine List.nodup_append.mpr ⟨g.nd, by simp, fun a ha b hb e => ?_⟩
    simp at hb
    subst hb
    subst e
    obtain ⟨x, hx, rfl⟩ := List.mem_map.mp ha
    obtain ⟨_, u, h2, _⟩ := g.own x hx
    rw [hp] at h2; cases h2
  · rw [List.map_append] at ha
    rcases List.mem_append.mp ha with ha | ha
    · exact .inl ha
    · simp at ha
      subst ha
      exact .inr hp
theorem Hs.put (g : Hs Ω H0 H) {j : Nat} {p : Addr} {w w' : Own} (h : Ω[j]? = some (p, w)) {o : HO} (ok : OwnOk H0 o w') : Hs (Ω.set j (p, w')) H0 (upd H p o) ∧ Step Ω (Ω.set j (p, w')) H0 H H0 (upd H p o) := by
  obtain ⟨hp0, u0, hpu, _⟩ := g.get h
  have kk := keys_set (w' := w') h
  have hm : p ∈ Ω.map (·.1) := List.mem_map_of_mem (List.mem_of_getElem? h)
  refine ⟨⟨fun b u e => by rw [upd_ne (ne_of_none e hp0)]; exact g.ex b u e, fun q hq => ?_, by rw [kk]; exact g.nd⟩, .refl _, fun a u e ha => ?_, fun a ha => ?_⟩
  · by_cases hq1 : q.1 = p
    · -- the entry itself
      obtain ⟨i, hi⟩ := List.getElem?_of_mem hq
      rw [List.getElem?_set] at hi
      split at hi
      · split at hi
        · cases hi
          exact ⟨hp0, o, upd_same, ok⟩
        · cases hi
      · rename_i hij
        exfalso
        have nd := g.nd
        have e1 : (Ω.map (·.1))[i]? = some p := by rw [List.getElem?_map, hi]; exact congrArg some hq1
        have e2 : (Ω.map (·.1))[j]? = some p := by rw [List.getElem?_map, h]; rfl
        exact hij (nd_ix nd e2 e1)
    · have hq' : q ∈ Ω := by
        rcases List.mem_or_eq_of_mem_set hq with z | z
        · exact z
        · rw [z] at hq1; exact (hq1 rfl).elim
      obtain ⟨h1, u, h2, h3⟩ := g.own q hq'
      exact ⟨h1, u, by rw [upd_ne hq1]; exact h2, h3⟩
  · have : a ≠ p := fun e => ha (by rw [e]; exact hm)
    exact ⟨by rw [upd_ne this]; exact e, fun h0 _ => h0⟩
  · rw [kk] at ha
    exact .inl ha
theorem Hs.freeze (g : Hs Ω H0 H) {j : Nat} {p : Addr} {w : Own} (h : Ω[j]? = some (p, w)) {o : HO} (ho : H p = some o) : Hs (Ω.eraseIdx j) (upd H0 p o) H ∧ Step Ω (Ω.eraseIdx j) H0 H (upd H0 p o) H := by
  obtain ⟨hp0, _, _, _⟩ := g.get h
  have ex0 : Same H0 (upd H0 p o) := fun b u e => by rw [upd_ne (ne_of_none e hp0)]; exact e
  have hm : p ∈ Ω.map (·.1) := List.mem_map_of_mem (List.mem_of_getElem? h)
  have hnd : ((Ω.map (·.1)).eraseIdx j).Nodup := g.nd.sublist (List.eraseIdx_sublist _ _)
  have hkey : (Ω.eraseIdx j).map (·.1) = (Ω.map (·.1)).eraseIdx j := by
    apply List.ext_getElem?
    intro i
    rw [List.getElem?_map, List.getElem?_eraseIdx, List.getElem?_eraseIdx]
    split <;> rw [List.getElem?_map]
  refine ⟨⟨fun b u e => ?_, fun q hq => ?_, by rw [hkey]; exact hnd⟩, ex0, fun a u e ha => ⟨e, fun h0 _ => ?_⟩, fun a ha => ?_⟩
  · by_cases hb : b = p
    · subst hb; rw [upd_same] at e; cases e; exact ho
    · rw [upd_ne hb] at e; exact g.ex b u e
  · have hq' : q ∈ Ω := List.mem_of_mem_eraseIdx hq
    obtain ⟨h1, u, h2, h3⟩ := g.own q hq'
    have hne : q.1 ≠ p := by
      intro e
      obtain ⟨i, hi⟩ := List.getElem?_of_mem hq
      rw [List.getElem?_eraseIdx] at hi
      have e2 : (Ω.map (·.1))[j]? = some p := by rw [List.getElem?_map, h]; rfl
      split at hi
      · have e1 : (Ω.map (·.1))[i]? = some p := by rw [List.getElem?_map, hi]; exact congrArg some e
        have := nd_ix g.nd e2 e1
        omega
      · have e1 : (Ω.map (·.1))[i + 1]? = some p := by rw [List.getElem?_map, hi]; exact congrArg some e
        have := nd_ix g.nd e2 e1
        omega
    exact ⟨by rw [upd_ne hne]; exact h1, u, h2, h3.mono ex0⟩
  · have : a ≠ p := fun e => ha (by rw [e]; exact hm)
    rw [upd_ne this]; exact h0
  · rw [hkey] at ha
    exact .inl (List.mem_of_mem_eraseIdx ha)
end

section
variable {Γ : En} {Ω : Om} {te ta tb tc tl : TE} {tt tu : TT} {t u : TS} {Φ : Po} {g : TG} {gs : TGs}
/-! ### a new own list; append -/
theorem ev_own0 {Q : D → Om → Prop} (q : ∀ p, Q (.loc p) (Ω ++ [(p, .lst [])])) : EvW (tLst tNil) Γ Ω Q := fun σ H0 H R s g k =>
  ⟨Nat.zero_le _, fun p hp => by
    obtain ⟨g', c'⟩ := g.new hp (o := .lst []) (w := .lst []) ⟨[], rfl, .nil⟩
    exact k (.ref p) (.loc p) _ H0 _ (q p) g' c' rfl⟩
theorem ev_ownK {Q : D → Om → Prop} (q : ∀ p, Q (.loc p) (Ω ++ [(p, .dk [])])) : EvW tDNewK Γ Ω Q := fun σ H0 H R s g k p hp => by
  obtain ⟨g', c'⟩ := g.new hp (o := .dK []) (w := .dk []) ⟨[], rfl, rfl, .nil⟩
  exact k (.ref p) (.loc p) _ H0 _ (q p) g' c' rfl
theorem ev_ownT {Q : D → Om → Prop} (q : ∀ p, Q (.loc p) (Ω ++ [(p, .dt [])])) : EvW tDNewT Γ Ω Q := fun σ H0 H R s g k p hp => by
  obtain ⟨g', c'⟩ := g.new hp (o := .dT []) (w := .dt []) ⟨[], rfl, rfl, .nil⟩
  exact k (.ref p) (.loc p) _ H0 _ (q p) g' c' rfl
theorem sw_app {K : PySem.W.Frag} {j : Nat} {p : Addr} {ds : List D} {d : D} (ho : EvD ta Γ Ω (.loc p)) (h : EvD te Γ Ω d) (hj : Ω[j]? = some (p, .lst ds)) (hz : ds.length < 100000) (q : Φ.nx Γ (Ω.set j (p, .lst (ds ++ [d])))) :
    SW (tDrop (tBM K "list" rAppend ta (tCons te tNil))) Γ Ω Φ := fun σ H0 H W s g r =>
  ho.bind s g fun v H01 H1 s1 g1 c1 r1 => by
    cases (show v = .ref p from r1)
    obtain ⟨_, o, hp, vs, rfl, rv⟩ := g1.get hj
    refine ⟨.inl ⟨rfl, vs, SqL.of hp⟩, h.bind s1 g1 fun v H02 H2 s2 g2 c2 r2 => ?_⟩
    obtain ⟨_, o, hp, vs, rfl, rv⟩ := g2.get hj
    have hl : vs.length = ds.length := Paired.length rv
    obtain ⟨g3, c3⟩ := g2.put hj (o := .lst (vs ++ [v])) (w' := .lst (ds ++ [d])) ⟨_, rfl, Paired.snoc rv r2⟩
    exact ⟨p, vs, v, rfl, rfl, hp, by rw [hl]; exact Nat.lt_of_lt_of_le hz (by decide), r.nx σ Γ _ H02 _ q s2 g3 ((c1.trans c2 g1.ex).trans c3 g2.ex)⟩
theorem RqL.app {H : Hp} {vs ws : List V} {ds es : List D} (a : RqL H vs ds) (b : RqL H ws es) : RqL H (vs ++ ws) (ds ++ es) := by
  induction a with
  | nil => exact b
  | cons h _ ih => exact .cons h ih
theorem sw_ext {K : PySem.W.Frag} {j : Nat} {p : Addr} {ds : List D} {es : List PyData} (ho : EvD ta Γ Ω (.loc p)) (h : EvD te Γ Ω (.py (.list es))) (hj : Ω[j]? = some (p, .lst ds)) (hz : ds.length + es.length < 100000) (q : Φ.nx Γ (Ω.set j (p, .lst (ds ++ es.map D.py)))) :
    SW (tDrop (tBM K "list" rExtend ta (tCons te tNil))) Γ Ω Φ := fun σ H0 H W s g r =>
  ho.bind s g fun v H01 H1 s1 g1 c1 r1 => by
    cases (show v = .ref p from r1)
    obtain ⟨_, o, hp, vs, rfl, rv⟩ := g1.get hj
    refine ⟨.inl ⟨rfl, vs, SqL.of hp⟩, h.bind s1 g1 fun v H02 H2 s2 g2 c2 r2 => ?_⟩
    obtain ⟨_, o, hp, vs, rfl, rv⟩ := g2.get hj
    have hl : vs.length = ds.length := Paired.length rv
    cases r2 with
    | lst h1 rr =>
      rename_i b xs
      obtain ⟨g3, c3⟩ := g2.put hj (o := .lst (vs ++ xs)) (w' := .lst (ds ++ es.map D.py)) ⟨_, rfl, RqL.app rv (RqL.ofPy rr)⟩
      exact ⟨p, b, vs, xs, rfl, rfl, hp, g2.ex _ _ h1, by rw [hl, rr.length]; exact Nat.le_trans (Nat.le_of_lt hz) (by decide), r.nx σ Γ _ H02 _ q s2 g3 ((c1.trans c2 g1.ex).trans c3 g2.ex)⟩
/-- one's own list becomes frozen; the name i holds it -/
theorem sw_frz {j i : Nat} {p : Addr} {ds : List PyData} (hi : Γ[i]? = some (some (.loc p))) (hj : Ω[j]? = some (p, .lst (ds.map D.py))) (q : SW t (Γ.set i (some (.py (.list ds)))) (Ω.eraseIdx j) Φ) : SW t Γ Ω Φ := fun σ H0 H W s g r => by
  obtain ⟨_, o, hp, vs, rfl, rv⟩ := g.get hj
  obtain ⟨g1, c1⟩ := g.freeze hj hp
  have rp := RpL.mono c1.ex (RqL.py rv)
  have s1 := s.mono c1.ex
  refine q σ _ H W ⟨by rw [List.length_set]; exact s.len, fun k d h => ?_⟩ g1 (r.step c1 g1.ex)
  rw [List.getElem?_set] at h
  split at h
  · rename_i e
    subst e
    split at h
    · cases h
      obtain ⟨v, e1, e2⟩ := s1.at_ i _ hi
      cases (show v = .ref p from e2)
      exact ⟨_, e1, .lst upd_same rp⟩
    · cases h
  · exact s1.at_ k d h

/-! ### built-in calls by values -/
theorem cb_d {r : List V → Hp → VK → Prop} {ta : TA} {ds : List D} {z : D} (ha : ArD ta Γ Ω ds) (hr : ∀ (vs : List V) (H0 H : Hp) (R : VK), Hs Ω H0 H → RqL H0 vs ds →
    (∀ w H0' H', Hs Ω H0' H' → Step Ω Ω H0 H H0' H' → Rq H0' w z → R w H') → r vs H R) : EvD (tCB r ta) Γ Ω z := fun Q q σ H0 H R s g k =>
  ha.bind s g fun vs H01 H1 s1 g1 c1 r1 => hr vs H01 H1 R g1 r1 fun w H0' H' a b c => k w z Ω H0' H' q a (c1.trans b g1.ex) c
theorem rq1 {H : Hp} {vs : List V} {d : D} (r : RqL H vs [d]) : ∃ v, vs = [v] ∧ Rq H v d := by
  cases r with
  | cons a b => cases b; exact ⟨_, rfl, a⟩
theorem rq2 {H : Hp} {vs : List V} {d e : D} (r : RqL H vs [d, e]) : ∃ v u, vs = [v, u] ∧ Rq H v d ∧ Rq H u e := by
  cases r with
  | cons a b => cases b with | cons b c => cases c; exact ⟨_, _, rfl, a, b⟩
def rLn (K : PySem.W.Frag) : List V → Hp → VK → Prop := fun xs H Q => ∃ p ys, xs = [.ref p] ∧ (SqL K H p ys ∨ SqT K H p ys) ∧ Q (.int ys.length) H
theorem cl_len {X : Cx} : CallR X (.builtin "len") (rLn X.K) := call_len_seq
theorem ev_lenL {K : PySem.W.Frag} {ds : List PyData} (h : EvD ta Γ Ω (.py (.list ds))) : EvD (tCB (rLn K) (tCons ta tNil)) Γ Ω (I (ds.length : Int)) := cb_d (ar_cons h ar_nil) fun vs H0 H R g r k => by
  obtain ⟨v, rfl, rr1⟩ := rq1 r
  cases rr1 with
  | lst h1 rr =>
    refine ⟨_, _, rfl, .inl (SqL.of (g.ex _ _ h1)), ?_⟩
    rw [rr.length]
    exact k _ H0 H g (.refl _ _ _) (.int _)
theorem ev_lenT {K : PySem.W.Frag} {ds : List PyData} (h : EvD ta Γ Ω (.py (.tuple ds))) : EvD (tCB (rLn K) (tCons ta tNil)) Γ Ω (I (ds.length : Int)) := cb_d (ar_cons h ar_nil) fun vs H0 H R g r k => by
  obtain ⟨v, rfl, rr1⟩ := rq1 r
  cases rr1 with
  | tup h1 rr =>
    refine ⟨_, _, rfl, .inr (SqT.of (g.ex _ _ h1)), ?_⟩
    rw [rr.length]
    exact k _ H0 H g (.refl _ _ _) (.int _)
theorem ev_lenO {K : PySem.W.Frag} {j : Nat} {p : Addr} {ds : List D} (h : EvD ta Γ Ω (.loc p)) (hj : Ω[j]? = some (p, .lst ds)) : EvD (tCB (rLn K) (tCons ta tNil)) Γ Ω (I (ds.length : Int)) := cb_d (ar_cons h ar_nil) fun vs H0 H R g r k => by
  obtain ⟨v, rfl, rr1⟩ := rq1 r
  cases (show v = .ref p from rr1)
  obtain ⟨_, o, hp, vs, rfl, rv⟩ := g.get hj
  refine ⟨_, _, rfl, .inl (SqL.of hp), ?_⟩
  rw [Paired.length rv]
  exact k _ H0 H g (.refl _ _ _) (.int _)
def rLnS : List V → Hp → VK → Prop := fun xs H Q => ∃ z, xs = [.str z] ∧ z.length ≤ sizeLine ∧ Q (.int z.length) H
theorem cl_lenS {X : Cx} : CallR X (.builtin "len") rLnS := call_len_str
theorem ev_lenS {z : Str} (h : EvD ta Γ Ω (S z)) (hz : z.length ≤ 100000) : EvD (tCB rLnS (tCons ta tNil)) Γ Ω (I (z.length : Int)) := cb_d (ar_cons h ar_nil) fun vs H0 H R g r k => by
  obtain ⟨v, rfl, rr1⟩ := rq1 r
  cases rr1
  exact ⟨z, rfl, Nat.le_trans hz (by decide), k _ H0 H g (.refl _ _ _) (.int _)⟩
def rMx2 : List V → Hp → VK → Prop := fun xs H Q => ∃ i j, xs = [.int i, .int j] ∧ Q (.int (if j > i then j else i)) H
theorem cl_max2 {X : Cx} (hc : X.calm = true) : CallR X (.builtin "max") rMx2 := call_max2 hc
def rMn2 : List V → Hp → VK → Prop := fun xs H Q => ∃ i j, xs = [.int i, .int j] ∧ Q (.int (if j < i then j else i)) H
theorem cl_min2 {X : Cx} (hc : X.calm = true) : CallR X (.builtin "min") rMn2 := call_min2 hc
theorem ev_max2 {i j : Int} (ha : EvD ta Γ Ω (I i)) (hb : EvD tb Γ Ω (I j)) : EvD (tCB rMx2 (tCons ta (tCons tb tNil))) Γ Ω (I (max i j)) := cb_d (ar_cons ha (ar_cons hb ar_nil)) fun vs H0 H R g r k => by
  obtain ⟨v, u, rfl, r1, r2⟩ := rq2 r
  cases r1; cases r2
  refine ⟨i, j, rfl, ?_⟩
  have e : (if j > i then j else i) = max i j := by split <;> omega
  rw [e]
  exact k _ H0 H g (.refl _ _ _) (.int _)
theorem ev_min2 {i j : Int} (ha : EvD ta Γ Ω (I i)) (hb : EvD tb Γ Ω (I j)) : EvD (tCB rMn2 (tCons ta (tCons tb tNil))) Γ Ω (I (min i j)) := cb_d (ar_cons ha (ar_cons hb ar_nil)) fun vs H0 H R g r k => by
  obtain ⟨v, u, rfl, r1, r2⟩ := rq2 r
  cases r1; cases r2
  refine ⟨i, j, rfl, ?_⟩
  have e : (if j < i then j else i) = min i j := by split <;> omega
  rw [e]
  exact k _ H0 H g (.refl _ _ _) (.int _)
def rIn1 : List V → Hp → VK → Prop := fun xs H Q => (∃ i, xs = [.int i] ∧ Q (.int i) H) ∨ ∃ k, xs = [.bl k] ∧ Q (.int (if k then 1 else 0)) H
theorem cl_int {X : Cx} : CallR X (.type "int") rIn1 := call_int1
theorem ev_intB {b : Bool} (h : EvD ta Γ Ω (B b)) : EvD (tCB rIn1 (tCons ta tNil)) Γ Ω (I (if b then 1 else 0)) := cb_d (ar_cons h ar_nil) fun vs H0 H R g r k => by
  obtain ⟨v, rfl, rr1⟩ := rq1 r
  cases rr1
  exact .inr ⟨b, rfl, k _ H0 H g (.refl _ _ _) (.int _)⟩
def rTu (K : PySem.W.Frag) : List V → Hp → VK → Prop := fun xs H Q => ∃ p ys, xs = [.ref p] ∧ ((SqL K H p ys ∧ ∀ l, H l = none → Q (.ref l) (upd H l (.tup ys))) ∨ (SqT K H p ys ∧ Q (.ref p) H))
theorem cl_tuple {X : Cx} : CallR X (.type "tuple") (rTu X.K) := call_tuple_of
theorem ev_tuple {K : PySem.W.Frag} {ds : List PyData} (h : EvD ta Γ Ω (.py (.list ds))) : EvD (tCB (rTu K) (tCons ta tNil)) Γ Ω (.py (.tuple ds)) := cb_d (ar_cons h ar_nil) fun vs H0 H R g r k => by
  obtain ⟨v, rfl, rr1⟩ := rq1 r
  cases rr1 with
  | lst h1 rr =>
    refine ⟨_, _, rfl, .inl ⟨SqL.of (g.ex _ _ h1), fun l hl => ?_⟩⟩
    obtain ⟨g2, c2⟩ := g.frz hl (.tup _)
    exact k _ _ _ g2 c2 (.tup upd_same (rr.mono c2.ex))
def rLi (K : PySem.W.Frag) : List V → Hp → VK → Prop := fun xs H Q => ∃ p ys, xs = [.ref p] ∧ (SqL K H p ys ∨ SqT K H p ys) ∧ ∀ l, H l = none → Q (.ref l) (upd H l (.lst ys))
theorem cl_list {X : Cx} : CallR X (.type "list") (rLi X.K) := call_list_of
theorem ev_listT {K : PySem.W.Frag} {ds : List PyData} (h : EvD ta Γ Ω (.py (.tuple ds))) : EvD (tCB (rLi K) (tCons ta tNil)) Γ Ω (.py (.list ds)) := cb_d (ar_cons h ar_nil) fun vs H0 H R g r k => by
  obtain ⟨v, rfl, rr1⟩ := rq1 r
  cases rr1 with
  | tup h1 rr =>
    refine ⟨_, _, rfl, .inr (SqT.of (g.ex _ _ h1)), fun l hl => ?_⟩
    obtain ⟨g2, c2⟩ := g.frz hl (.lst _)
    exact k _ _ _ g2 c2 (.lst upd_same (rr.mono c2.ex))
theorem ev_sum {K : PySem.W.Frag} {ns : List Int} (h : EvD ta Γ Ω (.py (.list (ns.map PyData.int)))) : EvD (tCB (rSum K) (tCons ta tNil)) Γ Ω (I ns.sum) := cb_d (ar_cons h ar_nil) fun vs H0 H R g r k => by
  obtain ⟨v, rfl, rr1⟩ := rq1 r
  cases rr1 with
  | lst h1 rr =>
    rw [RpL.ints rr] at h1
    exact ⟨_, ns, rfl, SqL.of (g.ex _ _ h1), k _ H0 H g (.refl _ _ _) (.int _)⟩
theorem ev_any {K : PySem.W.Frag} {bs : List Bool} (h : EvD ta Γ Ω (.py (.list (bs.map PyData.bool)))) : EvD (tCB (rAny K) (tCons ta tNil)) Γ Ω (B (bs.any id)) := cb_d (ar_cons h ar_nil) fun vs H0 H R g r k => by
  obtain ⟨v, rfl, rr1⟩ := rq1 r
  cases rr1 with
  | lst h1 rr =>
    rw [RpL.bools rr] at h1
    exact ⟨_, bs, rfl, SqL.of (g.ex _ _ h1), k _ H0 H g (.refl _ _ _) (.bl _)⟩
theorem ev_all {K : PySem.W.Frag} {bs : List Bool} (h : EvD ta Γ Ω (.py (.list (bs.map PyData.bool)))) : EvD (tCB (rAll K) (tCons ta tNil)) Γ Ω (B (bs.all id)) := cb_d (ar_cons h ar_nil) fun vs H0 H R g r k => by
  obtain ⟨v, rfl, rr1⟩ := rq1 r
  cases rr1 with
  | lst h1 rr =>
    rw [RpL.bools rr] at h1
    exact ⟨_, bs, rfl, SqL.of (g.ex _ _ h1), k _ H0 H g (.refl _ _ _) (.bl _)⟩

/-! ### == of scalars, of data; is None -/
theorem dec_ii {i j : Int} : decide (V.int i = V.int j) = decide (i = j) := by
  by_cases h : i = j
  · subst h; simp
  · rw [decide_eq_false h, decide_eq_false (fun q => h (V.int.inj q))]
theorem dec_ss {i j : Str} : decide (V.str i = V.str j) = decide (i = j) := by
  by_cases h : i = j
  · subst h; simp
  · rw [decide_eq_false h, decide_eq_false (fun q => h (V.str.inj q))]
theorem ev_eqI {i j : Int} (ha : EvD ta Γ Ω (I i)) (hb : EvD tb Γ Ω (I j)) : EvD (tOp rEq ta tb) Γ Ω (B (decide (i = j))) :=
  op_d ha hb fun v u H0 H R g rv ru k => by
    cases rv; cases ru
    exact ⟨rfl, k _ H0 H g (.refl _ _ _) (by rw [dec_ii]; exact .bl _)⟩
theorem ev_neI {i j : Int} (ha : EvD ta Γ Ω (I i)) (hb : EvD tb Γ Ω (I j)) : EvD (tOp rNe ta tb) Γ Ω (B (!decide (i = j))) :=
  op_d ha hb fun v u H0 H R g rv ru k => by
    cases rv; cases ru
    exact ⟨rfl, k _ H0 H g (.refl _ _ _) (by rw [dec_ii]; exact .bl _)⟩
theorem ev_eqS {i j : Str} (ha : EvD ta Γ Ω (S i)) (hb : EvD tb Γ Ω (S j)) : EvD (tOp rEq ta tb) Γ Ω (B (decide (i = j))) :=
  op_d ha hb fun v u H0 H R g rv ru k => by
    cases rv; cases ru
    exact ⟨rfl, k _ H0 H g (.refl _ _ _) (by rw [dec_ss]; exact .bl _)⟩
theorem ev_neS {i j : Str} (ha : EvD ta Γ Ω (S i)) (hb : EvD tb Γ Ω (S j)) : EvD (tOp rNe ta tb) Γ Ω (B (!decide (i = j))) :=
  op_d ha hb fun v u H0 H R g rv ru k => by
    cases rv; cases ru
    exact ⟨rfl, k _ H0 H g (.refl _ _ _) (by rw [dec_ss]; exact .bl _)⟩
/-- an int or None -/
def oI : Option Int → PyData
  | none => .none
  | some i => .int i
theorem ev_eqO {a b : Option Int} (ha : EvD ta Γ Ω (.py (oI a))) (hb : EvD tb Γ Ω (.py (oI b))) : EvD (tOp rEq ta tb) Γ Ω (B (decide (a = b))) :=
  op_d ha hb fun v u H0 H R g rv ru k => by
    cases a with
    | none =>
      cases b with
      | none => cases rv; cases ru; exact ⟨rfl, k _ H0 H g (.refl _ _ _) (.bl _)⟩
      | some j => cases rv; cases ru; exact ⟨rfl, k _ H0 H g (.refl _ _ _) (.bl _)⟩
    | some i =>
      cases b with
      | none => cases rv; cases ru; exact ⟨rfl, k _ H0 H g (.refl _ _ _) (.bl _)⟩
      | some j =>
        cases rv; cases ru
        refine ⟨rfl, k _ H0 H g (.refl _ _ _) ?_⟩
        have e : decide (V.int i = V.int j) = decide (some i = some j) := by rw [dec_ii]; simp
        rw [e]
        exact .bl _
theorem ev_neO {a b : Option Int} (ha : EvD ta Γ Ω (.py (oI a))) (hb : EvD tb Γ Ω (.py (oI b))) : EvD (tOp rNe ta tb) Γ Ω (B (!decide (a = b))) :=
  op_d ha hb fun v u H0 H R g rv ru k => by
    cases a with
    | none =>
      cases b with
      | none => cases rv; cases ru; exact ⟨rfl, k _ H0 H g (.refl _ _ _) (.bl _)⟩
      | some j => cases rv; cases ru; exact ⟨rfl, k _ H0 H g (.refl _ _ _) (.bl _)⟩
    | some i =>
      cases b with
      | none => cases rv; cases ru; exact ⟨rfl, k _ H0 H g (.refl _ _ _) (.bl _)⟩
      | some j =>
        cases rv; cases ru
        refine ⟨rfl, k _ H0 H g (.refl _ _ _) ?_⟩
        have e : decide (V.int i = V.int j) = decide (some i = some j) := by rw [dec_ii]; simp
        rw [e]
        exact .bl _
def isNon : PyData → Bool
  | .none => true
  | _ => false
theorem rp_non {H : Hp} {v : V} {d : PyData} (r : Rp H v d) : decide (v = V.non) = isNon d := by
  cases r <;> simp [isNon]
def rIsN : R2 := fun x y H Q => y = .non ∧ Q (.bl (decide (x = .non))) H
def rNotN : R2 := fun x y H Q => y = .non ∧ Q (.bl (!decide (x = .non))) H
theorem op_isn {X : Cx} : OpR X (compareOp .Is) rIsN := op_isN
theorem op_ntn {X : Cx} : OpR X (compareOp .IsNot) rNotN := op_notN
theorem ev_isN {d : PyData} (ha : EvD ta Γ Ω (.py d)) : EvD (tOp rIsN ta (tC .non)) Γ Ω (B (isNon d)) :=
  op_d ha ev_non fun v u H0 H R g rv ru k => by
    cases ru
    exact ⟨rfl, k _ H0 H g (.refl _ _ _) (by rw [rp_non rv]; exact .bl _)⟩
theorem ev_ntN {d : PyData} (ha : EvD ta Γ Ω (.py d)) : EvD (tOp rNotN ta (tC .non)) Γ Ω (B (!isNon d)) :=
  op_d ha ev_non fun v u H0 H R g rv ru k => by
    cases ru
    exact ⟨rfl, k _ H0 H g (.refl _ _ _) (by rw [rp_non rv]; exact .bl _)⟩
theorem ev_eqD {K : PySem.W.Frag} {d e : PyData} (ha : EvD ta Γ Ω (.py d)) (hb : EvD tb Γ Ω (.py e)) (sd : SeqAt.shaped d = true) (se : SeqAt.shaped e = true) : EvD (tOp (rEqD K) ta tb) Γ Ω (B (PyData.eqv d e)) :=
  op_d ha hb fun v u H0 H R g rv ru k => ⟨d, e, Rp.dp (Rp.mono g.ex rv), Rp.dp (Rp.mono g.ex ru), sd, se, k _ H0 H g (.refl _ _ _) (.bl _)⟩
theorem ev_neD {K : PySem.W.Frag} {d e : PyData} (ha : EvD ta Γ Ω (.py d)) (hb : EvD tb Γ Ω (.py e)) (sd : SeqAt.shaped d = true) (se : SeqAt.shaped e = true) : EvD (tOp (rNeD K) ta tb) Γ Ω (B (!PyData.eqv d e)) :=
  op_d ha hb fun v u H0 H R g rv ru k => ⟨d, e, Rp.dp (Rp.mono g.ex rv), Rp.dp (Rp.mono g.ex ru), sd, se, k _ H0 H g (.refl _ _ _) (.bl _)⟩
/-- two tuples of ints -/
theorem ev_ltT {K : PySem.W.Frag} {ns ms : List Int} (ha : EvD ta Γ Ω (.py (.tuple (ns.map PyData.int)))) (hb : EvD tb Γ Ω (.py (.tuple (ms.map PyData.int)))) : EvD (tOp (rLtT K) ta tb) Γ Ω (B (HT.lexLt ns ms)) :=
  op_d ha hb fun v u H0 H R g rv ru k => by
    cases rv with
    | tup h1 r1 =>
      cases ru with
      | tup h2 r2 =>
        rw [RpL.ints r1] at h1
        rw [RpL.ints r2] at h2
        exact ⟨_, _, ns, ms, rfl, rfl, SqT.of (g.ex _ _ h1), SqT.of (g.ex _ _ h2), k _ H0 H g (.refl _ _ _) (.bl _)⟩
/-! a flat thing in a list or tuple -/
def flatD : PyData → Bool
  | .none => true
  | .bool _ => true
  | .int _ => true
  | .str _ => true
  | _ => false
theorem ev_inTI {K : PySem.W.Frag} {i : Int} {ns : List Int} (ha : EvD ta Γ Ω (I i)) (hb : EvD tb Γ Ω (.py (.tuple (ns.map PyData.int)))) : EvD (tOp (rIn K false) ta tb) Γ Ω (B (ns.contains i)) :=
  op_d ha hb fun v u H0 H R g rv ru k => by
    cases rv
    cases ru with
    | tup h1 r1 =>
      rw [RpL.ints r1] at h1
      refine ⟨_, _, rfl, .inr (SqT.of (g.ex _ _ h1)), rfl, by simp [flatV], ?_⟩
      have e : inV (.int i) (ns.map V.int) = ns.contains i := by
        unfold inV
        rw [List.any_map, List.contains_eq_any_beq]
        congr 1
        funext y
        show (y == i) = (i == y)
        exact Bool.beq_comm ..
      show R (.bl (if false = true then _ else inV (.int i) (ns.map V.int))) H
      rw [if_neg Bool.false_ne_true, e]
      exact k _ H0 H g (.refl _ _ _) (.bl _)

/-! ### comprehensions -/
def wipeG (Γ : En) : List Nat → En
  | [] => Γ
  | v :: vs => (wipeG Γ vs).set v none
theorem wipeG_len {Γ : En} : ∀ {vs : List Nat}, (wipeG Γ vs).length = Γ.length
  | [] => rfl
  | v :: vs => by unfold wipeG; rw [List.length_set, wipeG_len]
theorem wipeG_some {Γ : En} {i : Nat} {d : D} : ∀ {vs : List Nat}, (wipeG Γ vs)[i]? = some (some d) → Γ[i]? = some (some d) ∧ i ∉ vs
  | [], h => ⟨h, by simp⟩
  | v :: vs, h => by
    unfold wipeG at h
    rw [List.getElem?_set] at h
    split at h
    · split at h <;> cases h
    · rename_i hne
      obtain ⟨a, b⟩ := wipeG_some h
      exact ⟨a, by simp only [List.mem_cons, not_or]; exact ⟨fun e => hne e.symm, b⟩⟩
theorem Sl.wipe {σ : St} (s : Sl Γ σ H0) (vs : List Nat) : Sl (wipeG Γ vs) (L2.wipe σ vs) H0 := by
  refine ⟨by rw [wipe_length, wipeG_len]; exact s.len, fun i d h => ?_⟩
  obtain ⟨a, b⟩ := wipeG_some h
  rw [wipe_out b]
  exact s.at_ i d a
theorem wipe_get (σ : St) (j : Nat) : ∀ vs : List Nat, (L2.wipe σ vs)[j]? = if j ∈ vs then (σ[j]?).map fun _ => none else σ[j]?
  | [] => by simp [L2.wipe]
  | v :: vs => by
    unfold L2.wipe
    rw [List.getElem?_set, wipe_get σ j vs, wipe_length]
    by_cases e : v = j
    · subst e
      simp only [if_true, List.mem_cons, true_or, if_pos]
      by_cases hl : v < σ.length
      · rw [if_pos hl, List.getElem?_eq_getElem hl]; rfl
      · rw [if_neg hl, List.getElem?_eq_none (by omega)]; rfl
    · rw [if_neg e]
      have : (j ∈ v :: vs) = (j ∈ vs) := by simp [List.mem_cons, Ne.symm e]
      simp only [this]
theorem wipe_set {σ : St} {i : Nat} {x : Option V} {vs : List Nat} (h : i ∈ vs) : L2.wipe (σ.set i x) vs = L2.wipe σ vs := by
  apply List.ext_getElem?
  intro j
  rw [wipe_get, wipe_get]
  by_cases hj : j ∈ vs
  · rw [if_pos hj, if_pos hj, List.getElem?_set]
    split
    · rename_i e
      subst e
      split
      · rename_i hl
        rw [List.getElem?_eq_getElem hl]; rfl
      · rename_i hl
        rw [List.getElem?_eq_none (by omega)]
    · rfl
  · rw [if_neg hj, if_neg hj, List.getElem?_set]
    split
    · rename_i e
      exact (hj (e ▸ h)).elim
    · rfl
def TgOk (g : TG) (vs : List Nat) : Prop := ∀ (v : V) (σ : St) (H : Hp) (R : St → Hp → Prop), g v σ H R → g v σ H fun σ2 H2 => L2.wipe σ2 vs = L2.wipe σ vs ∧ R σ2 H2
def TgsOk (g : TGs) (vs : List Nat) : Prop := ∀ (us : List V) (σ : St) (H : Hp) (R : St → Hp → Prop), g us σ H R → g us σ H fun σ2 H2 => L2.wipe σ2 vs = L2.wipe σ vs ∧ R σ2 H2
theorem to_name {i : Nat} {vs : List Nat} (h : i ∈ vs := by decide) : TgOk (gName i) vs := fun v σ H R q => ⟨wipe_set h, q⟩
theorem tos_nil {vs : List Nat} : TgsOk gNil vs := fun us σ H R q => ⟨q.1, rfl, q.2⟩
theorem tos_cons {vs : List Nat} {i : Nat} (h : i ∈ vs := by decide) (h2 : TgsOk gs vs) : TgsOk (gCons (gName i) gs) vs := fun us σ H R q => by
  obtain ⟨v, r, e, q⟩ := q
  refine ⟨v, r, e, ?_⟩
  have := h2 r _ H R q
  show gs r (σ.set i (some v)) H _
  rw [show L2.wipe (σ.set i (some v)) vs = L2.wipe σ vs from wipe_set h] at this
  exact this
theorem to_tup {K : PySem.W.Frag} {n : Nat} {vs : List Nat} (h : TgsOk gs vs) : TgOk (gTup K n gs) vs := fun v σ H R q => by
  obtain ⟨a, xs, e, h1, h2, q⟩ := q
  exact ⟨a, xs, e, h1, h2, h _ _ _ _ q⟩
theorem ts_yes : TsD tYes Γ Ω true := fun Q q σ H0 H R s g k => k true Ω H0 H q g (.refl _ _ _)
/-- what one turn of a pure comprehension does -/
theorem lc_turn {vs : List Nat} {d : PyData} {p : Bool} {y : PyData} {σ : St} {H0 H : Hp} {v : V} {Dd : Addr} {acc : List D} {Nx : Hp → Prop} (ok : TgOk g vs) (hl : acc.length < 100000)
    (hb : TgW g (.py d) (wipeG Γ vs) [] fun Γ2 Ω2 => Ω2 = [] ∧ TsD tt Γ2 [] p ∧ (p = true → EvD te Γ2 [] (.py y)))
    (s : Sl Γ σ H0) (gh : Hs (Ω ++ [(Dd, .lst acc)]) H0 H) (r : Rq H0 v (.py d))
    (k : ∀ H0' H', Sl Γ σ H0' → Hs (Ω ++ [(Dd, .lst (if p = true then acc ++ [.py y] else acc))]) H0' H' → Step (Ω ++ [(Dd, .lst acc)]) (Ω ++ [(Dd, .lst (if p = true then acc ++ [.py y] else acc))]) H0 H H0' H' → Nx H') :
    g v (L2.wipe σ vs) H fun σ2 H2 => L2.wipe σ2 vs = L2.wipe σ vs ∧ tt σ2 H2 fun b H3 =>
      if b = true then te σ2 H3 fun y H4 => ∃ ac, H4 Dd = some (.lst ac) ∧ ac.length < sizeLine ∧ Nx (upd H4 Dd (.lst (ac ++ [y]))) else Nx H3 := by
  have ww : L2.wipe (L2.wipe σ vs) vs = L2.wipe σ vs := by
    apply List.ext_getElem?
    intro j
    rw [wipe_get, wipe_get]
    split
    · rw [Option.map_map]; rfl
    · rfl
  have q := hb (L2.wipe σ vs) H0 H v (fun σ2 H2 => tt σ2 H2 fun b H3 =>
      if b = true then te σ2 H3 fun y H4 => ∃ ac, H4 Dd = some (.lst ac) ∧ ac.length < sizeLine ∧ Nx (upd H4 Dd (.lst (ac ++ [y]))) else Nx H3) (s.wipe vs) gh.nil r (by
    rintro σ2 Γ2 Ω2 H02 H2 ⟨rfl, h1, h2⟩ s2 g2 c2
    obtain ⟨f2, d2⟩ := G.frame (Ω := []) (Ωr := Ω ++ [(Dd, .lst acc)]) gh g2 c2
    refine h1.bind s2 g2 fun H03 H3 s3 g3 c3 => ?_
    obtain ⟨f3, d3⟩ := G.frame (Ω := []) (Ωr := Ω ++ [(Dd, .lst acc)]) f2 g3 c3
    have d23 := d2.trans d3 f2.ex
    cases p with
    | false =>
      rw [if_neg Bool.false_ne_true]
      exact k H03 H3 (s.mono d23.ex) f3 d23
    | true =>
      rw [if_pos rfl]
      refine (h2 rfl).bind s3 g3 fun v4 H04 H4 s4 g4 c4 r4 => ?_
      obtain ⟨f4, d4⟩ := G.frame (Ω := []) (Ωr := Ω ++ [(Dd, .lst acc)]) f3 g4 c4
      have d34 := d23.trans d4 f3.ex
      have hj : (Ω ++ [(Dd, Own.lst acc)])[Ω.length]? = some (Dd, .lst acc) := by simp
      obtain ⟨_, o, hp, ws, rfl, rv⟩ := f4.get hj
      refine ⟨ws, hp, by rw [Paired.length rv]; exact Nat.lt_of_lt_of_le hl (by decide), ?_⟩
      obtain ⟨g5, c5⟩ := f4.put hj (o := .lst (ws ++ [v4])) (w' := .lst (acc ++ [.py y])) ⟨_, rfl, Paired.snoc rv r4⟩
      have es : (Ω ++ [(Dd, Own.lst acc)]).set Ω.length (Dd, .lst (acc ++ [.py y])) = Ω ++ [(Dd, .lst (acc ++ [.py y]))] := by simp
      rw [show ([] : Om) ++ (Ω ++ [(Dd, Own.lst acc)]) = Ω ++ [(Dd, Own.lst acc)] from rfl] at g5 c5
      rw [es] at g5 c5
      exact k H04 _ (s.mono d34.ex) g5 (d34.trans c5 f4.ex))
  have q' := ok v _ H _ q
  rw [ww] at q'
  exact q'
theorem take_next {α : Type} {l : List α} {i : Nat} {a : α} (h : l[i]? = some a) : l.take (i + 1) = l.take i ++ [a] := by
  rw [List.take_succ, h]; rfl
theorem fm_next {α : Type} {xs : List α} {i : Nat} {a : α} (h : xs[i]? = some a) (p : α → Bool) (f : α → PyData) :
    (((xs.take (i + 1)).filter p).map f).map D.py = if p a = true then (((xs.take i).filter p).map f).map D.py ++ [.py (f a)] else (((xs.take i).filter p).map f).map D.py := by
  rw [take_next h, List.filter_append]
  cases hp : p a <;> simp [List.filter, hp]
theorem fm_len {α : Type} (xs : List α) (i : Nat) (p : α → Bool) (f : α → PyData) : ((((xs.take i).filter p).map f).map D.py).length ≤ xs.length := by
  rw [List.length_map, List.length_map]
  exact Nat.le_trans (List.length_filter_le _ _) (by rw [List.length_take]; omega)
theorem lc_end {K : PySem.W.Frag} {α : Type} (xs : List α) (p : α → Bool) (f : α → PyData) {σ : St} {H01 H1 H' : Hp} {Dd : Addr} {H0' : Hp} {R : VK}
    (g' : Hs (Ω ++ [(Dd, .lst ((((xs.take xs.length).filter p).map f).map D.py))]) H0' H') (c' : Step Ω (Ω ++ [(Dd, .lst ((((xs.take xs.length).filter p).map f).map D.py))]) H01 H1 H0' H')
    (k : ∀ v H0'' H'', Hs Ω H0'' H'' → Step Ω Ω H01 H1 H0'' H'' → Rq H0'' v (.py (.list ((xs.filter p).map f))) → R v H'') : R (.ref Dd) H' := by
  rw [List.take_length] at g' c'
  have hj : (Ω ++ [(Dd, Own.lst (((xs.filter p).map f).map D.py))])[Ω.length]? = some (Dd, .lst (((xs.filter p).map f).map D.py)) := by simp
  obtain ⟨_, o, hp, ws, rfl, rv⟩ := g'.get hj
  obtain ⟨g2, c2⟩ := g'.freeze hj hp
  have es : (Ω ++ [(Dd, Own.lst (((xs.filter p).map f).map D.py))]).eraseIdx Ω.length = Ω := by
    rw [List.eraseIdx_append_of_length_le (Nat.le_refl _)]; simp
  rw [es] at g2 c2
  exact k _ _ _ g2 (c'.trans c2 g'.ex) (.lst upd_same (RpL.mono c2.ex (RqL.py rv)))
theorem ev_lcL {K : PySem.W.Frag} {α : Type} {vs : List Nat} (xs : List α) (enc : α → PyData) (p : α → Bool) (f : α → PyData) (hi : EvD tl Γ Ω (.py (.list (xs.map enc)))) (ok : TgOk g vs) (hz : xs.length < 100000)
    (hb : ∀ a ∈ xs, TgW g (.py (enc a)) (wipeG Γ vs) [] fun Γ2 Ω2 => Ω2 = [] ∧ TsD tt Γ2 [] (p a) ∧ (p a = true → EvD te Γ2 [] (.py (f a)))) : EvD (tLc (iList K tl) g tt te vs) Γ Ω (.py (.list ((xs.filter p).map f))) := fun Q q σ H0 H R s gh k =>
  hi.bind s gh fun v H01 H1 s1 g1 c1 r1 => by
    cases r1 with
    | lst h1 rr =>
      rename_i a ws
      have hl : ws.length = xs.length := by rw [rr.length, List.length_map]
      refine ⟨a, rfl, ⟨ws, SqL.of (g1.ex _ _ h1)⟩, fun Dd hD => ?_⟩
      obtain ⟨g2, c2⟩ := g1.new hD (o := .lst []) (w := .lst []) ⟨[], rfl, .nil⟩
      refine lc_list (K := K) (a := a) (xs := ws) (fun i H' => ∃ H0', Sl Γ σ H0' ∧ Hs (Ω ++ [(Dd, .lst ((((xs.take i).filter p).map f).map D.py))]) H0' H' ∧ Step Ω (Ω ++ [(Dd, .lst ((((xs.take i).filter p).map f).map D.py))]) H01 H1 H0' H')
        ⟨H01, s1, g2, c2⟩ (fun i H' _ ⟨H0', _, g', c'⟩ => SqL.of (g'.ex _ _ (c'.ex _ _ h1))) ?_ ?_
      · rintro i x H' hx ⟨H0', s', g', c'⟩
        obtain ⟨d, hd, rd⟩ := rr.getV hx
        rw [List.getElem?_map] at hd
        cases e : xs[i]? with
        | none => rw [e] at hd; cases hd
        | some b =>
          rw [e] at hd
          cases hd
          refine lc_turn ok (Nat.lt_of_le_of_lt (fm_len xs i p f) hz) (hb b (List.mem_of_getElem? e)) s' g' (rd.mono c'.ex) fun H0'' H'' s'' g'' c'' => ?_
          rw [← fm_next e] at g'' c''
          exact ⟨H0'', s'', g'', c'.trans c'' g'.ex⟩
      · rintro H' ⟨H0', s', g', c'⟩
        rw [hl] at g' c'
        exact lc_end (K := K) (σ := σ) xs p f g' c' fun v A0 A ga ca ra => k v _ Ω A0 A q ga (c1.trans ca g1.ex) ra
theorem ev_lcT {K : PySem.W.Frag} {α : Type} {vs : List Nat} (xs : List α) (enc : α → PyData) (p : α → Bool) (f : α → PyData) (hi : EvD tl Γ Ω (.py (.tuple (xs.map enc)))) (ok : TgOk g vs) (hz : xs.length < 100000)
    (hb : ∀ a ∈ xs, TgW g (.py (enc a)) (wipeG Γ vs) [] fun Γ2 Ω2 => Ω2 = [] ∧ TsD tt Γ2 [] (p a) ∧ (p a = true → EvD te Γ2 [] (.py (f a)))) : EvD (tLc (iTup K tl) g tt te vs) Γ Ω (.py (.list ((xs.filter p).map f))) := fun Q q σ H0 H R s gh k =>
  hi.bind s gh fun v H01 H1 s1 g1 c1 r1 => by
    cases r1 with
    | tup h1 rr =>
      rename_i a ws
      have hl : ws.length = xs.length := by rw [rr.length, List.length_map]
      refine ⟨a, rfl, ⟨ws, SqT.of (g1.ex _ _ h1)⟩, fun Dd hD => ?_⟩
      obtain ⟨g2, c2⟩ := g1.new hD (o := .lst []) (w := .lst []) ⟨[], rfl, .nil⟩
      refine lc_tup (K := K) (a := a) (xs := ws) (fun i H' => ∃ H0', Sl Γ σ H0' ∧ Hs (Ω ++ [(Dd, .lst ((((xs.take i).filter p).map f).map D.py))]) H0' H' ∧ Step Ω (Ω ++ [(Dd, .lst ((((xs.take i).filter p).map f).map D.py))]) H01 H1 H0' H')
        ⟨H01, s1, g2, c2⟩ (fun i H' _ ⟨H0', _, g', c'⟩ => SqT.of (g'.ex _ _ (c'.ex _ _ h1))) ?_ ?_
      · rintro i x H' hx ⟨H0', s', g', c'⟩
        obtain ⟨d, hd, rd⟩ := rr.getV hx
        rw [List.getElem?_map] at hd
        cases e : xs[i]? with
        | none => rw [e] at hd; cases hd
        | some b =>
          rw [e] at hd
          cases hd
          refine lc_turn ok (Nat.lt_of_le_of_lt (fm_len xs i p f) hz) (hb b (List.mem_of_getElem? e)) s' g' (rd.mono c'.ex) fun H0'' H'' s'' g'' c'' => ?_
          rw [← fm_next e] at g'' c''
          exact ⟨H0'', s'', g'', c'.trans c'' g'.ex⟩
      · rintro H' ⟨H0', s', g', c'⟩
        rw [hl] at g' c'
        exact lc_end (K := K) (σ := σ) xs p f g' c' fun v A0 A ga ca ra => k v _ Ω A0 A q ga (c1.trans ca g1.ex) ra
theorem ev_lcR {α : Type} {ta : TA} {vs : List Nat} (n : Nat) (p : Nat → Bool) (f : Nat → PyData) (hi : ArD ta Γ Ω [I (n : Int)]) (ok : TgOk g vs) (hz : n < 100000)
    (hb : ∀ a < n, TgW g (I (a : Int)) (wipeG Γ vs) [] fun Γ2 Ω2 => Ω2 = [] ∧ TsD tt Γ2 [] (p a) ∧ (p a = true → EvD te Γ2 [] (.py (f a)))) : EvD (tLc (iRng1 ta) g tt te vs) Γ Ω (.py (.list (((List.range n).filter p).map f))) := fun Q q σ H0 H R s gh k =>
  hi.bind s gh fun vs' H01 H1 s1 g1 c1 r1 => by
    obtain ⟨v, rfl, rr1⟩ := rq1 r1
    cases rr1
    refine ⟨n, rfl, by omega, by omega, fun Dd hD => ?_⟩
    obtain ⟨g2, c2⟩ := g1.new hD (o := .lst []) (w := .lst []) ⟨[], rfl, .nil⟩
    have hn : (n : Int).toNat = n := by omega
    have hl : (List.range n).length = n := List.length_range
    rw [hn]
    refine lc_range (lo := 0) (n := n) (fun i H' => ∃ H0', Sl Γ σ H0' ∧ Hs (Ω ++ [(Dd, .lst (((((List.range n).take i).filter p).map f).map D.py))]) H0' H' ∧ Step Ω (Ω ++ [(Dd, .lst (((((List.range n).take i).filter p).map f).map D.py))]) H01 H1 H0' H')
      ⟨H01, s1, g2, c2⟩ ?_ ?_
    · rintro i H' hx ⟨H0', s', g', c'⟩
      have e : (List.range n)[i]? = some i := by rw [List.getElem?_range hx]
      have e0 : (0 : Int) + (i : Nat) = (i : Nat) := by omega
      rw [e0]
      refine lc_turn ok (Nat.lt_of_le_of_lt (fm_len (List.range n) i p f) (by rw [hl]; exact hz)) (hb i hx) s' g' (Rp.int _) fun H0'' H'' s'' g'' c'' => ?_
      rw [← fm_next e] at g'' c''
      exact ⟨H0'', s'', g'', c'.trans c'' g'.ex⟩
    · rintro H' ⟨H0', s', g', c'⟩
      have el : n = (List.range n).length := hl.symm
      rw [show (List.range n).take n = (List.range n).take (List.range n).length by rw [hl]] at g' c'
      exact lc_end (K := ([] : PySem.W.Frag)) (σ := σ) (List.range n) p f g' c' fun v A0 A ga ca ra => k v _ Ω A0 A q ga (c1.trans ca g1.ex) ra
end
end G
end

section
set_option Elab.async false
set_option linter.all false
set_option maxRecDepth 100000
set_option maxHeartbeats 2000000
namespace G
open PySem L2
open PyProof.Rows (envOfC)

/-! ### short words for the terms -/
section
variable {X : Cx} {e e2 : Expr} {es : List Expr} {t : TA} {p pos : Pos}
theorem gn {i : Nat} {x : Str} (hN : X.N.Nodup) (j : Nat) (hj : j = i := by rfl) (hi : X.N[i]? = some x := by rfl) (hx : Loc X.env.scope x := by first | exact Or.inl rfl | exact Or.inr rfl)
    (hf : X.fn x = true ∨ X.env.scope.names.lookup x = some .local := by first | exact .inl rfl | exact .inr rfl) : PG X (.Name x pos) (gName i) := pg_name hN hi hx hf
theorem pe_gi {x : Str} {i : Int} (h : ∃ k, X.mg x = some (.int i k)) (hg : Gl X x := by rfl) (hd : (x == ("__debug__" : Str)) = false := by decide) : PE X (.Name x pos) (tC (.int i)) := by
  obtain ⟨k, h⟩ := h
  exact pe_glob hg h ⟨k, rfl⟩ hd
structure Bi (mg : Str → Option Value) : Prop where
  len : mg "len" = none
  list : mg "list" = none
  range : mg "range" = none
  sorted : mg "sorted" = none
  tuple : mg "tuple" = none
  set : mg "set" = none
  min : mg "min" = none
  max : mg "max" = none
  sum : mg "sum" = none
  any : mg "any" = none
  all : mg "all" = none
  enumerate : mg "enumerate" = none
  zip : mg "zip" = none
  dict : mg "dict" = none
  int : mg "int" = none
  bool : mg "bool" = none
  str : mg "str" = none
  isinstance : mg "isinstance" = none
variable (b : Bi X.mg)
include b
theorem pb_len (ha : PA X (e :: es) t) (hg : Gl X "len" := by rfl) (he : starEach (e :: es) X.env = (false, eval e X.env) :: starEach es X.env := by rfl) (hpl : (backTo pos (starEach es X.env)).any (·.1) = false := by rfl) :
    PE X (.Call (.Name "len" p) (e :: es) [] pos) (tCB (rLn X.K) t) := pe_callB cl_len hg b.len boot_len ha (by decide) (by decide) he hpl
theorem pb_lenS (ha : PA X (e :: es) t) (hg : Gl X "len" := by rfl) (he : starEach (e :: es) X.env = (false, eval e X.env) :: starEach es X.env := by rfl) (hpl : (backTo pos (starEach es X.env)).any (·.1) = false := by rfl) :
    PE X (.Call (.Name "len" p) (e :: es) [] pos) (tCB rLnS t) := pe_callB cl_lenS hg b.len boot_len ha (by decide) (by decide) he hpl
theorem pb_max2 (ha : PA X (e :: es) t) (hc : X.calm = true := by rfl) (hg : Gl X "max" := by rfl) (he : starEach (e :: es) X.env = (false, eval e X.env) :: starEach es X.env := by rfl) (hpl : (backTo pos (starEach es X.env)).any (·.1) = false := by rfl) :
    PE X (.Call (.Name "max" p) (e :: es) [] pos) (tCB rMx2 t) := pe_callB (cl_max2 hc) hg b.max PyProof.Rows.boot_max ha (by decide) (by decide) he hpl
theorem pb_min2 (ha : PA X (e :: es) t) (hc : X.calm = true := by rfl) (hg : Gl X "min" := by rfl) (he : starEach (e :: es) X.env = (false, eval e X.env) :: starEach es X.env := by rfl) (hpl : (backTo pos (starEach es X.env)).any (·.1) = false := by rfl) :
    PE X (.Call (.Name "min" p) (e :: es) [] pos) (tCB rMn2 t) := pe_callB (cl_min2 hc) hg b.min PyProof.Rows.boot_min ha (by decide) (by decide) he hpl
theorem pb_sum (ha : PA X (e :: es) t) (hc : X.calm = true := by rfl) (hg : Gl X "sum" := by rfl) (he : starEach (e :: es) X.env = (false, eval e X.env) :: starEach es X.env := by rfl) (hpl : (backTo pos (starEach es X.env)).any (·.1) = false := by rfl) :
    PE X (.Call (.Name "sum" p) (e :: es) [] pos) (tCB (rSum X.K) t) := pe_callB (cr_sum hc) hg b.sum PyProof.Rows.boot_sum ha (by decide) (by decide) he hpl
theorem pb_any (ha : PA X (e :: es) t) (hc : X.calm = true := by rfl) (hg : Gl X "any" := by rfl) (he : starEach (e :: es) X.env = (false, eval e X.env) :: starEach es X.env := by rfl) (hpl : (backTo pos (starEach es X.env)).any (·.1) = false := by rfl) :
    PE X (.Call (.Name "any" p) (e :: es) [] pos) (tCB (rAny X.K) t) := pe_callB (cr_any hc) hg b.any PyProof.Rows.boot_any ha (by decide) (by decide) he hpl
theorem pb_all (ha : PA X (e :: es) t) (hc : X.calm = true := by rfl) (hg : Gl X "all" := by rfl) (he : starEach (e :: es) X.env = (false, eval e X.env) :: starEach es X.env := by rfl) (hpl : (backTo pos (starEach es X.env)).any (·.1) = false := by rfl) :
    PE X (.Call (.Name "all" p) (e :: es) [] pos) (tCB (rAll X.K) t) := pe_callB (cr_all hc) hg b.all PyProof.Rows.boot_all ha (by decide) (by decide) he hpl
theorem pb_int (ha : PA X (e :: es) t) (hg : Gl X "int" := by rfl) (he : starEach (e :: es) X.env = (false, eval e X.env) :: starEach es X.env := by rfl) (hpl : (backTo pos (starEach es X.env)).any (·.1) = false := by rfl) :
    PE X (.Call (.Name "int" p) (e :: es) [] pos) (tCB rIn1 t) := pe_callTy cl_int hg b.int PyProof.Rows.boot_int ha (by decide) (by decide) he hpl
theorem pb_tuple (ha : PA X (e :: es) t) (hg : Gl X "tuple" := by rfl) (he : starEach (e :: es) X.env = (false, eval e X.env) :: starEach es X.env := by rfl) (hpl : (backTo pos (starEach es X.env)).any (·.1) = false := by rfl) :
    PE X (.Call (.Name "tuple" p) (e :: es) [] pos) (tCB (rTu X.K) t) := pe_callTy cl_tuple hg b.tuple PyProof.Rows.boot_tuple ha (by decide) (by decide) he hpl
theorem pb_list (ha : PA X (e :: es) t) (hg : Gl X "list" := by rfl) (he : starEach (e :: es) X.env = (false, eval e X.env) :: starEach es X.env := by rfl) (hpl : (backTo pos (starEach es X.env)).any (·.1) = false := by rfl) :
    PE X (.Call (.Name "list" p) (e :: es) [] pos) (tCB (rLi X.K) t) := pe_callTy cl_list hg b.list PyProof.Rows.boot_list ha (by decide) (by decide) he hpl
theorem pb_isi (ha : PA X (e :: es) t) (hg : Gl X "isinstance" := by rfl) (he : starEach (e :: es) X.env = (false, eval e X.env) :: starEach es X.env := by rfl) (hpl : (backTo pos (starEach es X.env)).any (·.1) = false := by rfl) :
    PE X (.Call (.Name "isinstance" p) (e :: es) [] pos) (tCB (rIsi X.K) t) := pe_callB call_isi hg b.isinstance PyProof.Rows.boot_isinstance ha (by decide) (by decide) he hpl
theorem pg_tuple (hg : Gl X "tuple" := by rfl) : PE X (.Name "tuple" pos) (tC (.ty "tuple")) := pe_bltn (v := .ty "tuple") hg b.tuple PyProof.Rows.boot_tuple rfl
theorem pg_int (hg : Gl X "int" := by rfl) : PE X (.Name "int" pos) (tC (.ty "int")) := pe_bltn (v := .ty "int") hg b.int PyProof.Rows.boot_int rfl
theorem pg_bool (hg : Gl X "bool" := by rfl) : PE X (.Name "bool" pos) (tC (.ty "bool")) := pe_bltn (v := .ty "bool") hg b.bool PyProof.Rows.boot_bool rfl
theorem pg_str (hg : Gl X "str" := by rfl) : PE X (.Name "str" pos) (tC (.ty "str")) := pe_bltn (v := .ty "str") hg b.str PyProof.Rows.boot_str rfl
end
/-! ### isinstance -/
def tyM (n : String) : Mono := ⟨fun _ v => v = .ty n, fun _ h => h⟩
def tyName : PyData → String
  | .none => "NoneType"
  | .bool _ => "bool"
  | .int _ => "int"
  | .str _ => "str"
  | .list _ => "list"
  | .tuple _ => "tuple"
  | .dict _ => "dict"
theorem rp_ty {K : PySem.W.Frag} {H0 H : Hp} (e : Same H0 H) {v : V} {d : PyData} (r : Rp H0 v d) : TyX K H v (.type (tyName d)) := by
  cases r with
  | non => exact .base .non
  | bl b => exact .base (.bl b)
  | int i => exact .base (.int i)
  | str x => exact .base (.str x)
  | lst h _ => exact .base (.lst (e _ _ h))
  | tup h _ => exact .base (.tup (e _ _ h))
section
variable {Γ : En} {Ω : Om} {te ta tb tc tl td : TE} {tt tu : TT} {t u : TS} {Φ : Po} {g : TG} {gs : TGs}
theorem ev_ty {n : String} : EvD (tC (.ty n)) Γ Ω (.ab (tyM n)) := fun Q q σ H0 H R s g k => k _ _ Ω H0 H q g (.refl _ _ _) rfl
theorem ev_isi {K : PySem.W.Frag} {n : String} {d : PyData} {b : Bool} (ha : EvD ta Γ Ω (.py d)) (hk : kitB (tyName d) n = some b) : EvD (tCB (rIsi K) (tCons ta (tCons (tC (.ty n)) tNil))) Γ Ω (B b) := cb_d (ar_cons ha (ar_cons ev_ty ar_nil)) fun vs H0 H R g r k => by
  obtain ⟨v, u, rfl, r1, r2⟩ := rq2 r
  cases (show u = .ty n from r2)
  exact ⟨v, .ty n, _, _, b, rfl, .ty n, rp_ty g.ex r1, kit_ty hk, k _ H0 H g (.refl _ _ _) (.bl _)⟩
/-! ### unary minus, one sign in a text, a sign of a text -/
theorem ev_neg {i : Int} (ha : EvD ta Γ Ω (I i)) : EvD (tUn (rU fun i => .int (-i)) ta) Γ Ω (I (-i)) := fun Q q σ H0 H R s g k =>
  ha.bind s g fun v H01 H1 s1 g1 c1 r1 => by
    cases r1
    exact ⟨i, rfl, k _ _ Ω H01 H1 q g1 c1 (.int _)⟩
theorem ev_ixS {z : Str} {i : Int} {c : Nat} (ha : EvD ta Γ Ω (S z)) (hb : EvD tb Γ Ω (I i)) (hz : z.length ≤ 1000) (h : atI z.cps.toList i = some c) : EvD (tOp rIxS ta tb) Γ Ω (S ⟨#[c]⟩) :=
  op_d ha hb fun v u H0 H R g rv ru k => by
    cases rv; cases ru
    exact ⟨z, i, c, rfl, rfl, Nat.le_trans hz (by decide), h, k _ H0 H g (.refl _ _ _) (.str _)⟩
def rInS : R2 := fun x y H Q => ∃ (c : Nat) (z : Str), x = .str ⟨#[c]⟩ ∧ y = .str z ∧ Q (.bl (decide (c ∈ z.cps.toList))) H
theorem op_inS {X : Cx} : OpR X (compareOp .In) rInS := op_in_sign
theorem ev_inS {c : Nat} {z : Str} (ha : EvD ta Γ Ω (S ⟨#[c]⟩)) (hb : EvD tb Γ Ω (S z)) : EvD (tOp rInS ta tb) Γ Ω (B (decide (c ∈ z.cps.toList))) :=
  op_d ha hb fun v u H0 H R g rv ru k => by
    cases rv; cases ru
    exact ⟨c, z, rfl, rfl, k _ H0 H g (.refl _ _ _) (.bl _)⟩
/-! ### frozen dicts with int keys, with keys of two ints -/
def dictM (kvs : List (Int × D)) : Mono where
  P H v := ∃ (p : Addr) (ws : List (Key × V)), v = .ref p ∧ H p = some (.dK ws) ∧ ws.map (·.1) = kvs.map (fun q => (Sum.inl q.1 : Key)) ∧ RqL H (ws.map (·.2)) (kvs.map (·.2))
  mono := by
    rintro H H' v e ⟨p, ws, h1, h2, h3, h4⟩
    exact ⟨p, ws, h1, e _ _ h2, h3, RqL.mono e h4⟩
def pairK (q : Int × Int) : List Key := [Sum.inl q.1, Sum.inl q.2]
def dictT (kvs : List ((Int × Int) × D)) : Mono where
  P H v := ∃ (p : Addr) (ws : List (List Key × V)), v = .ref p ∧ H p = some (.dT ws) ∧ ws.map (·.1) = kvs.map (fun q => pairK q.1) ∧ RqL H (ws.map (·.2)) (kvs.map (·.2))
  mono := by
    rintro H H' v e ⟨p, ws, h1, h2, h3, h4⟩
    exact ⟨p, ws, h1, e _ _ h2, h3, RqL.mono e h4⟩
theorem valV_look {κ α : Type} [DecidableEq κ] [BEq α] [LawfulBEq α] {H : Hp} {f : α → κ} (hf : ∀ a b, f a = f b → a = b) : ∀ {ws : List (κ × V)} {kvs : List (α × D)}, ws.map (·.1) = kvs.map (fun q => f q.1) → RqL H (ws.map (·.2)) (kvs.map (·.2)) →
    ∀ k : α, (kvs.lookup k = none → valV ws (f k) = none) ∧ ∀ d, kvs.lookup k = some d → ∃ v, valV ws (f k) = some v ∧ Rq H v d
  | [], [], _, _, k => ⟨fun _ => valV_nil, fun d h => by cases h⟩
  | [], _ :: _, h, _, _ => by simp at h
  | _ :: _, [], h, _, _ => by simp at h
  | (a, v) :: ws, (i, d) :: kvs, h, r, k => by
    simp only [List.map_cons, List.cons.injEq] at h r
    obtain ⟨rfl, h⟩ := h
    cases r with
    | cons r1 r2 =>
      obtain ⟨i1, i2⟩ := valV_look hf h r2 k
      by_cases e : k = i
      · subst e
        refine ⟨fun q => ?_, fun d' q => ?_⟩
        · simp [List.lookup] at q
        · simp [List.lookup] at q
          subst q
          exact ⟨v, valV_pos rfl, r1⟩
      · have e' : (k == i) = false := by simpa using e
        have e2 : ¬ f i = f k := fun q => e (hf _ _ q).symm
        refine ⟨fun q => ?_, fun d' q => ?_⟩
        · simp only [List.lookup, e'] at q
          rw [valV_neg e2]; exact i1 q
        · simp only [List.lookup, e'] at q
          obtain ⟨x, h1, h2⟩ := i2 d' q
          exact ⟨x, by rw [valV_neg e2]; exact h1, h2⟩
theorem inl_inj : ∀ a b : Int, (Sum.inl a : Key) = Sum.inl b → a = b := fun a b h => Sum.inl.inj h
theorem pairK_inj : ∀ a b : Int × Int, pairK a = pairK b → a = b := fun a b h => by
  simp only [pairK, List.cons.injEq, and_true] at h
  exact Prod.ext (Sum.inl.inj h.1) (Sum.inl.inj h.2)
theorem ev_dget {kvs : List (Int × D)} {i : Int} {d : D} (ha : EvD ta Γ Ω (.ab (dictM kvs))) (hb : EvD tb Γ Ω (I i)) (h : kvs.lookup i = some d) : EvD (tDGet ta tb) Γ Ω d := fun Q q σ H0 H R s g k =>
  ha.bind s g fun v H01 H1 s1 g1 c1 r1 => hb.bind s1 g1 fun u H02 H2 s2 g2 c2 r2 => by
    cases r2
    obtain ⟨p, ws, rfl, h2, h3, h4⟩ := (dictM kvs).mono c2.ex r1
    obtain ⟨x, e1, e2⟩ := (valV_look inl_inj h3 h4 i).2 d h
    refine ⟨p, x, rfl, .inl ⟨ws, .inl i, .inl (g2.ex _ _ h2), rfl, e1.symm⟩, k x d Ω H02 H2 q g2 (c1.trans c2 g1.ex) e2⟩
theorem ev_din {kvs : List (Int × D)} {i : Int} (hb : EvD tb Γ Ω (I i)) (ha : EvD ta Γ Ω (.ab (dictM kvs))) : EvD (tDIn tb ta) Γ Ω (B (kvs.lookup i).isSome) := fun Q q σ H0 H R s g k =>
  hb.bind s g fun v H01 H1 s1 g1 c1 r1 => ha.bind s1 g1 fun u H02 H2 s2 g2 c2 r2 => by
    cases r1
    obtain ⟨p, ws, rfl, h2, h3, h4⟩ := r2
    refine ⟨p, valV ws (Sum.inl i), rfl, .inl ⟨ws, .inl i, .inl (g2.ex _ _ h2), rfl, rfl⟩, k _ _ Ω H02 H2 q g2 (c1.trans c2 g1.ex) ?_⟩
    have e : (valV ws (Sum.inl i)).isSome = (kvs.lookup i).isSome := by
      cases hl : kvs.lookup i with
      | none => rw [(valV_look inl_inj h3 h4 i).1 hl]; rfl
      | some d =>
        obtain ⟨x, e1, _⟩ := (valV_look inl_inj h3 h4 i).2 d hl
        rw [e1]; rfl
    rw [e]
    exact .bl _
theorem rp_pair {H : Hp} {v : V} {i j : Int} (r : Rp H v (.tuple [.int i, .int j])) : ∃ p, v = .ref p ∧ H p = some (.tup [.int i, .int j]) := by
  cases r with
  | tup h r =>
    cases r with
    | cons a r =>
      cases r with
      | cons b r => cases r; cases a; cases b; exact ⟨_, rfl, h⟩
theorem ev_dgetT {kvs : List ((Int × Int) × D)} {i j : Int} {d : D} (ha : EvD ta Γ Ω (.ab (dictT kvs))) (hb : EvD tb Γ Ω (.py (.tuple [.int i, .int j]))) (h : kvs.lookup (i, j) = some d) : EvD (tDGet ta tb) Γ Ω d := fun Q q σ H0 H R s g k =>
  ha.bind s g fun v H01 H1 s1 g1 c1 r1 => hb.bind s1 g1 fun u H02 H2 s2 g2 c2 r2 => by
    obtain ⟨b, rfl, hb'⟩ := rp_pair r2
    obtain ⟨p, ws, rfl, h2, h3, h4⟩ := (dictT kvs).mono c2.ex r1
    obtain ⟨x, e1, e2⟩ := (valV_look pairK_inj h3 h4 (i, j)).2 d h
    exact ⟨p, x, rfl, .inr ⟨ws, pairK (i, j), b, .inl (g2.ex _ _ h2), rfl, g2.ex _ _ hb', e1.symm⟩, k x d Ω H02 H2 q g2 (c1.trans c2 g1.ex) e2⟩
/-! ### instances, their fields, their methods -/
def objM (C : Addr) (fs : List (Str × D)) : Mono where
  P H v := ∃ p dx ws, v = .ref p ∧ H p = some (.ins C dx ws) ∧ ∀ f, match fs.lookup f with
    | some d => ∃ x, ws.lookup f = some x ∧ Rq H x d
    | none => ws.lookup f = none
  mono := fun {H H' v} e ⟨p, dx, ws, h1, h2, h3⟩ => ⟨p, dx, ws, h1, e _ _ h2, fun f => by
    have h := h3 f
    cases hl : fs.lookup f with
    | none => rw [hl] at h; exact h
    | some d =>
      rw [hl] at h
      obtain ⟨x, h1, h2⟩ := h
      exact ⟨x, h1, h2.mono e⟩⟩
theorem ev_fld {K : PySem.W.Frag} {C : Addr} {fs : List (Str × D)} {f : Str} {d : D} (c : Cls K C) (n : NoAttr K C f) (ha : EvD ta Γ Ω (.ab (objM C fs))) (h : fs.lookup f = some d) : EvD (tFld K ta f) Γ Ω d := fun Q q σ H0 H R s g k =>
  ha.bind s g fun v H01 H1 s1 g1 c1 r1 => by
    obtain ⟨p, dx, ws, rfl, h2, h3⟩ := r1
    have h4 := h3 f
    rw [h] at h4
    obtain ⟨x, e1, e2⟩ := h4
    exact ⟨p, C, dx, ws, x, rfl, g1.ex _ _ h2, c, n, e1, k x d Ω H01 H1 q g1 c1 e2⟩
/-- a method that touches nothing of its caller's -/
theorem ev_mt {C : Addr} {m : Str} {c : Cp} {t : TA} {fs : List (Str × D)} {ds : List D} {d : D} (ha : EvD ta Γ Ω (.ab (objM C fs))) (hm : fs.lookup m = none) (ht : ArD t Γ Ω ds) (hc : ∀ Ψ : D → Prop, Ψ d → c (.ab (objM C fs) :: ds) Ψ) :
    EvD (tMeth C m (spP c) [] E0 ta t) Γ Ω d := fun Q q σ H0 H R s g k =>
  ha.bind s g fun v H01 H1 s1 g1 c1 r1 => by
    obtain ⟨p, dx, ws, rfl, h2, h3⟩ := id r1
    have h4 := h3 m
    rw [hm] at h4
    refine ⟨p, dx, ws, rfl, g1.ex _ _ h2, h4, ht.bind s1 g1 fun vs H02 H2 s2 g2 c2 r2 => ?_⟩
    refine ⟨H02, _, [], fun x Ω' => x = d ∧ Ω' = [], g2.nil, by rw [List.append_nil]; exact .cons ((objM C fs).mono c2.ex r1) r2, ⟨rfl, hc _ ⟨rfl, rfl⟩⟩, fun v x Ω' H0' H' q1 g' c' r => ?_⟩
    obtain ⟨rfl, rfl⟩ := q1
    obtain ⟨a, b⟩ := G.frame (Ω := []) (Ωr := Ω) g2 g' c'
    exact k v x _ H0' H' q a ((c1.trans c2 g1.ex).trans b g2.ex) r
end
structure Mt (P : Program) (w : World) (K : PySem.W.Frag) (mg : Str → Option Value) (base : Heap) (C : Addr) (m : Str) (k : Nat) (ps : List Str) (sp : Sp) : Prop where
  ex : ∃ (f : Addr) (fd : FuncData), Meth K C m f ∧ Binds K fd ps [] ∧ FnOk P w K mg base CX0 k f fd ps sp
section
variable {X : Cx} {C : Addr} {m : Str} {k j : Nat} {ps : List Str} {sp : Sp} {o e : Expr} {es : List Expr} {ta : TE} {t : TA} {apos pos : Pos}
theorem pe_mt (c : Cls X.K C) (F : Mt X.prog X.w X.K X.mg X.base C m k ps sp) (hr : Room j X.A) (hk : k ≤ j) (ho : PE X o ta) (ha : PA X (e :: es) t) {pl : Sem Bool} (hst : starEach (e :: es) X.env = (false, eval e X.env) :: starEach es X.env := by rfl) (hpl : (backTo pos (starEach es X.env)).any (·.1) = false := by rfl)
    (ht : eval (.Call (.Attribute o m apos) (e :: es) [] pos) X.env = (do
      let ov ← eval o X.env
      standAt apos.atName
      let (f, first) ← holding [ov] (getMethod ov m pl)
      callWith pos f first (backTo pos (starEach (e :: es) X.env)) (backToKw pos (keywordEach [] X.env))) := by rfl) : PE X (.Call (.Attribute o m apos) (e :: es) [] pos) (tMeth C m sp [] E0 ta t) := by
  obtain ⟨f, fd, h1, h2, h3⟩ := F.ex
  exact pe_meth ho c h1 h3 (hr.mono hk) h2 .nil pass0 ha hst hpl ht
theorem pe_mt0 (c : Cls X.K C) (F : Mt X.prog X.w X.K X.mg X.base C m k ps sp) (hr : Room j X.A) (hk : k ≤ j) (ho : PE X o ta) {pl : Sem Bool}
    (ht : eval (.Call (.Attribute o m apos) [] [] pos) X.env = (do
      let ov ← eval o X.env
      standAt apos.atName
      let (f, first) ← holding [ov] (getMethod ov m pl)
      callWith pos f first (backTo pos (starEach [] X.env)) (backToKw pos (keywordEach [] X.env))) := by rfl) : PE X (.Call (.Attribute o m apos) [] [] pos) (tMeth C m sp [] E0 ta tNil) := by
  obtain ⟨f, fd, h1, h2, h3⟩ := F.ex
  exact pe_meth0 ho c h1 h3 (hr.mono hk) h2 .nil pass0 ht
end
end G
end

section
set_option Elab.async false
set_option linter.all false
set_option maxRecDepth 100000
set_option maxHeartbeats 2000000
namespace G
open PySem L2
open PyProof.Rows (envOfC)
section
variable {Γ : En} {Ω : Om} {te ta tb tc tl td tv ty : TE} {tt tu : TT} {t u : TS} {Φ : Po} {g : TG} {gs : TGs}
theorem valV_none {κ : Type} [DecidableEq κ] {k : κ} : ∀ {ws : List (κ × V)}, k ∉ ws.map (·.1) → valV ws k = none
  | [], _ => valV_nil
  | p :: ws, h => by
    simp only [List.map_cons, List.mem_cons, not_or] at h
    rw [valV_neg (fun e => h.1 e.symm)]
    exact valV_none h.2
/-- d[k] = v in one's own dict, the key new -/
theorem sw_dputK {j : Nat} {p : Addr} {i : Int} {d : D} {kvs : List (Key × D)} (hv : EvD tv Γ Ω d) (ho : EvD td Γ Ω (.loc p)) (hi : EvD ty Γ Ω (I i)) (hj : Ω[j]? = some (p, .dk kvs)) (new : (Sum.inl i : Key) ∉ kvs.map (·.1)) (hz : kvs.length < 100000)
    (q : Φ.nx Γ (Ω.set j (p, .dk (kvs ++ [(.inl i, d)])))) : SW (sDPut td ty tv) Γ Ω Φ := fun σ H0 H W s g r =>
  hv.bind s g fun v H01 H1 s1 g1 c1 r1 => ho.bind s1 g1 fun x H02 H2 s2 g2 c2 r2 => hi.bind s2 g2 fun y H03 H3 s3 g3 c3 r3 => by
    cases (show x = .ref p from r2)
    cases r3
    obtain ⟨_, o, hp, ws, rfl, hk, rv⟩ := g3.get hj
    have hn : valV ws (Sum.inl i) = none := valV_none (by rw [hk]; exact new)
    have hl : ws.length = kvs.length := by simpa using congrArg List.length hk
    obtain ⟨g4, c4⟩ := g3.put hj (o := .dK (ws ++ [(.inl i, v)])) (w' := .dk (kvs ++ [(.inl i, d)])) ⟨_, rfl, by simp [hk], by rw [List.map_append, List.map_append]; exact Paired.snoc rv (r1.mono (c2.ex.trans c3.ex))⟩
    refine ⟨p, upd H3 p (.dK (ws ++ [(.inl i, v)])), rfl, ?_, r.nx σ Γ _ H03 _ q s3 g4 (((c1.trans c2 g1.ex).trans c3 g2.ex).trans c4 g3.ex)⟩
    have hput := DPut.k (k := .inl i) (v := v) hp (by rw [hl]; exact Nat.lt_of_lt_of_le hz (by decide))
    rw [putK_new v hn] at hput
    exact hput
theorem sw_dputT {j : Nat} {p : Addr} {a b : Int} {d : D} {kvs : List (List Key × D)} (hv : EvD tv Γ Ω d) (ho : EvD td Γ Ω (.loc p)) (hi : EvD ty Γ Ω (.py (.tuple [.int a, .int b]))) (hj : Ω[j]? = some (p, .dt kvs)) (new : pairK (a, b) ∉ kvs.map (·.1)) (hz : kvs.length < 100000)
    (q : Φ.nx Γ (Ω.set j (p, .dt (kvs ++ [(pairK (a, b), d)])))) : SW (sDPut td ty tv) Γ Ω Φ := fun σ H0 H W s g r =>
  hv.bind s g fun v H01 H1 s1 g1 c1 r1 => ho.bind s1 g1 fun x H02 H2 s2 g2 c2 r2 => hi.bind s2 g2 fun y H03 H3 s3 g3 c3 r3 => by
    cases (show x = .ref p from r2)
    obtain ⟨b', rfl, hb⟩ := rp_pair r3
    obtain ⟨_, o, hp, ws, rfl, hk, rv⟩ := g3.get hj
    have hn : valV ws (pairK (a, b)) = none := valV_none (by rw [hk]; exact new)
    have hl : ws.length = kvs.length := by simpa using congrArg List.length hk
    obtain ⟨g4, c4⟩ := g3.put hj (o := .dT (ws ++ [(pairK (a, b), v)])) (w' := .dt (kvs ++ [(pairK (a, b), d)])) ⟨_, rfl, by simp [hk], by rw [List.map_append, List.map_append]; exact Paired.snoc rv (r1.mono (c2.ex.trans c3.ex))⟩
    refine ⟨p, upd H3 p (.dT (ws ++ [(pairK (a, b), v)])), rfl, ?_, r.nx σ Γ _ H03 _ q s3 g4 (((c1.trans c2 g1.ex).trans c3 g2.ex).trans c4 g3.ex)⟩
    have hput := DPut.t (k := pairK (a, b)) (v := v) hp (g3.ex _ _ hb) (by rw [hl]; exact Nat.lt_of_lt_of_le hz (by decide))
    rw [putK_new v hn] at hput
    exact hput
def hasT (kvs : List (List Key × D)) (k : List Key) : Bool := kvs.any fun q => decide (q.1 = k)
theorem hasT_eq {k : List Key} : ∀ {ws : List (List Key × V)} {kvs : List (List Key × D)}, ws.map (·.1) = kvs.map (·.1) → (ws.any fun q => decide (q.1 = k)) = hasT kvs k
  | [], [], _ => rfl
  | [], _ :: _, h => by simp at h
  | _ :: _, [], h => by simp at h
  | a :: ws, b :: kvs, h => by
    simp only [List.map_cons, List.cons.injEq] at h
    unfold hasT
    rw [List.any_cons, List.any_cons, h.1]
    exact congrArg _ (hasT_eq h.2)
theorem hasT_iff {k : List Key} {kvs : List (List Key × D)} : hasT kvs k = true ↔ k ∈ kvs.map (·.1) := by
  unfold hasT
  rw [List.any_eq_true]
  constructor
  · rintro ⟨q, h1, h2⟩
    exact List.mem_map.mpr ⟨q, h1, of_decide_eq_true h2⟩
  · intro h
    obtain ⟨q, h1, h2⟩ := List.mem_map.mp h
    exact ⟨q, h1, decide_eq_true h2⟩
/-- is a key in one's own dict of pairs -/
theorem ev_dinT {j : Nat} {p : Addr} {a b : Int} {kvs : List (List Key × D)} (hi : EvD ty Γ Ω (.py (.tuple [.int a, .int b]))) (ho : EvD td Γ Ω (.loc p)) (hj : Ω[j]? = some (p, .dt kvs)) : EvD (tDIn ty td) Γ Ω (B (hasT kvs (pairK (a, b)))) := fun Q q σ H0 H R s g k =>
  hi.bind s g fun y H01 H1 s1 g1 c1 r1 => ho.bind s1 g1 fun x H02 H2 s2 g2 c2 r2 => by
    cases (show x = .ref p from r2)
    obtain ⟨b', rfl, hb⟩ := rp_pair (r1.mono c2.ex)
    obtain ⟨_, o, hp, ws, rfl, hk, rv⟩ := g2.get hj
    refine ⟨p, valV ws (pairK (a, b)), rfl, DGet.t hp (g2.ex _ _ hb), k _ _ Ω H02 H2 q g2 (c1.trans c2 g1.ex) ?_⟩
    have e : (valV ws (pairK (a, b))).isSome = hasT kvs (pairK (a, b)) := by
      rw [← valV_any]
      exact hasT_eq hk
    rw [e]
    exact .bl _
theorem ev_dntT {j : Nat} {p : Addr} {a b : Int} {kvs : List (List Key × D)} (hi : EvD ty Γ Ω (.py (.tuple [.int a, .int b]))) (ho : EvD td Γ Ω (.loc p)) (hj : Ω[j]? = some (p, .dt kvs)) : EvD (tDNotIn ty td) Γ Ω (B (!hasT kvs (pairK (a, b)))) := fun Q q σ H0 H R s g k =>
  hi.bind s g fun y H01 H1 s1 g1 c1 r1 => ho.bind s1 g1 fun x H02 H2 s2 g2 c2 r2 => by
    cases (show x = .ref p from r2)
    obtain ⟨b', rfl, hb⟩ := rp_pair (r1.mono c2.ex)
    obtain ⟨_, o, hp, ws, rfl, hk, rv⟩ := g2.get hj
    refine ⟨p, valV ws (pairK (a, b)), rfl, DGet.t hp (g2.ex _ _ hb), k _ _ Ω H02 H2 q g2 (c1.trans c2 g1.ex) ?_⟩
    have e : (valV ws (pairK (a, b))).isSome = hasT kvs (pairK (a, b)) := by
      rw [← valV_any]
      exact hasT_eq hk
    rw [e]
    exact .bl _
/-- one's own object becomes frozen, whatever it is -/
theorem sw_frzG {j i : Nat} {p : Addr} {w : Own} (M : Mono) (hi : Γ[i]? = some (some (.loc p))) (hj : Ω[j]? = some (p, w)) (hM : ∀ H0 H o, OwnOk H0 o w → Same H0 H → H p = some o → M.P H (.ref p)) (q : SW t (Γ.set i (some (.ab M))) (Ω.eraseIdx j) Φ) : SW t Γ Ω Φ := fun σ H0 H W s g r => by
  obtain ⟨_, o, hp, ok⟩ := g.get hj
  obtain ⟨g1, c1⟩ := g.freeze hj hp
  have rp := hM H0 _ o ok c1.ex upd_same
  have s1 := s.mono c1.ex
  refine q σ _ H W ⟨by rw [List.length_set]; exact s.len, fun k d h => ?_⟩ g1 (r.step c1 g1.ex)
  rw [List.getElem?_set] at h
  split at h
  · rename_i e
    subst e
    split at h
    · cases h
      obtain ⟨v, e1, e2⟩ := s1.at_ i _ hi
      cases (show v = .ref p from e2)
      exact ⟨_, e1, rp⟩
    · cases h
  · exact s1.at_ k d h
theorem sw_frzK {j i : Nat} {p : Addr} {kvs : List (Int × D)} (hi : Γ[i]? = some (some (.loc p))) (hj : Ω[j]? = some (p, .dk (kvs.map fun q => (.inl q.1, q.2)))) (q : SW t (Γ.set i (some (.ab (dictM kvs)))) (Ω.eraseIdx j) Φ) : SW t Γ Ω Φ :=
  sw_frzG (dictM kvs) hi hj (by
    rintro H0 H o ⟨ws, rfl, h2, h3⟩ e hp
    rw [List.map_map] at h2 h3
    exact ⟨p, ws, rfl, hp, h2, RqL.mono e h3⟩) q
theorem sw_frzT {j i : Nat} {p : Addr} {kvs : List ((Int × Int) × D)} (hi : Γ[i]? = some (some (.loc p))) (hj : Ω[j]? = some (p, .dt (kvs.map fun q => (pairK q.1, q.2)))) (q : SW t (Γ.set i (some (.ab (dictT kvs)))) (Ω.eraseIdx j) Φ) : SW t Γ Ω Φ :=
  sw_frzG (dictT kvs) hi hj (by
    rintro H0 H o ⟨ws, rfl, h2, h3⟩ e hp
    rw [List.map_map] at h2 h3
    exact ⟨p, ws, rfl, hp, h2, RqL.mono e h3⟩) q
/-- while -/
theorem sw_while (J : Nat → En → Om → Prop) (m : Nat) (h0 : J m Γ Ω) (hs : ∀ m Γ' Ω', J m Γ' Ω' → TsW tt Γ' Ω' fun b Ω1 => if b = true then SW t Γ' Ω1 { Φ with nx := fun Γ2 Ω2 => ∃ m', m' < m ∧ J m' Γ2 Ω2, ct := fun Γ2 Ω2 => ∃ m', m' < m ∧ J m' Γ2 Ω2, bk := Φ.nx } else Φ.nx Γ' Ω1) : SW (tWhile tt t) Γ Ω Φ := fun σ H0 H W s g r => by
  refine ⟨fun m σ' H' => ∃ Γ' Ω' H0', J m Γ' Ω' ∧ Sl Γ' σ' H0' ∧ Hs Ω' H0' H' ∧ Step Ω Ω' H0 H H0' H', ⟨m, Γ, Ω, H0, h0, s, g, .refl _ _ _⟩, ?_⟩
  rintro m σ' H' ⟨Γ', Ω', H0', j, s', g', c'⟩
  refine hs m Γ' Ω' j σ' H0' H' _ s' g' fun b Ω1 H01 H1 q1 g1 c1 => ?_
  have c2 := c'.trans c1 g'.ex
  cases b with
  | false => exact r.nx σ' Γ' Ω1 H01 H1 q1 (s'.mono c1.ex) g1 c2
  | true =>
    refine ⟨fun σ3 H3 => ∃ m', m' < m ∧ ∃ Γ3 Ω3 H03, J m' Γ3 Ω3 ∧ Sl Γ3 σ3 H03 ∧ Hs Ω3 H03 H3 ∧ Step Ω Ω3 H0 H H03 H3, fun σ3 H3 ⟨m', hm, z⟩ => ⟨m', hm, z⟩, ?_⟩
    refine q1 σ' H01 H1 _ (s'.mono c1.ex) g1 ⟨?_, fun v d Ω3 H03 H3 q3 r3 g3 c4 => r.rt v d Ω3 H03 H3 q3 r3 g3 (c2.trans c4 g1.ex),
      fun σ3 Γ3 Ω3 H03 H3 q3 s3 g3 c4 => r.nx σ3 Γ3 Ω3 H03 H3 q3 s3 g3 (c2.trans c4 g1.ex), ?_⟩
    · rintro σ3 Γ3 Ω3 H03 H3 ⟨m', hm, q3⟩ s3 g3 c4
      exact ⟨m', hm, Γ3, Ω3, H03, q3, s3, g3, c2.trans c4 g1.ex⟩
    · rintro σ3 Γ3 Ω3 H03 H3 ⟨m', hm, q3⟩ s3 g3 c4
      exact ⟨m', hm, Γ3, Ω3, H03, q3, s3, g3, c2.trans c4 g1.ex⟩
/-- a loop that only looks: pure turns in a fixed place -/
theorem TsD.w {b : Bool} {Q : Bool → Om → Prop} (h : TsD tt Γ Ω b) (q : Q b Ω) : TsW tt Γ Ω Q := h Q q
end
end G
end

section
set_option Elab.async false
set_option linter.all false
set_option maxRecDepth 100000
set_option maxHeartbeats 2000000
/-! min over a list whose items stand in the heap: the library's walk of min, the comparison asked only where the old objects stand; the keywords carried along -/
namespace G
open PySem
section
variable {prog : Program} {w : World} {A : Around} {R : Result → Shared → Prop} {I : Addr} {fp wr : List Addr} {n : Nat} {P : Nat → Value → Prop} {St : Nat → Heap → Prop} {h0 : Heap} {S : Addr}
def Old (h0 : Heap) (wr : List Addr) (S : Addr) (h : Heap) : Prop := ∀ b o, b ∉ wr → b ≠ S → h0.get? b = some o → h.get? b = some o
def CmpAt (prog : Program) (w : World) (A : Around) (h0 : Heap) (wr : List Addr) (S : Addr) (P : Nat → Value → Prop) (bt : Nat → Nat → Bool) : Prop :=
  ∀ i j vi vj (s : Shared) (Q : Value → Shared → Prop) (E : Value → Shared → Prop), Old h0 wr S s.heap → P i vi → P j vj → Q (.bool (bt i j)) s → wpAny (model prog w) A (richCompare .Lt vi vj) Q E s
theorem min_word : (toString "min" ++ toString ".loop" : String) = "min.loop" := by decide
/-- min's loop behind its first item -/
theorem min_more (W : Walks prog w A.in1 I fp wr n P St) (bt : Nat → Nat → Bool) (hc : CmpAt prog w A.in1 h0 wr S P bt) (hSf : S ∉ fp) (kw : List (Str × Value)) :
    ∀ (k j : Nat) (s : Shared) (vb : Value) (c : Nat), n - (j + 1) = k → j + 1 ≤ n → Old h0 wr S s.heap → St (j + 1) s.heap → P (argBest bt j) vb →
      s.heap.get? S = some { cls := .type "list", dict := none, data := .seq #[vb, vb] c, slots := #[] } →
      (∀ v h' tk, P (argBest bt (n - 1)) v → Old h0 wr S h' → R (.ok (.ret v)) { s with heap := h', toks := tk }) →
      codeAny (model prog w) A (.builtin "min.loop" ⟨[.ref I, .none, .ref S], kw⟩) R s := by
  have hSw : S ∉ wr := fun h => hSf (W.sub _ h)
  intro k
  induction k with
  | zero =>
    intro j s vb c hk hj old hst hPb hS hR
    have hin : j + 1 = n := by omega
    refine codeAny_builtin F.entry_min_loop ?_
    rw [Around.under_plainId F.plain_min_loop _]
    show wpAny _ A.in1 (seqItems? (.ref S) >>= _) _ _ s
    refine wpAny_bind (wpAny_seqItems hS rfl ?_)
    show wpAny _ A.in1 (tryCatch (pyNext (.ref I)) _ >>= _) _ _ s
    refine wpAny_bind (wpAny_tryCatch (W.done s _ _ (hin ▸ hst) fun h' tk keep => ?_))
    have there := keep S _ hSw hS
    show wpAny _ A.in1 (updateSeq S (fun _ => #[]) >>= _) _ _ _
    refine wpAny_bind (wpAny_updateSeq there rfl (wpAny_bind (wpAny_letGo (wpAny_pure ?_))))
    exact hR vb _ tk (by rw [← hin]; exact hPb) fun b o hbw hbS e => (Heap.get?_update_other _ _ (Ne.symm hbS)).trans (keep b o hbw (old b o hbw hbS e))
  | succ k ih =>
    intro j s vb c hk hj old hst hPb hS hR
    have hlt : j + 1 < n := by omega
    refine codeAny_builtin F.entry_min_loop ?_
    rw [Around.under_plainId F.plain_min_loop _]
    show wpAny _ A.in1 (seqItems? (.ref S) >>= _) _ _ s
    refine wpAny_bind (wpAny_seqItems hS rfl ?_)
    show wpAny _ A.in1 (tryCatch (pyNext (.ref I)) _ >>= _) _ _ s
    refine wpAny_bind (wpAny_tryCatch (W.item (j + 1) s _ _ hlt hst fun v h' tk hP hst' keep => ?_))
    have there := keep S _ hSw hS
    have old' : Old h0 wr S h' := fun b o hbw hbS e => keep b o hbw (old b o hbw hbS e)
    show wpAny _ A.in1 (tryCatch (holding [v, v] (richCompare .Lt v vb >>= _)) _ >>= _) _ _ _
    refine wpAny_bind (wpAny_tryCatch (wpAny_holding (wpAny_bind (hc (j + 1) (argBest bt j) v vb _ _ _ old' hP hPb ?_))))
    refine wpAny_bind (wpAny_holding (wpAny_truthy_bool ?_))
    refine wpAny_bind (wpAny_letGo (wpAny_pure ?_))
    cases hb : bt (j + 1) (argBest bt j) with
    | true =>
      simp only [if_true]
      refine wpAny_bind (wpAny_updateSeq there rfl (wpAny_bind (wpAny_letGo ?_)))
      rw [min_word]
      refine wpAny_pure ⟨plainId_quiet F.plain_min_loop _, ih (j + 1) _ v _ (by omega) hlt (fun b o hbw hbS e => (Heap.get?_update_other _ _ (Ne.symm hbS)).trans (old' b o hbw hbS e)) (W.frame _ _ _ hst' fun b hbf o e => ?_)
        (by simp only [argBest, hb, if_true]; exact hP) (Heap.get?_update_self _ there rfl) fun v' h'' tk'' hP' old'' => hR v' h'' tk'' hP' old''⟩
      exact (Heap.get?_update_other _ _ (fun h : S = b => hSf (by rw [h]; exact hbf))).trans e
    | false =>
      simp only [Bool.false_eq_true, if_false]
      refine wpAny_bind (wpAny_letGo ?_)
      rw [min_word]
      exact wpAny_pure ⟨plainId_quiet F.plain_min_loop _, ih (j + 1) _ vb c (by omega) hlt old' hst' (by simp only [argBest, hb, Bool.false_eq_true, if_false]; exact hPb) there fun v' h'' tk'' hP' old'' => hR v' h'' tk'' hP' old''⟩
/-- min's loop from its start, an item at least -/
theorem min_start (W : Walks prog w A.in1 I fp wr n P St) (bt : Nat → Nat → Bool) (hc : CmpAt prog w A.in1 h0 wr S P bt) (hSf : S ∉ fp) (kw : List (Str × Value)) (hn : 0 < n) {s : Shared} {c : Nat} (old : Old h0 wr S s.heap) (hst : St 0 s.heap)
    (hS : s.heap.get? S = some { cls := .type "list", dict := none, data := .seq #[] c, slots := #[] })
    (hR : ∀ v h' tk, P (argBest bt (n - 1)) v → Old h0 wr S h' → R (.ok (.ret v)) { s with heap := h', toks := tk }) :
    codeAny (model prog w) A (.builtin "min.loop" ⟨[.ref I, .none, .ref S], kw⟩) R s := by
  have hSw : S ∉ wr := fun h => hSf (W.sub _ h)
  refine codeAny_builtin F.entry_min_loop ?_
  rw [Around.under_plainId F.plain_min_loop _]
  show wpAny _ A.in1 (seqItems? (.ref S) >>= _) _ _ s
  refine wpAny_bind (wpAny_seqItems hS rfl ?_)
  show wpAny _ A.in1 (tryCatch (pyNext (.ref I)) _ >>= _) _ _ s
  refine wpAny_bind (wpAny_tryCatch (W.item 0 s _ _ hn hst fun v h' tk hP hst' keep => ?_))
  have there := keep S _ hSw hS
  have old' : Old h0 wr S h' := fun b o hbw hbS e => keep b o hbw (old b o hbw hbS e)
  show wpAny _ A.in1 (updateSeq S (fun _ => #[v, v]) >>= _) _ _ _
  refine wpAny_bind (wpAny_updateSeq there rfl ?_)
  rw [min_word]
  refine wpAny_pure ⟨plainId_quiet F.plain_min_loop _, min_more W bt hc hSf kw _ 0 _ v _ rfl hn (fun b o hbw hbS e => (Heap.get?_update_other _ _ (Ne.symm hbS)).trans (old' b o hbw hbS e)) (W.frame _ _ _ hst' fun b hbf o e => ?_)
    hP (Heap.get?_update_self _ there rfl) fun v' h'' tk'' hP' old'' => hR v' h'' tk'' hP' old''⟩
  exact (Heap.get?_update_other _ _ (fun h : S = b => hSf (by rw [h]; exact hbf))).trans e
/-- .. none: the default -/
theorem min_none (W : Walks prog w A.in1 I fp wr n P St) (hSf : S ∉ fp) (k : Str) (d : Value) (hn : n = 0) {s : Shared} {c : Nat} (old : Old h0 wr S s.heap) (hst : St 0 s.heap)
    (hS : s.heap.get? S = some { cls := .type "list", dict := none, data := .seq #[] c, slots := #[] })
    (hR : ∀ h' tk, Old h0 wr S h' → R (.ok (.ret d)) { s with heap := h', toks := tk }) :
    codeAny (model prog w) A (.builtin "min.loop" ⟨[.ref I, .none, .ref S], [(k, d)]⟩) R s := by
  have hSw : S ∉ wr := fun h => hSf (W.sub _ h)
  refine codeAny_builtin F.entry_min_loop ?_
  rw [Around.under_plainId F.plain_min_loop _]
  show wpAny _ A.in1 (seqItems? (.ref S) >>= _) _ _ s
  refine wpAny_bind (wpAny_seqItems hS rfl ?_)
  show wpAny _ A.in1 (tryCatch (pyNext (.ref I)) _ >>= _) _ _ s
  refine wpAny_bind (wpAny_tryCatch (W.done s _ _ (hn ▸ hst) fun h' tk keep => ?_))
  show wpAny _ A.in1 (rule _ >>= _) _ _ _
  refine wpAny_bind (wpAny_rule ?_)
  exact wpAny_pure (hR _ tk fun b o hbw hbS e => keep b o hbw (old b o hbw hbS e))
end
end G
end

section
set_option Elab.async false
set_option linter.all false
set_option maxRecDepth 100000
set_option maxHeartbeats 2000000
namespace G
open PySem PyProof.Rows
section
variable {prog : Program} {w : World} {A : Around} {E : Value → Shared → Prop} {s : Shared}
theorem ReadsAll.at_ {h : Heap} : ∀ {vs : List Value} {ds : List PyData} {as : List Addr}, ReadsAll h vs ds as → ∀ {i : Nat} {v : Value}, vs[i]? = some v → ∃ d bs, ds[i]? = some d ∧ Reads h v d bs
  | _, _, _, .nil, i, v, e => by simp at e
  | _, _, _, .cons r _, 0, v, e => by
    simp at e; subst e; exact ⟨_, _, rfl, r⟩
  | _, _, _, .cons _ t, i + 1, v, e => by
    obtain ⟨d, bs, h1, h2⟩ := ReadsAll.at_ t (i := i) (v := v) (by simpa using e)
    exact ⟨d, bs, by simpa using h1, h2⟩
theorem min_args (a v : Value) : argsOk "min" ⟨[a], [(Str.ofString "default", v)]⟩ := by unfold argsOk; kernel_rfl
def bestAt (ds : List PyData) : Nat := argBest (fun i j => PySem.W.dataLt (ds.getD i .none) (ds.getD j .none)) (ds.length - 1)
/-- the items may be told from one another by < -/
structure MinOk (A : Around) (ds : List PyData) : Prop where
  alike : ∀ d ∈ ds, ∀ e ∈ ds, PySem.W.alike d e = true
  some_ : ∀ d ∈ ds, d ≠ .none
  room : ∀ d ∈ ds, A.units + d.depth + 4 < cLine
theorem min_cmp {h0 : Heap} {vs : List Value} {ds : List PyData} {as : List Addr} {I S : Addr} (r : ReadsAll h0 vs ds as) (ok : MinOk A ds) (hI : h0.objs.size ≤ I) (hS : h0.objs.size ≤ S) :
    CmpAt prog w A.in1 h0 [I] S (fun i v => vs.toArray[i]? = some v) (fun i j => PySem.W.dataLt (ds.getD i .none) (ds.getD j .none)) := by
  intro i j vi vj s' Q E old hi hj q
  have hi' : vs[i]? = some vi := by simpa using hi
  have hj' : vs[j]? = some vj := by simpa using hj
  have keep : ∀ b o, h0.get? b = some o → s'.heap.get? b = some o := fun b o e => old b o (fun hm => by
    rw [List.mem_singleton.mp hm] at e
    exact absurd (Heap.lt_size e) (Nat.not_lt.mpr hI)) (fun hm => by
    rw [hm] at e
    exact absurd (Heap.lt_size e) (Nat.not_lt.mpr hS)) e
  obtain ⟨d, b1, e1, r1⟩ := ReadsAll.at_ r hi'
  obtain ⟨e, b2, e2, r2⟩ := ReadsAll.at_ r hj'
  have m1 : d ∈ ds := List.mem_of_getElem? e1
  have m2 : e ∈ ds := List.mem_of_getElem? e2
  have g1 : ds.getD i .none = d := by simp [List.getD, e1]
  have g2 : ds.getD j .none = e := by simp [List.getD, e2]
  have hu : A.in1.units + min d.depth e.depth < cLine := by
    have := ok.room d m1
    have h1 : A.in1.units = A.units + 1 := rfl
    omega
  refine PySem.W.rcLt_alike d e A.in1 s' vi vj b1 b2 (Reads.keeps keep r1) (Reads.keeps keep r2) (ok.alike d m1 e m2) (ok.some_ d m1) hu prog w E Q ?_
  simp only [g1, g2] at q
  exact q
theorem readsAll_len {h : Heap} : ∀ {vs : List Value} {ds : List PyData} {as : List Addr}, ReadsAll h vs ds as → vs.length = ds.length
  | _, _, _, .nil => rfl
  | _, _, _, .cons _ t => congrArg (· + 1) (readsAll_len t)
/-- min(xs) -/
theorem min_list {l : Addr} {vs : List Value} {ds : List PyData} {as : List Addr} {Q : Value → Shared → Prop} (hh : A.handled = none) (hl : s.heap.IsList l vs.toArray) (r : ReadsAll s.heap vs ds as) (ok : MinOk A ds) (hn : 0 < ds.length)
    (h : ∀ v h' tk, vs[bestAt ds]? = some v → (∀ b o, s.heap.get? b = some o → h'.get? b = some o) → Q v { s with heap := h', toks := tk }) : wpAny (model prog w) A (call (.builtin "min") [.ref l]) Q E s := by
  obtain ⟨ol, hol, _⟩ := id hl
  have hll : l < s.heap.objs.size := Heap.lt_size hol
  refine call_function_tree F.kind_min F.plain_min F.entry_min (F.args_min1 _) ?_
  show wpAny _ A.in1 (Builtin.Builtins.bindParams "min" ["key", "default"] 0 ⟨[], []⟩ >>= _) _ _ s
  refine wpAny_bind (wpAny_of_eq (show Builtin.Builtins.bindParams "min" ["key", "default"] 0 ⟨[], []⟩ = pure [none, none] from rfl) ?_)
  refine wpAny_bind (wpAny_pure (wpAny_bind (wpAny_pyIter_list hl (wpAny_bind (wpAny_newList ?_ (Nat.zero_le _))))))
  rw [min_word]
  have hS : (s.heap.push { cls := .type "list_iterator", data := .fields #[.ref l, .int 0 0] }).objs.size = s.heap.objs.size + 1 := size_push' ..
  have W := Walks.list (prog := prog) (w := w) (A := A.in1) hh s.heap.objs.size l (Nat.ne_of_lt hll) vs.toArray
  have old : Old s.heap [s.heap.objs.size] (s.heap.push { cls := .type "list_iterator", data := .fields #[.ref l, .int 0 0] }).objs.size ((s.heap.push { cls := .type "list_iterator", data := .fields #[.ref l, .int 0 0] }).push (seqObj "list" #[] 0)) := fun b o _ _ e => Heap.get?_push_of_some _ (Heap.get?_push_of_some _ e)
  have gI : ((s.heap.push { cls := .type "list_iterator", data := .fields #[.ref l, .int 0 0] }).push (seqObj "list" #[] 0)).get? s.heap.objs.size = some { cls := .type "list_iterator", data := .fields #[.ref l, .int 0 0] } :=
    Heap.get?_push_of_some _ (Heap.get?_push_size _ rfl)
  have hsz : vs.toArray.size = ds.length := by rw [List.size_toArray]; exact readsAll_len r
  refine wpAny_pure ⟨plainId_quiet F.plain_min_loop _, min_start W _ (min_cmp r ok (Nat.le_refl _) (by rw [hS]; exact Nat.le_succ _)) (by
    rw [hS]
    simp
    intro e
    exact absurd hll (by rw [← e]; exact Nat.not_lt.mpr (Nat.le_succ _))) [] (by rw [hsz]; exact hn) old ⟨⟨_, gI, rfl, rfl⟩, hl.at fun o e => Heap.get?_push_of_some _ (Heap.get?_push_of_some _ e)⟩ (Heap.get?_push_size _ rfl) fun v h' tk hP old' => ?_⟩
  refine h v h' tk ?_ fun b o e => old' b o (fun hm => ?_) (fun hm => ?_) e
  · unfold bestAt
    rw [← hsz]
    simpa using hP
  · rw [List.mem_singleton.mp hm] at e
    exact absurd (Heap.lt_size e) (Nat.lt_irrefl _)
  · rw [hm, hS] at e
    exact absurd (Heap.lt_size e) (Nat.not_lt.mpr (Nat.le_succ _))
/-- min(xs, default=d) -/
theorem min_dflt {l : Addr} {vs : List Value} {ds : List PyData} {as : List Addr} {d : Value} {Q : Value → Shared → Prop} (hh : A.handled = none) (hl : s.heap.IsList l vs.toArray) (r : ReadsAll s.heap vs ds as) (ok : MinOk A ds)
    (h0 : ds = [] → ∀ h' tk, (∀ b o, s.heap.get? b = some o → h'.get? b = some o) → Q d { s with heap := h', toks := tk })
    (h : ds ≠ [] → ∀ v h' tk, vs[bestAt ds]? = some v → (∀ b o, s.heap.get? b = some o → h'.get? b = some o) → Q v { s with heap := h', toks := tk }) : wpAny (model prog w) A (call (.builtin "min") [.ref l] [(Str.ofString "default", d)]) Q E s := by
  obtain ⟨ol, hol, _⟩ := id hl
  have hll : l < s.heap.objs.size := Heap.lt_size hol
  refine kmk_tree F.kind_min F.plain_min F.entry_min (min_args _ _) ?_
  show wpAny _ A.in1 (Builtin.Builtins.bindParams "min" ["key", "default"] 0 ⟨[], [(Str.ofString "default", d)]⟩ >>= _) _ _ s
  refine wpAny_bind (wpAny_of_eq (show Builtin.Builtins.bindParams "min" ["key", "default"] 0 ⟨[], [(Str.ofString "default", d)]⟩ = pure [none, some d] from rfl) ?_)
  refine wpAny_bind (wpAny_pure (wpAny_bind (wpAny_pyIter_list hl (wpAny_bind (wpAny_newList ?_ (Nat.zero_le _))))))
  rw [min_word]
  have hS : (s.heap.push { cls := .type "list_iterator", data := .fields #[.ref l, .int 0 0] }).objs.size = s.heap.objs.size + 1 := size_push' ..
  have W := Walks.list (prog := prog) (w := w) (A := A.in1) hh s.heap.objs.size l (Nat.ne_of_lt hll) vs.toArray
  have old : Old s.heap [s.heap.objs.size] (s.heap.push { cls := .type "list_iterator", data := .fields #[.ref l, .int 0 0] }).objs.size ((s.heap.push { cls := .type "list_iterator", data := .fields #[.ref l, .int 0 0] }).push (seqObj "list" #[] 0)) := fun b o _ _ e => Heap.get?_push_of_some _ (Heap.get?_push_of_some _ e)
  have gI : ((s.heap.push { cls := .type "list_iterator", data := .fields #[.ref l, .int 0 0] }).push (seqObj "list" #[] 0)).get? s.heap.objs.size = some { cls := .type "list_iterator", data := .fields #[.ref l, .int 0 0] } :=
    Heap.get?_push_of_some _ (Heap.get?_push_size _ rfl)
  have hsz : vs.toArray.size = ds.length := by rw [List.size_toArray]; exact readsAll_len r
  have away : ∀ h', Old s.heap [s.heap.objs.size] (s.heap.push { cls := .type "list_iterator", data := .fields #[.ref l, .int 0 0] }).objs.size h' → ∀ b o, s.heap.get? b = some o → h'.get? b = some o := fun h' old' b o e => old' b o (fun hm => by
    rw [List.mem_singleton.mp hm] at e
    exact absurd (Heap.lt_size e) (Nat.lt_irrefl _)) (fun hm => by
    rw [hm, hS] at e
    exact absurd (Heap.lt_size e) (Nat.not_lt.mpr (Nat.le_succ _))) e
  have hfp : (s.heap.push { cls := .type "list_iterator", data := .fields #[.ref l, .int 0 0] }).objs.size ∉ [s.heap.objs.size, l] := by
    rw [hS]
    simp
    intro e
    exact absurd hll (by rw [← e]; exact Nat.not_lt.mpr (Nat.le_succ _))
  have st0 : Heap.IsListIter ((s.heap.push { cls := .type "list_iterator", data := .fields #[.ref l, .int 0 0] }).push (seqObj "list" #[] 0)) s.heap.objs.size l 0 ∧ Heap.IsList ((s.heap.push { cls := .type "list_iterator", data := .fields #[.ref l, .int 0 0] }).push (seqObj "list" #[] 0)) l vs.toArray :=
    ⟨⟨_, gI, rfl, rfl⟩, hl.at fun o e => Heap.get?_push_of_some _ (Heap.get?_push_of_some _ e)⟩
  by_cases hn : ds = []
  · refine wpAny_pure ⟨plainId_quiet F.plain_min_loop _, min_none W hfp _ d (by rw [hsz, hn]; rfl) old st0 (Heap.get?_push_size _ rfl) fun h' tk old' => ?_⟩
    exact h0 hn h' tk (away h' old')
  · have hn0 : 0 < ds.length := List.length_pos_iff.mpr hn
    refine wpAny_pure ⟨plainId_quiet F.plain_min_loop _, min_start W _ (min_cmp r ok (Nat.le_refl _) (by rw [hS]; exact Nat.le_succ _)) hfp _ (by rw [hsz]; exact hn0) old st0 (Heap.get?_push_size _ rfl) fun v h' tk hP old' => ?_⟩
    refine h hn v h' tk ?_ (away h' old')
    unfold bestAt
    rw [← hsz]
    simpa using hP
end
end G
end

section
set_option Elab.async false
set_option linter.all false
set_option maxRecDepth 100000
set_option maxHeartbeats 4000000
/-! set(xs) of a list of ints (as the hand layer does it of a tuple) -/
namespace G
open PySem PySem.Spec PyProof.Rows L2
section
variable {P : Program} {w : World} {A : Around} {E : Value → Shared → Prop} {s : Shared}
abbrev set0 (w : World) : Obj := { cls := .type "set", dict := none, data := .set #[] 0 (.fresh 0 0 (!w.params.followText "set-order")) }
set_option maxHeartbeats 6400000 in
theorem set_of_list {l : Addr} {items : Array Value} (ns : List Int) {Q : Value → Shared → Prop} (hh : A.handled = none) (hl : s.heap.IsList l items) (hit : IntsAre items.toList ns) (hb : ns.length + 1 < scanBound)
    (h : ∀ (h' : Heap) (tk c : Nat), SetR w h' s.heap.objs.size (fun j => decide (j ∈ ns)) c → c ≤ ns.length → (∀ b o, s.heap.get? b = some o → h'.get? b = some o) → Q (.ref s.heap.objs.size) { s with heap := h', toks := tk }) :
    wpAny (model P w) A (call (.type "set") [.ref l]) Q E s := by
  have hisz : items.size = ns.length := by
    have q := IntsAre.length hit
    rw [Array.length_toList] at q
    exact q
  obtain ⟨c, tl, hmro⟩ := F.called_set.mro
  have hmade := F.called_set.made
  have hsub := F.called_set.sub
  refine wpAny_call (codeAny_of_tree ?_)
  show wpAny _ _ (callAny (.type "set") _) _ _ _
  refine wpAny_pure ⟨Code.quiet_builtin _ (by decide +kernel), codeAny_builtin F.entry_type_call ?_⟩
  rw [Around.under_plain (weight_type_call_type "set" [.ref l] []) rfl]
  have h1 := F.called_set.notType
  have h2 := F.called_set.canCreate
  have hct := F.typeCall_set_1 (.ref l)
  repeat (any_goals (first | assumption | wp_step))
  refine codeAny_mono (code_set_led1 (.ref l) (E := E) (Q₁ := fun obj s₁ => obj = .ref s.heap.objs.size ∧ s₁ = { s with heap := s.heap.push (set0 w) }) ⟨rfl, rfl⟩) fun r s₁ hr => ?_
  cases r with
  | error e => exact hr
  | ok fl =>
    cases fl with
    | ret obj =>
      obtain ⟨rfl, rfl⟩ := hr
      have hS : (s.heap.push (set0 w)).get? s.heap.objs.size = some (set0 w) := Heap.get?_push_size _ rfl
      have hT : Shared.TypeIs { s with heap := s.heap.push (set0 w) } (.ref s.heap.objs.size) "set" := ⟨_, hS, rfl⟩
      have hli := F.called_set.init.lookup
      have hbi := F.called_set.init.bind (.ref s.heap.objs.size)
      repeat (any_goals (first | assumption | wp_step))
      refine codeAny_mono (codeAny_call_builtin (R := wants (fun r s₂ => r = .none ∧ ∃ h' tk c, s₂ = { s with heap := h', toks := tk } ∧ SetR w h' s.heap.objs.size (fun j => decide (j ∈ ns)) c ∧ c ≤ ns.length ∧
          (∀ b o, s.heap.get? b = some o → h'.get? b = some o)) E) F.called_set.init.plain F.entry_set_init (check_set_init_1 hT ?_)) fun r₂ s₂ hr₂ => ?_
      · obtain ⟨ol, hol, hcl, nl, hdl⟩ := hl
        obtain ⟨ocls, odict, odata, oslots⟩ := ol
        simp only at hcl hdl
        subst hcl; subst hdl
        have hol' : (s.heap.push (set0 w)).get? l = some { cls := .type "list", dict := odict, data := .seq items nl, slots := oslots } := Heap.get?_push_of_some _ hol
        have hsls := F.sub_list_set
        have hslf := F.sub_list_frozenset
        have hne : (Value.type "list" == Value.type "dict") = false := by decide
        have hl1 : (s.heap.push (set0 w)).IsList l items := ⟨_, hol', rfl, nl, rfl⟩
        unfold Builtin.«set.__init__» noKeywords Builtin.Frozenset.updateFrom
        generalize hPI : pyIter = PI
        wp_walk
        subst hPI
        refine wpAny_pyIter_list hl1 ?_
        refine wpAny_bind (wpAny_runValue ?_)
        have hlS : l < s.heap.objs.size := Heap.lt_size hol
        have hh3 : A.in1.in1.in1.handled = none := by simp [hh]
        have hz1 : (s.heap.push (set0 w)).objs.size = s.heap.objs.size + 1 := Heap.size_push ..
        have hneI : l ≠ (s.heap.push (set0 w)).objs.size := by
          rw [hz1]; exact Nat.ne_of_lt (Nat.lt_succ_of_lt hlS)
        have hSf : s.heap.objs.size ∉ [(s.heap.push (set0 w)).objs.size, l] := by
          rw [hz1]; simp only [List.mem_cons, List.mem_singleton, List.not_mem_nil, or_false, not_or]
          exact ⟨Nat.ne_of_lt (Nat.lt_succ_self _), Nat.ne_of_gt hlS⟩
        have hval : ∀ (i : Nat) (v : Value), items[i]? = some v → ∃ k t, ns[i]? = some k ∧ v = .int k t := fun i v hv => by
          have hi : i < ns.length := by rw [← hisz]; exact (Array.getElem?_eq_some_iff.mp hv).1
          obtain ⟨t, e⟩ := PyProof.Rows.IntsAre.int_at hit i v (by rw [Array.getElem?_toList]; exact hv)
          refine ⟨ns[i], t, List.getElem?_eq_getElem hi, ?_⟩
          rw [e, List.getD_eq_getElem?_getD, List.getElem?_eq_getElem hi] <;> rfl
        refine set_update_ints ((Walks.list hh3 _ l hneI items).toS) s.heap.objs.size
          hSf ns hisz hb hval (items.size - 0) 0 _ (by omega) (Nat.zero_le _)
          ⟨⟨_, Heap.get?_push_size _ rfl, rfl, rfl⟩, hl1.at fun o e => Heap.get?_push_of_some _ e⟩ ?hS0 ?hR
        case hS0 =>
          have hget : ((s.heap.push (set0 w)).push { cls := .type "list_iterator", data := .fields #[.ref l, .int 0 0] }).get? s.heap.objs.size = some (set0 w) := Heap.get?_push_of_some _ hS
          exact ⟨0, Nat.le_refl 0, setR_new_at hget⟩
        case hR =>
          intro s' c' hm hc' hS'
          obtain ⟨h', g2, d', tk', os'⟩ := s'
          have eg : g2 = s.gens := hm.gens
          have ed : d' = s.drawn := hm.drawn
          have eo : os' = s.os := hm.os
          subst eg; subst ed; subst eo
          show wpAny _ _ _ _ _ _
          refine wpAny_pure ?_
          show wpAny _ _ (ret Value.none) _ _ _
          rw [hisz] at hc'
          refine wpAny_pure ⟨rfl, h', tk', c', rfl, hS', hc', fun b o e => ?_⟩
          have hb0 : b < s.heap.objs.size := Heap.lt_size e
          have hb2 : b ≠ (s.heap.push (set0 w)).objs.size := by
            rw [hz1]; exact Nat.ne_of_lt (Nat.lt_succ_of_lt hb0)
          exact hm.heap b o (by simp only [List.mem_cons, List.mem_singleton, List.not_mem_nil, or_false, not_or]; exact ⟨Nat.ne_of_lt hb0, hb2⟩) (Heap.get?_push_of_some _ (Heap.get?_push_of_some _ e))
      · cases r₂ with
        | error e => exact hr₂
        | ok f2 =>
          cases f2 with
          | ret v2 =>
            obtain ⟨rfl, h', tk, c', rfl, h3, h4, h5⟩ := hr₂
            repeat (any_goals (first | assumption | wp_step))
            exact h h' tk c' h3 h4 h5
          | _ => exact hr₂
    | _ => exact hr
end
end G
end

section
set_option Elab.async false
set_option linter.all false
set_option maxRecDepth 100000
set_option maxHeartbeats 4000000
namespace G
open PySem L2
open PySem.W (EachIs AllAlike Sortable dataLe dataLt alike)
open PyProof.Rows (sortedAll_at sortedAll_old IntsAre)
section
variable {X : Cx}
/-! ### sorted of data -/
def rSrt (K : PySem.W.Frag) : List V → Hp → VK → Prop := fun xs H Q => ∃ (a : Addr) (vs : List V) (ds : List PyData) (F : V → PyData → Prop), xs = [.ref a] ∧ SqL K H a vs ∧ DpAll K H vs ds ∧ Paired F vs ds ∧ AllAlike ds ∧ Sortable ds ∧ (∀ d ∈ ds, d.depth ≤ 8) ∧ ds.length ≤ 100000 ∧
  ∀ (p : Addr) (ys : List V), H p = none → Paired F ys (ds.mergeSort (dataLe false id)) → Q (.ref p) (upd H p (.lst ys))
theorem each_of {X : Cx} {pins : List (Addr × Obj)} {σ : L2.St} {H : Hp} {s : Shared} (I : Inv X pins σ H s) : ∀ {vs : List V} {ds : List PyData} {us : List Value}, DpAll X.K H vs ds → Vals vs us → EachIs (fun v b => ∃ as, Reads s.heap v (id b) as) us ds
  | _, _, _, .nil, .nil => .nil
  | _, _, _, .cons h t, .cons r q => .cons (Dp.reads I _ _ _ h r) (each_of I t q)
theorem each_F {F : V → PyData → Prop} : ∀ {vs : List V} {ds : List PyData} {us : List Value}, Paired F vs ds → Vals vs us → EachIs (fun v b => ∃ x, RelV x v ∧ F x b) us ds
  | _, _, _, .nil, .nil => .nil
  | _, _, _, .cons h t, .cons r q => .cons ⟨_, r, h⟩ (each_F t q)
theorem each_back {F : V → PyData → Prop} : ∀ {us : List Value} {ds : List PyData}, EachIs (fun v b => ∃ x, RelV x v ∧ F x b) us ds → ∃ vs, Vals vs us ∧ Paired F vs ds
  | _, _, .nil => ⟨[], .nil, .nil⟩
  | _, _, .cons ⟨x, r, f⟩ t => by
    obtain ⟨vs, a, b⟩ := each_back t
    exact ⟨x :: vs, .cons r a, .cons f b⟩
theorem cr_srt (hu : X.A.units + 64 < cLine) : CallR X (.builtin "sorted") (rSrt X.K) := by
  intro pins s σ H vs us Q I r h
  obtain ⟨a, xs, ds, F, rfl, hs, hd, hF, hal, hk, hdep, hlen, q⟩ := h
  obtain ⟨its, rv, hl, _⟩ := I.list hs
  obtain ⟨u, rfl, ru⟩ := vals1 r
  cases ru
  have hlF : xs.length = ds.length := Paired.length hF
  refine PySem.W.sorted_data (bs := ds) (enc := id) hl.isList (each_F hF rv) (each_of I hd rv) (by rw [List.map_id]; exact hal) (by rw [List.map_id]; exact hk) (Nat.le_trans hlen (by decide)) (fun b hb => by have := hdep b hb; show X.A.units + 2 + b.depth < cLine; omega) fun out e1 e2 => ?_
  obtain ⟨ys, y1, y2⟩ := each_back e2
  obtain ⟨ep, he'⟩ := sortedAll_at s.heap its out.toArray
  have hl2 : ys.length ≤ sizeLine := by rw [Vals.length y1, e1]; exact Nat.le_trans hlen (by decide)
  have hfresh : H (s.heap.objs.size + 1) = none := I.hok.fresh (Nat.le_succ _)
  refine ⟨.ref _, upd H (s.heap.objs.size + 1) (.lst ys), I.laid (t' := s.toks) (fun _ _ => sortedAll_old) (Nat.le_succ _) ⟨hl2, out, ep, y1, ?_⟩, rfl, q _ ys hfresh y2⟩
  simpa using he'
/-! ### min -/
def rMinD (K : PySem.W.Frag) : List V → Hp → VK → Prop := fun xs H Q => ∃ (a : Addr) (vs : List V) (ds : List PyData), xs = [.ref a] ∧ SqL K H a vs ∧ DpAll K H vs ds ∧ (∀ d ∈ ds, ∀ e ∈ ds, alike d e = true) ∧ (∀ d ∈ ds, d ≠ .none) ∧ (∀ d ∈ ds, d.depth ≤ 8) ∧ 0 < ds.length ∧
  ∀ v, vs[bestAt ds]? = some v → Q v H
theorem back_at : ∀ {vs : List V} {us : List Value}, Vals vs us → ∀ {i : Nat} {u : Value}, us[i]? = some u → ∃ v, vs[i]? = some v ∧ RelV v u
  | _, _, .nil, i, u, e => by simp at e
  | _, _, .cons r _, 0, u, e => by
    simp at e; subst e; exact ⟨_, rfl, r⟩
  | _, _, .cons _ t, i + 1, u, e => by
    obtain ⟨v, h1, h2⟩ := back_at t (i := i) (u := u) (by simpa using e)
    exact ⟨v, by simpa using h1, h2⟩
theorem cr_minD (hc : X.calm = true) (hu : X.A.units + 64 < cLine) : CallR X (.builtin "min") (rMinD X.K) := by
  intro pins s σ H vs us Q I r h
  obtain ⟨a, xs, ds, rfl, hs, hd, h1, h2, h3, hn, q⟩ := h
  obtain ⟨its, rv, hl, _⟩ := I.list hs
  obtain ⟨u, rfl, ru⟩ := vals1 r
  cases ru
  obtain ⟨as, ra⟩ := Dp.readsAll I ds xs its hd rv
  refine min_list (I.ok.hd hc) hl.isList ra ⟨h1, h2, fun d hd => by have := h3 d hd; omega⟩ hn fun v h' tk hv hk => ?_
  obtain ⟨x, e1, e2⟩ := back_at rv hv
  exact ⟨x, H, I.kept hk, e2, q x e1⟩
def rMinF (K : PySem.W.Frag) : List V → List V → Hp → VK → Prop := fun xs zs H Q => ∃ (a : Addr) (vs : List V) (ds : List PyData), xs = [.ref a] ∧ zs = [.non] ∧ SqL K H a vs ∧ DpAll K H vs ds ∧ (∀ d ∈ ds, ∀ e ∈ ds, alike d e = true) ∧ (∀ d ∈ ds, d ≠ .none) ∧ (∀ d ∈ ds, d.depth ≤ 8) ∧
  (ds = [] → Q .non H) ∧ (ds ≠ [] → ∀ v, vs[bestAt ds]? = some v → Q v H)
theorem cr_minF (hc : X.calm = true) (hu : X.A.units + 64 < cLine) : CallRK X (.builtin "min") [Str.ofString "default"] (rMinF X.K) := by
  intro pins s σ H vs zs us ws Q I r rz h
  obtain ⟨a, xs, ds, rfl, rfl, hs, hd, h1, h2, h3, q0, q⟩ := h
  obtain ⟨its, rv, hl, _⟩ := I.list hs
  obtain ⟨u, rfl, ru⟩ := vals1 r
  cases ru
  obtain ⟨w1, rfl, e1⟩ := vals1 rz
  obtain rfl : w1 = Value.none := e1
  obtain ⟨as, ra⟩ := Dp.readsAll I ds xs its hd rv
  refine min_dflt (I.ok.hd hc) hl.isList ra ⟨h1, h2, fun d hd => by have := h3 d hd; omega⟩ (fun e h' tk hk => ?_) fun e v h' tk hv hk => ?_
  · exact ⟨.non, H, I.kept hk, rfl, q0 e⟩
  · obtain ⟨x, e1, e2⟩ := back_at rv hv
    exact ⟨x, H, I.kept hk, e2, q e x e1⟩
/-! ### set(xs) of ints -/
def rSetI (K : PySem.W.Frag) (w : World) : List V → Hp → VK → Prop := fun xs H Q => ∃ (l : Addr) (ns : List Int), xs = [.ref l] ∧ SqL K H l (ns.map V.int) ∧ ns.length < 1000 ∧
  ∀ (p : Addr) (c : Nat), H p = none → c ≤ ns.length → Q (.ref p) (upd H p (SetO w p (fun j => decide (j ∈ ns)) c))
theorem cr_setI (hc : X.calm = true) : CallR X (.type "set") (rSetI X.K X.w) := by
  intro pins s σ H vs us Q I r h
  obtain ⟨l, ns, rfl, hs, hz, q⟩ := h
  obtain ⟨its, rv, hl, _⟩ := I.list hs
  obtain ⟨u, rfl, ru⟩ := vals1 r
  cases ru
  refine set_of_list ns (I.ok.hd hc) hl.isList (by simpa using Vals.ints rv) (by unfold scanBound; omega) fun h' tk c R hc' hk => ?_
  have hfresh : H s.heap.objs.size = none := I.hok.fresh (Nat.le_refl _)
  exact ⟨.ref _, upd H s.heap.objs.size (SetO X.w s.heap.objs.size (fun j => decide (j ∈ ns)) c), I.laid (t' := tk) hk (Nat.le_refl _) (setO_new R), rfl, q _ c hfresh hc'⟩
end
section
variable {Γ : En} {Ω : Om} {te ta tb tc tl td : TE} {tt tu : TT} {t u : TS} {Φ : Po} {g : TG} {gs : TGs}
theorem RpL.paired {H : Hp} : ∀ {vs : List V} {ds : List PyData}, RpL H vs ds → Paired (Rp H) vs ds
  | _, _, .nil => .nil
  | _, _, .cons h t => .cons h (RpL.paired t)
theorem RpL.ofPaired {H : Hp} : ∀ {vs : List V} {ds : List PyData}, Paired (Rp H) vs ds → RpL H vs ds
  | _, _, .nil => .nil
  | _, _, .cons h t => .cons h (RpL.ofPaired t)
theorem ev_srt {K : PySem.W.Frag} {ds : List PyData} (h : EvD ta Γ Ω (.py (.list ds))) (hal : AllAlike ds) (hk : Sortable ds) (hd : ∀ d ∈ ds, d.depth ≤ 8) (hz : ds.length ≤ 100000) : EvD (tCB (rSrt K) (tCons ta tNil)) Γ Ω (.py (.list (ds.mergeSort (dataLe false id)))) := cb_d (ar_cons h ar_nil) fun vs H0 H R g r k => by
  obtain ⟨v, rfl, rr1⟩ := rq1 r
  cases rr1 with
  | lst h1 rr =>
    refine ⟨_, _, ds, Rp H0, rfl, SqL.of (g.ex _ _ h1), RpL.dp (RpL.mono g.ex rr), RpL.paired rr, hal, hk, hd, hz, fun p ys hp hy => ?_⟩
    obtain ⟨g2, c2⟩ := g.frz hp (.lst ys)
    exact k _ _ _ g2 c2 (.lst upd_same (RpL.mono c2.ex (RpL.ofPaired hy)))
/-- sorted(xs) of what a type of one's own stands for -/
theorem ev_srtE {K : PySem.W.Frag} {β : Type} (enc : β → PyData) (le : β → β → Bool) {bs : List β} (h : EvD ta Γ Ω (.py (.list (bs.map enc)))) (ha : ∀ a ∈ bs, ∀ b ∈ bs, alike (enc a) (enc b) = true) (hk : ∀ b ∈ bs, ∃ x r, enc b = .tuple (x :: r)) (hd : ∀ b ∈ bs, (enc b).depth ≤ 8) (hz : bs.length ≤ 100000)
    (hle : ∀ a ∈ bs, ∀ b ∈ bs, dataLe false enc a b = le a b) : EvD (tCB (rSrt K) (tCons ta tNil)) Γ Ω (.py (.list ((bs.mergeSort le).map enc))) := by
  have e := ev_srt (K := K) h (fun d hd d' hd' => by
    obtain ⟨b, hb, rfl⟩ := List.mem_map.mp hd
    obtain ⟨b', hb', rfl⟩ := List.mem_map.mp hd'
    exact ha b hb b' hb') (.inl fun d hd => by
    obtain ⟨b, hb, rfl⟩ := List.mem_map.mp hd
    exact hk b hb) (fun d hd' => by
    obtain ⟨b, hb, rfl⟩ := List.mem_map.mp hd'
    exact hd b hb) (by rw [List.length_map]; exact hz)
  refine e.is ?_
  congr 2
  exact (List.map_mergeSort (r := le) (s := dataLe false id) (f := enc) fun a ha b hb => (hle a ha b hb).symm).symm
theorem ev_minD {K : PySem.W.Frag} {ds : List PyData} {d : PyData} (h : EvD ta Γ Ω (.py (.list ds))) (ha : ∀ d ∈ ds, ∀ e ∈ ds, alike d e = true) (hn : ∀ d ∈ ds, d ≠ .none) (hd : ∀ d ∈ ds, d.depth ≤ 8) (hb : ds[bestAt ds]? = some d) : EvD (tCB (rMinD K) (tCons ta tNil)) Γ Ω (.py d) := cb_d (ar_cons h ar_nil) fun vs H0 H R g r k => by
  obtain ⟨v, rfl, rr1⟩ := rq1 r
  cases rr1 with
  | lst h1 rr =>
    refine ⟨_, _, ds, rfl, SqL.of (g.ex _ _ h1), RpL.dp (RpL.mono g.ex rr), ha, hn, hd, ?_, fun v hv => ?_⟩
    · have := (List.getElem?_eq_some_iff.mp hb).1; omega
    · obtain ⟨d', e1, e2⟩ := rr.getV hv
      rw [hb] at e1
      cases e1
      exact k v H0 H g (.refl _ _ _) e2
/-- min(xs, default=None) -/
theorem ev_minF {K : PySem.W.Frag} {ds : List PyData} {z : PyData} (h : EvD ta Γ Ω (.py (.list ds))) (ha : ∀ d ∈ ds, ∀ e ∈ ds, alike d e = true) (hn : ∀ d ∈ ds, d ≠ .none) (hd : ∀ d ∈ ds, d.depth ≤ 8) (hz : z = (if ds = [] then PyData.none else ds.getD (bestAt ds) .none)) (hb : ds ≠ [] → bestAt ds < ds.length) :
    EvD (tCKw (rMinF K) (tCons ta tNil) (tCons (tC .non) tNil)) Γ Ω (.py z) := fun Q q σ H0 H R s g k =>
  (ar_cons h ar_nil).bind s g fun vs H01 H1 s1 g1 c1 r1 => by
    obtain ⟨v, rfl, rr1⟩ := rq1 r1
    cases rr1 with
    | lst h1 rr =>
      refine ⟨_, _, ds, rfl, rfl, SqL.of (g1.ex _ _ h1), RpL.dp (RpL.mono g1.ex rr), ha, hn, hd, fun e => ?_, fun e v hv => ?_⟩
      · rw [if_pos e] at hz
        subst hz
        exact k _ _ Ω H01 H1 q g1 c1 .non
      · rw [if_neg e] at hz
        obtain ⟨d', e1, e2⟩ := rr.getV hv
        have : z = d' := by rw [hz, List.getD, e1]; rfl
        rw [this] at q
        exact k v _ Ω H01 H1 q g1 c1 e2
theorem argBest_le (bt : Nat → Nat → Bool) : ∀ k, argBest bt k ≤ k
  | 0 => Nat.le_refl _
  | k + 1 => by
    unfold argBest
    split
    · exact Nat.le_refl _
    · exact Nat.le_succ_of_le (argBest_le bt k)
theorem bestAt_lt {ds : List PyData} (h : ds ≠ []) : bestAt ds < ds.length := by
  have := argBest_le (fun i j => dataLt (ds.getD i .none) (ds.getD j .none)) (ds.length - 1)
  have := List.length_pos_iff.mpr h
  unfold bestAt
  omega
/-- sorted(set(xs)) of ints -/
theorem ev_sset {K : PySem.W.Frag} {w : World} {ns : List Int} {Q : D → Om → Prop} (h : EvD ta Γ Ω (.py (.list (ns.map PyData.int)))) (hz : ns.length < 64) (q : ∀ ns' : List Int, ns'.Pairwise (· < ·) → (∀ k, k ∈ ns' ↔ k ∈ ns) → Q (.py (.list (ns'.map PyData.int))) Ω) :
    EvW (tCB (rSortedSet w) (tCons (tCB (rSetI K w) (tCons ta tNil)) tNil)) Γ Ω Q := fun σ H0 H R s g k =>
  h.bind s g fun v H01 H1 s1 g1 c1 r1 => by
    cases r1 with
    | lst h1 rr =>
      rw [RpL.ints rr] at h1
      refine ⟨_, ns, rfl, SqL.of (g1.ex _ _ h1), by omega, fun p c hp hc => ?_⟩
      obtain ⟨g2, c2⟩ := g1.frz hp (SetO w p (fun j => decide (j ∈ ns)) c)
      refine ⟨p, fun j => decide (j ∈ ns), c, rfl, upd_same, by omega, fun ns' p' hs hm hl hp' => ?_⟩
      obtain ⟨g3, c3⟩ := g2.frz hp' (.lst (ns'.map V.int))
      exact k _ _ Ω _ _ (q ns' hs fun k => by rw [hm k]; simp) g3 ((c1.trans c2 g1.ex).trans c3 g2.ex) (.lst upd_same (RpL.ofInts ns'))
end
section
variable {X : Cx} {e e2 : Expr} {es : List Expr} {t : TA} {p pos q kpos : Pos} {j : Nat}
variable (b : Bi X.mg)
include b
theorem pb_sorted (hr : Room j X.A) (ha : PA X (e :: es) t) (hg : Gl X "sorted" := by rfl) (he : starEach (e :: es) X.env = (false, eval e X.env) :: starEach es X.env := by rfl) (hpl : (backTo pos (starEach es X.env)).any (·.1) = false := by rfl) :
    PE X (.Call (.Name "sorted" p) (e :: es) [] pos) (tCB (rSrt X.K) t) := pe_callB (cr_srt hr.units) hg b.sorted PyProof.Rows.boot_sorted ha (by decide) (by decide) he hpl
theorem pb_minP (hr : Room j X.A) (ha : PA X (e :: es) t) (hc : X.calm = true := by rfl) (hg : Gl X "min" := by rfl) (he : starEach (e :: es) X.env = (false, eval e X.env) :: starEach es X.env := by rfl) (hpl : (backTo pos (starEach es X.env)).any (·.1) = false := by rfl) :
    PE X (.Call (.Name "min" p) (e :: es) [] pos) (tCB (rMinD X.K) t) := pe_callB (cr_minD hc hr.units) hg b.min PyProof.Rows.boot_min ha (by decide) (by decide) he hpl
theorem pb_minF (hr : Room j X.A) (ha : PA X (e :: es) t) (hc : X.calm = true := by rfl) (hg : Gl X "min" := by rfl)
    (he : backTo pos (starEach (e :: es) X.env) = (false, eval e X.env) :: backTo pos (starEach es X.env) := by rfl) (hpl : (backTo pos (starEach (e :: es) X.env)).any (·.1) = false := by rfl) :
    PE X (.Call (.Name "min" p) (e :: es) [⟨some "default", .Constant .none 0 q, kpos⟩] pos) (tCKw (rMinF X.K) t (tCons (tC .non) tNil)) := pe_callBK (cr_minF hc hr.units) hg b.min PyProof.Rows.boot_min ha (pk_cons pe_non pk_nil) (by decide) (by decide) he hpl
theorem pb_set (ha : PA X (e :: es) t) (hc : X.calm = true := by rfl) (hg : Gl X "set" := by rfl) (he : starEach (e :: es) X.env = (false, eval e X.env) :: starEach es X.env := by rfl) (hpl : (backTo pos (starEach es X.env)).any (·.1) = false := by rfl) :
    PE X (.Call (.Name "set" p) (e :: es) [] pos) (tCB (rSetI X.K X.w) t) := pe_callTy (cr_setI hc) hg b.set PyProof.Rows.boot_set ha (by decide) (by decide) he hpl
theorem pb_sortedSet (ha : PA X (e :: es) t) (hc : X.calm = true := by rfl) (hg : Gl X "sorted" := by rfl) (he : starEach (e :: es) X.env = (false, eval e X.env) :: starEach es X.env := by rfl) (hpl : (backTo pos (starEach es X.env)).any (·.1) = false := by rfl) :
    PE X (.Call (.Name "sorted" p) (e :: es) [] pos) (tCB (rSortedSet X.w) t) := pe_callB (cr_sortedSet hc) hg b.sorted PyProof.Rows.boot_sorted ha (by decide) (by decide) he hpl
end
end G
end

section
set_option Elab.async false
set_option linter.all false
set_option maxRecDepth 100000
set_option maxHeartbeats 4000000
namespace G
open PySem L2
section
variable {Γ : En} {Ω : Om} {te ta tb tc tl td : TE} {tt tu : TT} {t u : TS} {Φ : Po} {g : TG} {gs : TGs}
/-- a comprehension over the signs of a text -/
theorem ev_lcS {vs : List Nat} {z : Str} (p : Nat → Bool) (f : Nat → PyData) (hi : EvD tl Γ Ω (S z)) (ok : TgOk g vs) (hz : z.cps.size < 1000)
    (hb : ∀ c ∈ z.cps.toList, TgW g (S ⟨#[c]⟩) (wipeG Γ vs) [] fun Γ2 Ω2 => Ω2 = [] ∧ TsD tt Γ2 [] (p c) ∧ (p c = true → EvD te Γ2 [] (.py (f c)))) : EvD (tLc (iStr tl) g tt te vs) Γ Ω (.py (.list ((z.cps.toList.filter p).map f))) := fun Q q σ H0 H R s gh k =>
  hi.bind s gh fun v H01 H1 s1 g1 c1 r1 => by
    cases r1
    refine ⟨z, rfl, fun Dd hD => ?_⟩
    obtain ⟨g2, c2⟩ := g1.new hD (o := .lst []) (w := .lst []) ⟨[], rfl, .nil⟩
    have hl : z.cps.size = z.cps.toList.length := Array.length_toList.symm
    refine lc_it walk_str (fun i H' => ∃ H0', Sl Γ σ H0' ∧ Hs (Ω ++ [(Dd, .lst ((((z.cps.toList.take i).filter p).map f).map D.py))]) H0' H' ∧ Step Ω (Ω ++ [(Dd, .lst ((((z.cps.toList.take i).filter p).map f).map D.py))]) H01 H1 H0' H')
      ⟨H01, s1, g2, c2⟩ (fun _ _ _ _ => trivial) ?_ ?_
    · rintro i x H' H'' hi' ⟨H0', s', g', c'⟩ ⟨rfl, c, hc, rfl⟩
      have e : z.cps.toList[i]? = some c := by rw [Array.getElem?_toList]; exact hc
      refine lc_turn ok (Nat.lt_of_le_of_lt (fm_len z.cps.toList i p f) (by omega)) (hb c (List.mem_of_getElem? e)) s' g' (.str _) fun A0 A s'' g'' c'' => ?_
      rw [← fm_next e] at g'' c''
      exact ⟨A0, s'', g'', c'.trans c'' g'.ex⟩
    · rintro H' ⟨H0', s', g', c'⟩
      rw [hl] at g' c'
      exact lc_end (K := ([] : PySem.W.Frag)) (σ := σ) z.cps.toList p f g' c' fun v A0 A ga ca ra => k v _ Ω A0 A q ga (c1.trans ca g1.ex) ra
/-- a comprehension over a tuple, the list one's own -/
theorem ev_lcTO {K : PySem.W.Frag} {α : Type} {vs : List Nat} (xs : List α) (enc : α → PyData) (p : α → Bool) (f : α → PyData) {Q : D → Om → Prop} (hi : EvD tl Γ Ω (.py (.tuple (xs.map enc)))) (ok : TgOk g vs) (hz : xs.length < 100000)
    (hb : ∀ a ∈ xs, TgW g (.py (enc a)) (wipeG Γ vs) [] fun Γ2 Ω2 => Ω2 = [] ∧ TsD tt Γ2 [] (p a) ∧ (p a = true → EvD te Γ2 [] (.py (f a)))) (q : ∀ l, Q (.loc l) (Ω ++ [(l, .lst (((xs.filter p).map f).map D.py))])) : EvW (tLc (iTup K tl) g tt te vs) Γ Ω Q := fun σ H0 H R s gh k =>
  hi.bind s gh fun v H01 H1 s1 g1 c1 r1 => by
    cases r1 with
    | tup h1 rr =>
      rename_i a ws
      have hl : ws.length = xs.length := by rw [rr.length, List.length_map]
      refine ⟨a, rfl, ⟨ws, SqT.of (g1.ex _ _ h1)⟩, fun Dd hD => ?_⟩
      obtain ⟨g2, c2⟩ := g1.new hD (o := .lst []) (w := .lst []) ⟨[], rfl, .nil⟩
      refine lc_tup (K := K) (a := a) (xs := ws) (fun i H' => ∃ H0', Sl Γ σ H0' ∧ Hs (Ω ++ [(Dd, .lst ((((xs.take i).filter p).map f).map D.py))]) H0' H' ∧ Step Ω (Ω ++ [(Dd, .lst ((((xs.take i).filter p).map f).map D.py))]) H01 H1 H0' H')
        ⟨H01, s1, g2, c2⟩ (fun i H' _ ⟨H0', _, g', c'⟩ => SqT.of (g'.ex _ _ (c'.ex _ _ h1))) ?_ ?_
      · rintro i x H' hx ⟨H0', s', g', c'⟩
        obtain ⟨d, hd, rd⟩ := rr.getV hx
        rw [List.getElem?_map] at hd
        cases e : xs[i]? with
        | none => rw [e] at hd; cases hd
        | some b =>
          rw [e] at hd
          cases hd
          refine lc_turn ok (Nat.lt_of_le_of_lt (fm_len xs i p f) hz) (hb b (List.mem_of_getElem? e)) s' g' (rd.mono c'.ex) fun H0'' H'' s'' g'' c'' => ?_
          rw [← fm_next e] at g'' c''
          exact ⟨H0'', s'', g'', c'.trans c'' g'.ex⟩
      · rintro H' ⟨H0', s', g', c'⟩
        rw [hl, List.take_length] at g' c'
        exact k _ _ _ H0' H' (q Dd) g' (c1.trans c' g1.ex) rfl
/-- a written list, one's own -/
theorem ev_ownL {ta : TA} {ds : List D} {Q : D → Om → Prop} (h : ArD ta Γ Ω ds) (hz : ds.length ≤ 1000) (q : ∀ p, Q (.loc p) (Ω ++ [(p, .lst ds)])) : EvW (tLst ta) Γ Ω Q := fun σ H0 H R s g k =>
  h.bind s g fun vs H01 H1 s1 g1 c1 r1 => by
    refine ⟨by rw [Paired.length r1]; exact Nat.le_trans hz (by decide), fun p hp => ?_⟩
    obtain ⟨g2, c2⟩ := g1.new hp (o := .lst vs) (w := .lst ds) ⟨vs, rfl, r1⟩
    exact k _ _ _ _ _ (q p) g2 (c1.trans c2 g1.ex) rfl
theorem ev_ownLW {ta : TA} {Q : D → Om → Prop} (h : ArW ta Γ Ω fun ds Ω1 => ds.length ≤ 1000 ∧ ∀ p, Q (.loc p) (Ω1 ++ [(p, .lst ds)])) : EvW (tLst ta) Γ Ω Q := fun σ H0 H R s g k =>
  h σ H0 H _ s g fun vs ds Ω1 H01 H1 q1 g1 c1 r1 => by
    obtain ⟨hz, q⟩ := q1
    refine ⟨by rw [Paired.length r1]; exact Nat.le_trans hz (by decide), fun p hp => ?_⟩
    obtain ⟨g2, c2⟩ := g1.new hp (o := .lst vs) (w := .lst ds) ⟨vs, rfl, r1⟩
    exact k _ _ _ _ _ (q p) g2 (c1.trans c2 g1.ex) rfl
/-- AXES[..] -/
theorem ev_axes {K : PySem.W.Frag} {w : World} {a : Addr} {x : Str} {i : Int} (hx : KDct K w a x (.int i)) (hb : EvD tb Γ Ω (S x)) : EvD (tOp (rIxD K w) (tC (.ref a)) tb) Γ Ω (I i) := fun Q q σ H0 H R s g k =>
  hb.bind s g fun v H01 H1 s1 g1 c1 r1 => by
    cases r1
    exact ⟨a, x, .int i, rfl, rfl, hx, k _ _ Ω H01 H1 q g1 c1 (.int i)⟩
/-- a search by a for that returns: over a tuple, pure turns -/
theorem EvD.eq {d e : D} (h : EvD te Γ Ω d) (q : d = e) : EvD te Γ Ω e := q ▸ h
end
end G
end

section
set_option Elab.async false
set_option linter.all false
set_option maxRecDepth 100000
set_option maxHeartbeats 4000000
/-! the rules with the written part named: within a comprehension's block the reading may not speak of the block -/
namespace G
open PySem L2
section
variable {X : Cx} (K : PySem.W.Frag)
theorem ixt (h : X.K = K := by rfl) : IxR X (rIxT K) := h ▸ ix_tup
theorem ixl (h : X.K = K := by rfl) : IxR X (rIxL K) := h ▸ ix_list
theorem slt (h : X.K = K := by rfl) : SlR X (rSlA K) := h ▸ sl_tupA
theorem sll (h : X.K = K := by rfl) : SlR X (rSlL K) := h ▸ sl_list
theorem opc (h : X.K = K := by rfl) : OpR X (binaryOp .Add) (rCatA K) := h ▸ op_catA
theorem ope (hu : X.A.units + 64 < cLine) (h : X.K = K := by rfl) : OpR X (compareOp .Eq) (rEqD K) := h ▸ op_eqD hu
theorem opn (hu : X.A.units + 64 < cLine) (h : X.K = K := by rfl) : OpR X (compareOp .NotEq) (rNeD K) := h ▸ op_neD hu
theorem opl (hu : X.A.units < cLine) (h : X.K = K := by rfl) : OpR X (compareOp .Lt) (rLtT K) := h ▸ op_ltT hu
theorem opi (h : X.K = K := by rfl) : OpR X (compareOp .In) (rIn K false) := h ▸ op_in_seq
section
variable {es : List Expr} {t : TGs} {k n : Nat} {e : Expr} {te : TE} {f : Str} {pos : Pos}
theorem pgt (hc : X.calm = true) (h : PGs X es t) (hs : X.K = K := by rfl) (hn : (assignEach es X.env).length = n := by rfl) (hst : (assignEach es X.env).findIdx? (·.1) = none := by rfl) : PG X (.Tuple es k pos) (gTup K n t) := by
  subst hs
  exact pg_tup hc h hn hst
theorem pfl (he : PE X e te) (hs : X.K = K := by rfl) (hb : attributeBase e f X.env (eval e X.env) = eval e X.env := by rfl) : PE X (.Attribute e f pos) (tFld K te f) := by
  subst hs
  exact pe_fld he hb
end
section
variable {e e2 : Expr} {es : List Expr} {t : TA} {p pos : Pos} {mg : Str → Option Value} (b : Bi mg)
include b
theorem kb_len (ha : PA X (e :: es) t) (hs : X.K = K := by rfl) (hb : X.mg = mg := by rfl) (hg : Gl X "len" := by rfl) (he : starEach (e :: es) X.env = (false, eval e X.env) :: starEach es X.env := by rfl) (hpl : (backTo pos (starEach es X.env)).any (·.1) = false := by rfl) :
    PE X (.Call (.Name "len" p) (e :: es) [] pos) (tCB (rLn K) t) := by
  subst hs; subst hb
  exact pb_len b ha hg he hpl
theorem kb_any (ha : PA X (e :: es) t) (hs : X.K = K := by rfl) (hb : X.mg = mg := by rfl) (hc : X.calm = true := by rfl) (hg : Gl X "any" := by rfl) (he : starEach (e :: es) X.env = (false, eval e X.env) :: starEach es X.env := by rfl) (hpl : (backTo pos (starEach es X.env)).any (·.1) = false := by rfl) :
    PE X (.Call (.Name "any" p) (e :: es) [] pos) (tCB (rAny K) t) := by
  subst hs; subst hb
  exact pb_any b ha hc hg he hpl
end
end
end G
end

section
set_option Elab.async false
set_option linter.all false
set_option maxRecDepth 100000
set_option maxHeartbeats 4000000
namespace G
open PySem L2
/-! ### a dict under its lock -/
def del (H : Hp) (d : Addr) : Hp := fun a => if a = d then none else H a
theorem del_ne {H : Hp} {d a : Addr} (h : a ≠ d) : del H d a = H a := if_neg h
theorem del_same {H : Hp} {d : Addr} : del H d d = none := if_pos rfl
theorem del_get {H : Hp} {d a : Addr} {o : HO} (h : del H d a = some o) : a ≠ d ∧ H a = some o := by
  by_cases e : a = d
  · rw [e, del_same] at h; cases h
  · rw [del_ne e] at h; exact ⟨e, h⟩
/-- neither list nor tuple -/
def isD : HO → Prop
  | .dK _ => True
  | .dT _ => True
  | _ => False
mutual
theorem Rp.del {H : Hp} {d : Addr} {u : HO} (hd : H d = some u) (hu : isD u) : ∀ {v : V} {e : PyData}, Rp H v e → Rp (del H d) v e
  | _, _, .non => .non
  | _, _, .bl b => .bl b
  | _, _, .int i => .int i
  | _, _, .str x => .str x
  | _, _, .lst h r => .lst (by rw [del_ne]; exact h; intro e; rw [e, hd] at h; cases h; exact hu) (RpL.del hd hu r)
  | _, _, .tup h r => .tup (by rw [del_ne]; exact h; intro e; rw [e, hd] at h; cases h; exact hu) (RpL.del hd hu r)
theorem RpL.del {H : Hp} {d : Addr} {u : HO} (hd : H d = some u) (hu : isD u) : ∀ {vs : List V} {ds : List PyData}, RpL H vs ds → RpL (del H d) vs ds
  | _, _, .nil => .nil
  | _, _, .cons h r => .cons (Rp.del hd hu h) (RpL.del hd hu r)
end
/-- no abstract things -/
def plD : D → Bool
  | .ab _ => false
  | _ => true
def plO : Own → Bool
  | .lst ds => ds.all plD
  | .dk kvs => (kvs.map (·.2)).all plD
  | .dt kvs => (kvs.map (·.2)).all plD
  | .feed _ => false
  | .raw _ => true
  | .ob _ _ fs => (fs.map (·.2)).all plD
theorem Rq.del {H : Hp} {d : Addr} {u : HO} (hd : H d = some u) (hu : isD u) {v : V} : ∀ {e : D}, plD e = true → Rq H v e → Rq (del H d) v e
  | .py _, _, h => Rp.del hd hu h
  | .loc _, _, h => h
theorem RqL.del {H : Hp} {d : Addr} {u : HO} (hd : H d = some u) (hu : isD u) : ∀ {vs : List V} {ds : List D}, ds.all plD = true → RqL H vs ds → RqL (del H d) vs ds
  | _, _, _, .nil => .nil
  | _, _, h, .cons a r => by
    rw [List.all_cons, Bool.and_eq_true] at h
    exact .cons (Rq.del hd hu h.1 a) (RqL.del hd hu h.2 r)
theorem OwnOk.del {H : Hp} {d : Addr} {u : HO} (hd : H d = some u) (hu : isD u) {o : HO} : ∀ {w : Own}, plO w = true → OwnOk H o w → OwnOk (del H d) o w
  | .lst _, h, ⟨vs, h1, h2⟩ => ⟨vs, h1, h2.del hd hu h⟩
  | .dk _, h, ⟨vs, h1, h2, h3⟩ => ⟨vs, h1, h2, h3.del hd hu h⟩
  | .dt _, h, ⟨vs, h1, h2, h3⟩ => ⟨vs, h1, h2, h3.del hd hu h⟩
  | .raw _, _, h => h
  | .ob _ _ _, h, ⟨vs, h1, h2, h3⟩ => ⟨vs, h1, h2, h3.del hd hu h⟩
theorem mut_d {u : HO} (h : isD u) : Mut (some u) := by
  cases u <;> first | exact h.elim | trivial
theorem same_back {H0 H0' : Hp} {d : Addr} {u : HO} (hd : H0 d = some u) (e : Same (del H0 d) H0') : Same H0 (upd H0' d u) := fun a o h => by
  by_cases ha : a = d
  · subst ha; rw [upd_same]; rw [hd] at h; exact h
  · rw [upd_ne ha]; exact e a o (by rw [del_ne ha]; exact h)
theorem Hs.lock {Ω : Om} {H0 H : Hp} (g : Hs Ω H0 H) {d : Addr} {u : HO} (hd : H0 d = some u) (hu : isD u) (hΩ : (Ω.map (·.2)).all plO = true) (od : Obj) : Hs (Ω ++ [(d, .raw (.frz od u))]) (del H0 d) (upd H d (.frz od u)) := by
  refine ⟨fun a o h => ?_, fun q hq => ?_, ?_⟩
  · obtain ⟨h1, h2⟩ := del_get h
    rw [upd_ne h1]; exact g.ex a o h2
  · rcases List.mem_append.mp hq with hq | hq
    · obtain ⟨h1, o, h2, h3⟩ := g.own q hq
      have hne : q.1 ≠ d := fun e => by rw [e, hd] at h1; cases h1
      refine ⟨by rw [del_ne hne]; exact h1, o, by rw [upd_ne hne]; exact h2, h3.del hd hu ?_⟩
      exact List.all_eq_true.mp hΩ q.2 (List.mem_map_of_mem hq)
    · rw [List.mem_singleton.mp hq]
      exact ⟨del_same, _, upd_same, rfl, fun xs h => by cases h⟩
  · rw [List.map_append]
    refine List.nodup_append.mpr ⟨g.nd, by simp, fun a ha b hb e => ?_⟩
    simp at hb
    subst hb
    subst e
    obtain ⟨x, hx, rfl⟩ := List.mem_map.mp ha
    rw [(g.own x hx).1] at hd; cases hd
/-- behind the block -/
theorem Hs.unlock {Ω Ω' : Om} {H0 H H0' H' : Hp} (g : Hs Ω H0 H) {d : Addr} {u : HO} {od : Obj} (hd : H0 d = some u) (g' : Hs Ω' H0' H') (c : Step (Ω ++ [(d, .raw (.frz od u))]) Ω' (del H0 d) (upd H d (.frz od u)) H0' H') {j : Nat} (hj : Ω'[j]? = some (d, .raw (.frz od u))) :
    H' d = some (.frz od u) ∧ Hs (Ω'.eraseIdx j) (upd H0' d u) (upd H' d u) ∧ Step Ω (Ω'.eraseIdx j) H0 H (upd H0' d u) (upd H' d u) := by
  obtain ⟨hd0, o, hd1, ho, _⟩ := g'.get hj
  obtain rfl : o = _ := ho
  have hkey : (Ω'.eraseIdx j).map (·.1) = (Ω'.map (·.1)).eraseIdx j := by
    apply List.ext_getElem?
    intro i
    rw [List.getElem?_map, List.getElem?_eraseIdx, List.getElem?_eraseIdx]
    split <;> rw [List.getElem?_map]
  have hnd : ((Ω'.map (·.1)).eraseIdx j).Nodup := g'.nd.sublist (List.eraseIdx_sublist _ _)
  have ex0 : Same H0' (upd H0' d u) := fun b o e => by rw [upd_ne (ne_of_none e hd0)]; exact e
  have hne : ∀ q ∈ Ω'.eraseIdx j, q.1 ≠ d := fun q hq e => by
    obtain ⟨i, hi⟩ := List.getElem?_of_mem hq
    rw [List.getElem?_eraseIdx] at hi
    have e2 : (Ω'.map (·.1))[j]? = some d := by rw [List.getElem?_map, hj]; rfl
    split at hi
    · have e1 : (Ω'.map (·.1))[i]? = some d := by rw [List.getElem?_map, hi]; exact congrArg some e
      have := nd_ix g'.nd e2 e1
      omega
    · have e1 : (Ω'.map (·.1))[i + 1]? = some d := by rw [List.getElem?_map, hi]; exact congrArg some e
      have := nd_ix g'.nd e2 e1
      omega
  refine ⟨hd1, ⟨fun a o h => ?_, fun q hq => ?_, by rw [hkey]; exact hnd⟩, same_back hd c.ex, fun a o h ha => ?_, fun a ha => ?_⟩
  · by_cases e : a = d
    · subst e; rw [upd_same] at h ⊢; exact h
    · rw [upd_ne e] at h ⊢; exact g'.ex a o h
  · obtain ⟨h1, o, h2, h3⟩ := g'.own q (List.mem_of_mem_eraseIdx hq)
    have := hne q hq
    exact ⟨by rw [upd_ne this]; exact h1, o, by rw [upd_ne this]; exact h2, h3.mono ex0⟩
  · by_cases hda : a = d
    · subst hda
      have := g.ex a _ hd
      rw [h] at this
      cases this
      exact ⟨upd_same, fun h0 => by rw [hd] at h0; cases h0⟩
    obtain ⟨k1, k2⟩ := c.keep a o (by rw [upd_ne hda]; exact h) (by
      rw [List.map_append]
      intro hm
      rcases List.mem_append.mp hm with hm | hm
      · exact ha hm
      · simp at hm; exact hda hm)
    exact ⟨by rw [upd_ne hda]; exact k1, fun h0 nt => by rw [upd_ne hda]; exact k2 (by rw [del_ne hda]; exact h0) nt⟩
  · obtain ⟨q, hq, rfl⟩ := List.mem_map.mp ha
    have hda := hne q hq
    rcases c.new q.1 (List.mem_map_of_mem (List.mem_of_mem_eraseIdx hq)) with z | z
    · rw [List.map_append] at z
      rcases List.mem_append.mp z with z | z
      · exact .inl z
      · simp at z; exact (hda z).elim
    · rw [upd_ne hda] at z
      exact .inr z
section
variable {Γ : En} {Ω : Om} {te ta tb tc tl td tv ty : TE} {tt tu : TT} {t u : TS} {Φ : Po} {g : TG} {gs : TGs}
/-- one name's dict is locked; the rest of the names hold plain things -/
theorem Sl.del {σ : St} {H0 : Hp} (s : Sl Γ σ H0) {d : Addr} {u : HO} (hd : H0 d = some u) (hu : isD u) {i : Nat} {x : V} (hx : σ[i]? = some (some x)) {e : D} (he : Rq (del H0 d) x e) (hΓ : ∀ j e, Γ[j]? = some (some e) → j = i ∨ plD e = true) : Sl (Γ.set i (some e)) σ (del H0 d) := by
  refine ⟨by rw [List.length_set]; exact s.len, fun j e' h => ?_⟩
  rw [List.getElem?_set] at h
  split at h
  · rename_i hij
    subst hij
    split at h
    · cases h; exact ⟨x, hx, he⟩
    · cases h
  · rename_i hij
    obtain ⟨v, h1, h2⟩ := s.at_ j e' h
    rcases hΓ j e' h with z | z
    · exact (hij z.symm).elim
    · exact ⟨v, h1, h2.del hd hu z⟩
def okΓ (Γ : En) (i : Nat) : Bool := (List.range Γ.length).all fun j => decide (j = i) || match Γ[j]? with
  | some (some e) => plD e
  | _ => true
theorem okΓ_of {Γ : En} {i : Nat} (h : okΓ Γ i = true) : ∀ j e, Γ[j]? = some (some e) → j = i ∨ plD e = true := fun j e he => by
  have hj : j < Γ.length := (List.getElem?_eq_some_iff.mp he).1
  have := List.all_eq_true.mp h j (List.mem_range.mpr hj)
  rw [he] at this
  simpa using this
/-- for k in d, the dict d a name's -/
theorem sw_lockK {i : Nat} {kvs : List (Int × D)} (hi : Γ[i]? = some (some (.ab (dictM kvs)))) (hΓ : okΓ Γ i = true) (hΩ : (Ω.map (·.2)).all plO = true)
    (h : ∀ (d : Addr) (ws : List (Key × V)) (od : Obj), ws.map (·.1) = kvs.map (fun q => Sum.inl q.1) → SW t (Γ.set i (some (.loc d))) (Ω ++ [(d, .raw (.frz od (.dK ws)))])
      { nx := fun Γ2 Ω2 => ∃ j : Nat, Ω2[j]? = some (d, .raw (.frz od (.dK ws))) ∧ Γ2[i]? = some (some (.loc d)) ∧ Φ.nx (Γ2.set i (some (.ab (dictM kvs)))) (Ω2.eraseIdx j) }) : SW (tLock t) Γ Ω Φ := fun σ H0 H W s gh r => by
  obtain ⟨v, hv, p, ws, rfl, hp, hk, hr⟩ := s.at_ i _ hi
  refine ⟨p, .dK ws, gh.ex _ _ hp, trivial, fun od => ?_⟩
  refine h p ws od hk σ (del H0 p) _ _ (s.del hp trivial hv (e := .loc p) rfl (okΓ_of hΓ)) (gh.lock hp trivial hΩ od) ⟨?_, fun _ _ _ _ _ h => h.elim, fun _ _ _ _ _ h => h.elim, fun _ _ _ _ _ h => h.elim⟩
  rintro σ' Γ' Ω' H0' H' ⟨j, hj, hi', q⟩ s' g' c'
  obtain ⟨h1, h2, h3⟩ := gh.unlock hp g' c' hj
  refine ⟨h1, r.nx σ' _ _ _ _ q ⟨by rw [List.length_set]; exact s'.len, fun k e he => ?_⟩ h2 h3⟩
  have ex0 : Same H0' (upd H0' p (.dK ws)) := fun b o e => by rw [upd_ne (ne_of_none e (g'.get hj).1)]; exact e
  rw [List.getElem?_set] at he
  split at he
  · rename_i e1
    subst e1
    split at he
    · cases he
      obtain ⟨v, e1, e2⟩ := s'.at_ i _ hi'
      cases (show v = .ref p from e2)
      exact ⟨_, e1, p, ws, rfl, upd_same, hk, hr.mono h3.ex⟩
    · cases he
  · exact (s'.mono ex0).at_ k e he
/-- the loop over the keys of a locked dict -/
theorem sw_forK {d : Addr} {od : Obj} {ws : List (Key × V)} {ns : List Int} (h : EvD td Γ Ω (.loc d)) {j0 : Nat} (hj : Ω[j0]? = some (d, .raw (.frz od (.dK ws)))) (hk : ws.map (·.1) = ns.map Sum.inl) (J : Nat → En → Om → Prop) (h0 : J 0 Γ Ω)
    (hs : ∀ i n Γ' Ω', ns[i]? = some n → J i Γ' Ω' → (∃ j : Nat, Ω'[j]? = some (d, .raw (.frz od (.dK ws)))) ∧ TgW g (I n) Γ' Ω' fun Γ2 Ω2 => SW t Γ2 Ω2 { Φ with nx := J (i + 1), ct := J (i + 1), bk := Φ.nx }) (hd : ∀ Γ' Ω', J ns.length Γ' Ω' → (∃ j : Nat, Ω'[j]? = some (d, .raw (.frz od (.dK ws)))) ∧ Φ.nx Γ' Ω') : SW (tFor (iKeys td) g t) Γ Ω Φ := fun σ H0 H W s gh r =>
  h.bind s gh fun v H01 H1 s1 g1 c1 r1 => by
    cases (show v = .ref d from r1)
    have r' := r.step c1 g1.ex
    obtain ⟨_, o, hp, ho, _⟩ := g1.get hj
    obtain rfl : o = _ := ho
    have hl : ws.length = ns.length := by simpa using congrArg List.length hk
    refine ⟨d, od, rfl, .inl ⟨ws, hp, for_it walk_keys (fun i σ' H' => ∃ Γ' Ω' H0', J i Γ' Ω' ∧ Sl Γ' σ' H0' ∧ Hs Ω' H0' H' ∧ Step Ω Ω' H01 H1 H0' H' ∧ H' d = some (.frz od (.dK ws))) ⟨Γ, Ω, H01, h0, s1, g1, .refl _ _ _, hp⟩ (fun i σ' H' _ ⟨_, _, _, _, _, _, _, e⟩ => e) ?_ ?_⟩⟩
    · rintro i x σ' H' H'' hi ⟨Γ', Ω', H0', j, s', g', c', e⟩ ⟨rfl, k, v, hkv, rfl⟩
      have hn : ∃ n, ns[i]? = some n ∧ k = Sum.inl n := by
        have e1 : (ws.map (·.1))[i]? = some k := by rw [List.getElem?_map, hkv]; rfl
        rw [hk, List.getElem?_map] at e1
        cases en : ns[i]? with
        | none => rw [en] at e1; cases e1
        | some n => rw [en] at e1; cases e1; exact ⟨n, rfl, rfl⟩
      obtain ⟨n, hn, rfl⟩ := hn
      obtain ⟨hin, q⟩ := hs i n Γ' Ω' hn j
      refine q σ' H0' H'' (kV (Sum.inl n)) _ s' g' (Rp.int n) fun σ2 Γ2 Ω2 H02 H2 q2 s2 g2 c2 => ?_
      refine q2 σ2 H02 H2 _ s2 g2 ?_
      have c3 := c'.trans c2 g'.ex
      have fin : ∀ {σ3 Γ3 Ω3 H03 H3}, J (i + 1) Γ3 Ω3 → Sl Γ3 σ3 H03 → Hs Ω3 H03 H3 → Step Ω2 Ω3 H02 H2 H03 H3 → ∃ Γ' Ω' H0', J (i + 1) Γ' Ω' ∧ Sl Γ' σ3 H0' ∧ Hs Ω' H0' H3 ∧ Step Ω Ω' H01 H1 H0' H3 ∧ H3 d = some (.frz od (.dK ws)) := by
        intro σ3 Γ3 Ω3 H03 H3 q3 s3 g3 c4
        refine ⟨Γ3, Ω3, H03, q3, s3, g3, c3.trans c4 g2.ex, ?_⟩
        have : ∃ j : Nat, Ω3[j]? = some (d, .raw (.frz od (.dK ws))) := by
          by_cases hlt : i + 1 < ns.length
          · exact (hs (i + 1) ns[i + 1] Γ3 Ω3 (List.getElem?_eq_getElem hlt) q3).1
          · have e3 : i + 1 = ns.length := by omega
            rw [e3] at q3
            exact (hd Γ3 Ω3 q3).1
        obtain ⟨j3, hj3⟩ := this
        obtain ⟨_, o, hp3, ho, _⟩ := g3.get hj3
        obtain rfl : o = _ := ho
        exact hp3
      exact ⟨fun σ3 Γ3 Ω3 H03 H3 q3 s3 g3 c4 => fin q3 s3 g3 c4, fun v d Ω3 H03 H3 q3 r3 g3 c4 => r'.rt v d Ω3 H03 H3 q3 r3 g3 (c3.trans c4 g2.ex),
        fun σ3 Γ3 Ω3 H03 H3 q3 s3 g3 c4 => r'.nx σ3 Γ3 Ω3 H03 H3 q3 s3 g3 (c3.trans c4 g2.ex), fun σ3 Γ3 Ω3 H03 H3 q3 s3 g3 c4 => fin q3 s3 g3 c4⟩
    · rintro σ' H' ⟨Γ', Ω', H0', j, s', g', c', e⟩
      rw [hl] at j
      exact r'.nx σ' Γ' Ω' H0' H' (hd _ _ j).2 s' g' c'
/-- one's own dict read -/
def atD {κ α : Type} [DecidableEq κ] (kvs : List (κ × α)) (k : κ) : Option α := (kvs.find? fun kv => decide (kv.1 = k)).map (·.2)
theorem valV_getK {κ : Type} [DecidableEq κ] {H : Hp} {k : κ} {d : D} : ∀ {ws : List (κ × V)} {kvs : List (κ × D)}, ws.map (·.1) = kvs.map (·.1) → RqL H (ws.map (·.2)) (kvs.map (·.2)) → atD kvs k = some d → ∃ x, valV ws k = some x ∧ Rq H x d
  | [], [], _, _, h => by cases h
  | [], _ :: _, h, _, _ => by simp at h
  | _ :: _, [], h, _, _ => by simp at h
  | a :: ws, b :: kvs, h, r, hl => by
    simp only [List.map_cons, List.cons.injEq] at h
    cases r with
    | cons r1 r2 =>
      unfold atD at hl
      by_cases e : b.1 = k
      · rw [List.find?_cons, decide_eq_true e] at hl
        cases hl
        exact ⟨a.2, valV_pos (h.1.trans e), r1⟩
      · rw [List.find?_cons, decide_eq_false e] at hl
        rw [valV_neg (fun z => e (h.1.symm.trans z))]
        exact valV_getK h.2 r2 hl
theorem ev_dgetO {j : Nat} {p : Addr} {i : Int} {d : D} {kvs : List (Key × D)} (ha : EvD ta Γ Ω (.loc p)) (hb : EvD tb Γ Ω (I i)) (hj : Ω[j]? = some (p, .dk kvs)) (h : atD kvs (.inl i) = some d) : EvD (tDGet ta tb) Γ Ω d := fun Q q σ H0 H R s g k =>
  ha.bind s g fun v H01 H1 s1 g1 c1 r1 => hb.bind s1 g1 fun u H02 H2 s2 g2 c2 r2 => by
    cases (show v = .ref p from r1)
    cases r2
    obtain ⟨_, o, hp, ws, rfl, hk, rv⟩ := g2.get hj
    obtain ⟨x, e1, e2⟩ := valV_getK hk rv h
    exact ⟨p, x, rfl, .inl ⟨ws, .inl i, .inl hp, rfl, e1.symm⟩, k x d Ω H02 H2 q g2 (c1.trans c2 g1.ex) e2⟩
theorem ev_dgetOT {j : Nat} {p : Addr} {a b : Int} {d : D} {kvs : List (List Key × D)} (ha : EvD ta Γ Ω (.loc p)) (hb : EvD tb Γ Ω (.py (.tuple [.int a, .int b]))) (hj : Ω[j]? = some (p, .dt kvs)) (h : atD kvs (pairK (a, b)) = some d) : EvD (tDGet ta tb) Γ Ω d := fun Q q σ H0 H R s g k =>
  ha.bind s g fun v H01 H1 s1 g1 c1 r1 => hb.bind s1 g1 fun u H02 H2 s2 g2 c2 r2 => by
    cases (show v = .ref p from r1)
    obtain ⟨b', rfl, hb'⟩ := rp_pair r2
    obtain ⟨_, o, hp, ws, rfl, hk, rv⟩ := g2.get hj
    obtain ⟨x, e1, e2⟩ := valV_getK hk rv h
    exact ⟨p, x, rfl, .inr ⟨ws, pairK (a, b), b', .inl hp, rfl, g2.ex _ _ hb', e1.symm⟩, k x d Ω H02 H2 q g2 (c1.trans c2 g1.ex) e2⟩
/-- put, whatever the key -/
def putD {κ α : Type} [DecidableEq κ] (kvs : List (κ × α)) (k : κ) (v : α) : List (κ × α) :=
  if (kvs.any fun kv => decide (kv.1 = k)) = true then kvs.map (fun kv => if kv.1 = k then (kv.1, v) else kv) else kvs ++ [(k, v)]
theorem any_keys {κ α β : Type} [DecidableEq κ] {k : κ} : ∀ {ws : List (κ × α)} {kvs : List (κ × β)}, ws.map (·.1) = kvs.map (·.1) → (ws.any fun q => decide (q.1 = k)) = (kvs.any fun q => decide (q.1 = k))
  | [], [], _ => rfl
  | [], _ :: _, h => by simp at h
  | _ :: _, [], h => by simp at h
  | a :: ws, b :: kvs, h => by
    simp only [List.map_cons, List.cons.injEq] at h
    rw [List.any_cons, List.any_cons, h.1, any_keys h.2]
theorem putD_keys {κ α β : Type} [DecidableEq κ] {k : κ} {x : α} {y : β} {ws : List (κ × α)} {kvs : List (κ × β)} (h : ws.map (·.1) = kvs.map (·.1)) : (putD ws k x).map (·.1) = (putD kvs k y).map (·.1) := by
  unfold putD
  rw [any_keys h]
  split
  · rw [List.map_map, List.map_map]
    have e : ∀ {γ : Type} (z : γ) (l : List (κ × γ)), l.map ((fun kv => kv.1) ∘ fun kv => if kv.1 = k then (kv.1, z) else kv) = l.map (·.1) := fun z l => List.map_congr_left fun q _ => by
      show (if q.1 = k then (q.1, z) else q).1 = q.1
      split <;> rfl
    rw [e, e, h]
  · rw [List.map_append, List.map_append, h]; rfl
theorem putD_vals {κ : Type} [DecidableEq κ] {H : Hp} {k : κ} {v : V} {d : D} (rd : Rq H v d) : ∀ {ws : List (κ × V)} {kvs : List (κ × D)}, ws.map (·.1) = kvs.map (·.1) → RqL H (ws.map (·.2)) (kvs.map (·.2)) → RqL H ((putD ws k v).map (·.2)) ((putD kvs k d).map (·.2)) := by
  intro ws kvs h r
  unfold putD
  rw [any_keys h]
  split
  · rw [List.map_map, List.map_map]
    have : ∀ {ws : List (κ × V)} {kvs : List (κ × D)}, ws.map (·.1) = kvs.map (·.1) → RqL H (ws.map (·.2)) (kvs.map (·.2)) → RqL H (ws.map ((fun kv => kv.2) ∘ fun kv => if kv.1 = k then (kv.1, v) else kv)) (kvs.map ((fun kv => kv.2) ∘ fun kv => if kv.1 = k then (kv.1, d) else kv)) := by
      intro ws
      induction ws with
      | nil => intro kvs h r; cases kvs with
        | nil => exact .nil
        | cons => simp at h
      | cons a ws ih => intro kvs h r; cases kvs with
        | nil => simp at h
        | cons b kvs =>
          simp only [List.map_cons, List.cons.injEq] at h
          cases r with
          | cons r1 r2 =>
            refine .cons ?_ (ih h.2 r2)
            show Rq H (if a.1 = k then (a.1, v) else a).2 (if b.1 = k then (b.1, d) else b).2
            rw [h.1]
            split
            · exact rd
            · exact r1
    exact this h r
  · rw [List.map_append, List.map_append]
    exact Paired.snoc r rd
theorem sw_putT {j : Nat} {p : Addr} {a b : Int} {d : D} {kvs : List (List Key × D)} (hv : EvD tv Γ Ω d) (ho : EvD td Γ Ω (.loc p)) (hi : EvD ty Γ Ω (.py (.tuple [.int a, .int b]))) (hj : Ω[j]? = some (p, .dt kvs)) (hz : kvs.length < 100000)
    (q : Φ.nx Γ (Ω.set j (p, .dt (putD kvs (pairK (a, b)) d)))) : SW (sDPut td ty tv) Γ Ω Φ := fun σ H0 H W s g r =>
  hv.bind s g fun v H01 H1 s1 g1 c1 r1 => ho.bind s1 g1 fun x H02 H2 s2 g2 c2 r2 => hi.bind s2 g2 fun y H03 H3 s3 g3 c3 r3 => by
    cases (show x = .ref p from r2)
    obtain ⟨b', rfl, hb⟩ := rp_pair r3
    obtain ⟨_, o, hp, ws, rfl, hk, rv⟩ := g3.get hj
    have hl : ws.length = kvs.length := by simpa using congrArg List.length hk
    obtain ⟨g4, c4⟩ := g3.put hj (o := .dT (putK ws (pairK (a, b)) v)) (w' := .dt (putD kvs (pairK (a, b)) d)) ⟨_, rfl, putD_keys hk, putD_vals (r1.mono (c2.ex.trans c3.ex)) hk rv⟩
    exact ⟨p, _, rfl, DPut.t (k := pairK (a, b)) (v := v) hp (g3.ex _ _ hb) (by rw [hl]; exact Nat.lt_of_lt_of_le hz (by decide)), r.nx σ Γ _ H03 _ q s3 g4 (((c1.trans c2 g1.ex).trans c3 g2.ex).trans c4 g3.ex)⟩
/-- d[k] = {} in one's own dict, the key new -/
theorem sw_dputKn {j : Nat} {p : Addr} {i : Int} {kvs : List (Key × D)} (ho : ∀ Ω', EvD td Γ Ω' (.loc p)) (hi : ∀ Ω', EvD ty Γ Ω' (I i)) (hj : Ω[j]? = some (p, .dk kvs)) (new : (Sum.inl i : Key) ∉ kvs.map (·.1)) (hz : kvs.length < 100000)
    (q : ∀ c, Φ.nx Γ ((Ω.set j (p, .dk (kvs ++ [(.inl i, .loc c)]))) ++ [(c, .dk [])])) : SW (sDPut td ty tDNewK) Γ Ω Φ := fun σ H0 H W s g r => by
  refine (ev_ownK (Γ := Γ) (Ω := Ω) (Q := fun d Ω1 => ∃ c, d = .loc c ∧ Ω1 = Ω ++ [(c, .dk [])]) fun c => ⟨c, rfl, rfl⟩).bind s g fun v d0 Ω1 H01 H1 q1 s1 g1 c1 r1 => ?_
  obtain ⟨c, rfl, rfl⟩ := q1
  have hlt : j < Ω.length := (List.getElem?_eq_some_iff.mp hj).1
  have hj' : (Ω ++ [(c, Own.dk [])])[j]? = some (p, .dk kvs) := by rw [List.getElem?_append_left hlt]; exact hj
  have := sw_dputK (tv := tC v) (td := td) (ty := ty) (Φ := Φ) (d := .loc c) (Ω := Ω ++ [(c, .dk [])]) (fun Q q σ' H0' H' R s' g' k => k v _ _ H0' H' q g' (.refl _ _ _) r1) (ho _) (hi _) hj' new hz (by
    have e : (Ω ++ [(c, Own.dk [])]).set j (p, .dk (kvs ++ [(Sum.inl i, .loc c)])) = (Ω.set j (p, .dk (kvs ++ [(Sum.inl i, .loc c)]))) ++ [(c, .dk [])] := List.set_append_left _ _ hlt
    rw [e]; exact q c)
  exact this σ H01 H1 W s1 g1 (r.step c1 g1.ex)
/-- all that is one's own freezes at once; the name i holds M -/
theorem sw_frzA {i : Nat} {p : Addr} (M : Mono) (hi : Γ[i]? = some (some (.loc p))) (hM : ∀ H0 H, Same H0 H → (∀ q ∈ Ω, ∃ o, H q.1 = some o ∧ OwnOk H0 o q.2) → M.P H (.ref p)) (q : SW t (Γ.set i (some (.ab M))) [] Φ) : SW t Γ Ω Φ := fun σ H0 H W s g r => by
  classical
  let H1 : Hp := fun a => if a ∈ Ω.map (·.1) then H a else H0 a
  have e01 : Same H0 H1 := fun a o h => by
    show (if a ∈ Ω.map (·.1) then H a else H0 a) = some o
    split
    · exact g.ex a o h
    · exact h
  have e1 : Same H1 H := fun a o h => by
    have h' : (if a ∈ Ω.map (·.1) then H a else H0 a) = some o := h
    split at h'
    · exact h'
    · exact g.ex a o h'
  have s1 := s.mono e01
  refine q σ H1 H W ⟨by rw [List.length_set]; exact s.len, fun k d h => ?_⟩ ⟨e1, fun q hq => (by cases hq), List.nodup_nil⟩ (r.step ⟨e01, fun a o h ha => ⟨h, fun h0 _ => ?_⟩, fun a ha => (by cases ha)⟩ e1)
  · rw [List.getElem?_set] at h
    split at h
    · rename_i e
      subst e
      split at h
      · cases h
        obtain ⟨v, e1', e2⟩ := s1.at_ i _ hi
        cases (show v = .ref p from e2)
        refine ⟨_, e1', hM H0 H1 e01 fun q hq => ?_⟩
        obtain ⟨_, o, h2, h3⟩ := g.own q hq
        exact ⟨o, by show (if q.1 ∈ Ω.map (·.1) then H q.1 else H0 q.1) = some o; rw [if_pos (List.mem_map_of_mem hq)]; exact h2, h3⟩
      · cases h
    · exact s1.at_ k d h
  · show (if a ∈ Ω.map (·.1) then H a else H0 a) = none
    rw [if_neg ha]; exact h0
end
end G
end

section
set_option Elab.async false
set_option linter.all false
set_option maxRecDepth 100000
set_option maxHeartbeats 4000000
namespace G
open PySem L2
section
variable {Γ : En} {Ω : Om} {te ta tb tc tl td tv ty : TE} {tt tu : TT} {t u : TS} {Φ : Po} {g : TG} {gs : TGs}
/-! ### comprehensions whose turns may do things -/
theorem lcw_turn {Ω1 : Om} {vs : List Nat} {d : D} {σ : St} {H0 H : Hp} {v : V} {Dd : Addr} {acc : List D} {Nx : Hp → Prop} {J : List D → Om → Prop} (ok : TgOk g vs) (hl : acc.length < 100000)
    (hb : TgW g d (wipeG Γ vs) Ω1 fun Γ2 Ω2 => TsW tt Γ2 Ω2 fun b Ω3 => if b = true then EvW te Γ2 Ω3 fun y Ω4 => J (acc ++ [y]) Ω4 else J acc Ω3)
    (s : Sl Γ σ H0) (gh : Hs (Ω1 ++ [(Dd, .lst acc)]) H0 H) (r : Rq H0 v d)
    (k : ∀ acc' Ω' H0' H', J acc' Ω' → Sl Γ σ H0' → Hs (Ω' ++ [(Dd, .lst acc')]) H0' H' → Step (Ω1 ++ [(Dd, .lst acc)]) (Ω' ++ [(Dd, .lst acc')]) H0 H H0' H' → Nx H') :
    g v (L2.wipe σ vs) H fun σ2 H2 => L2.wipe σ2 vs = L2.wipe σ vs ∧ tt σ2 H2 fun b H3 =>
      if b = true then te σ2 H3 fun y H4 => ∃ ac, H4 Dd = some (.lst ac) ∧ ac.length < sizeLine ∧ Nx (upd H4 Dd (.lst (ac ++ [y]))) else Nx H3 := by
  have ww : L2.wipe (L2.wipe σ vs) vs = L2.wipe σ vs := by
    apply List.ext_getElem?
    intro j
    rw [wipe_get, wipe_get]
    split
    · rw [Option.map_map]; rfl
    · rfl
  have q := hb (L2.wipe σ vs) H0 H v (fun σ2 H2 => tt σ2 H2 fun b H3 =>
      if b = true then te σ2 H3 fun y H4 => ∃ ac, H4 Dd = some (.lst ac) ∧ ac.length < sizeLine ∧ Nx (upd H4 Dd (.lst (ac ++ [y]))) else Nx H3) (s.wipe vs) gh.left r (by
    rintro σ2 Γ2 Ω2 H02 H2 h1 s2 g2 c2
    obtain ⟨f2, d2⟩ := G.frame (Ω := Ω1) (Ωr := [(Dd, .lst acc)]) gh g2 c2
    refine h1 σ2 H02 H2 _ s2 g2 fun b Ω3 H03 H3 h2 g3 c3 => ?_
    obtain ⟨f3, d3⟩ := G.frame (Ω := Ω2) (Ωr := [(Dd, .lst acc)]) f2 g3 c3
    have d23 := d2.trans d3 f2.ex
    cases b with
    | false =>
      rw [if_neg Bool.false_ne_true] at h2 ⊢
      exact k acc Ω3 H03 H3 h2 (s.mono d23.ex) f3 d23
    | true =>
      rw [if_pos rfl] at h2 ⊢
      refine h2 σ2 H03 H3 _ (s2.mono c3.ex) g3 fun v4 y Ω4 H04 H4 h4 g4 c4 r4 => ?_
      obtain ⟨f4, d4⟩ := G.frame (Ω := Ω3) (Ωr := [(Dd, .lst acc)]) f3 g4 c4
      have d34 := d23.trans d4 f3.ex
      have hj : (Ω4 ++ [(Dd, Own.lst acc)])[Ω4.length]? = some (Dd, .lst acc) := by simp
      obtain ⟨_, o, hp, ws, rfl, rv⟩ := f4.get hj
      refine ⟨ws, hp, by rw [Paired.length rv]; exact Nat.lt_of_lt_of_le hl (by decide), ?_⟩
      obtain ⟨g5, c5⟩ := f4.put hj (o := .lst (ws ++ [v4])) (w' := .lst (acc ++ [y])) ⟨_, rfl, Paired.snoc rv r4⟩
      have es : (Ω4 ++ [(Dd, Own.lst acc)]).set Ω4.length (Dd, .lst (acc ++ [y])) = Ω4 ++ [(Dd, .lst (acc ++ [y]))] := by simp
      rw [es] at g5 c5
      exact k (acc ++ [y]) Ω4 H04 _ h4 (s.mono d34.ex) g5 (d34.trans c5 f4.ex))
  have q' := ok v _ H _ q
  rw [ww] at q'
  exact q'
/-- the loop of a comprehension over whatever is walked -/
theorem lcw {Ji : It} {n : Nat} {Gh : Hp → Prop} {Y : Nat → Hp → V → Hp → Prop} (w : Walk Ji n Gh Y) {vs : List Nat} (items : Nat → Option D) (ok : TgOk g vs) (J : Nat → List D → Om → Prop) {σ : St} {H01 H1 : Hp} {Dd : Addr} {R : VK} (hD : H1 Dd = none)
    (s1 : Sl Γ σ H01) (g1 : Hs Ω H01 H1) (j0 : J 0 [] Ω)
    (hG : ∀ i acc Ω' H0' H', i ≤ n → J i acc Ω' → Hs (Ω' ++ [(Dd, .lst acc)]) H0' H' → Same H01 H0' → Gh H')
    (hY : ∀ i acc Ω' H0' H' x H'', i < n → J i acc Ω' → Hs (Ω' ++ [(Dd, .lst acc)]) H0' H' → Same H01 H0' → Y i H' x H'' → H'' = H' ∧ ∃ d, items i = some d ∧ Rq H0' x d)
    (hb : ∀ i d acc Ω', i < n → items i = some d → J i acc Ω' → acc.length < 100000 ∧ TgW g d (wipeG Γ vs) Ω' fun Γ2 Ω2 => TsW tt Γ2 Ω2 fun b Ω3 => if b = true then EvW te Γ2 Ω3 fun y Ω4 => J (i + 1) (acc ++ [y]) Ω4 else J (i + 1) acc Ω3)
    (hd : ∀ acc Ω' H0' H', J n acc Ω' → Hs (Ω' ++ [(Dd, .lst acc)]) H0' H' → Step Ω (Ω' ++ [(Dd, .lst acc)]) H01 H1 H0' H' → R (.ref Dd) H') :
    ∃ W : Nat → Nat → Hp → Prop, (∃ m, W 0 m (upd H1 Dd (.lst []))) ∧ ∀ i m H, W i m H →
      (Ji.stop i H ∧ R (.ref Dd) H) ∨ (Ji.go i H ∧ ∃ Nx : Hp → Prop, (∀ H', Nx H' → ∃ m', m' < m ∧ W (i + 1) m' H') ∧ ∀ x H', Ji.yld i H x H' → g x (wipe σ vs) H' fun σ2 H2 => wipe σ2 vs = wipe σ vs ∧ tt σ2 H2 fun b H3 =>
        if b = true then te σ2 H3 fun y H4 => ∃ acc, H4 Dd = some (.lst acc) ∧ acc.length < sizeLine ∧ Nx (upd H4 Dd (.lst (acc ++ [y]))) else Nx H3) := by
  obtain ⟨g2, c2⟩ := g1.new hD (o := .lst []) (w := .lst []) ⟨[], rfl, .nil⟩
  refine lc_it w (fun i H' => ∃ acc Ω' H0', J i acc Ω' ∧ Sl Γ σ H0' ∧ Hs (Ω' ++ [(Dd, .lst acc)]) H0' H' ∧ Step Ω (Ω' ++ [(Dd, .lst acc)]) H01 H1 H0' H')
    ⟨[], Ω, H01, j0, s1, g2, c2⟩ (fun i H' hi ⟨acc, Ω', H0', j, s', g', c'⟩ => hG i acc Ω' H0' H' hi j g' c'.ex) ?_ ?_
  · rintro i x H' H'' hi ⟨acc, Ω', H0', j, s', g', c'⟩ y
    obtain ⟨rfl, d, hd', rd⟩ := hY i acc Ω' H0' H' x H'' hi j g' c'.ex y
    obtain ⟨hl, q⟩ := hb i d acc Ω' hi hd' j
    refine lcw_turn (J := J (i + 1)) ok hl q s' g' rd fun acc' Ω'' H0'' H'' j' s'' g'' c'' => ⟨acc', Ω'', H0'', j', s'', g'', c'.trans c'' g'.ex⟩
  · rintro H' ⟨acc, Ω', H0', j, s', g', c'⟩
    exact hd acc Ω' H0' H' j g' c'
/-- over a range -/
theorem ev_lcRW {ta : TA} {vs : List Nat} {Q : D → Om → Prop} (n : Nat) (J : Nat → List D → Om → Prop) (hi : ArD ta Γ Ω [I (n : Int)]) (ok : TgOk g vs) (hz : n < 100000) (j0 : J 0 [] Ω)
    (hb : ∀ i acc Ω', i < n → J i acc Ω' → acc.length < 100000 ∧ TgW g (I (i : Int)) (wipeG Γ vs) Ω' fun Γ2 Ω2 => TsW tt Γ2 Ω2 fun b Ω3 => if b = true then EvW te Γ2 Ω3 fun y Ω4 => J (i + 1) (acc ++ [y]) Ω4 else J (i + 1) acc Ω3)
    (q : ∀ l acc Ω', J n acc Ω' → Q (.loc l) (Ω' ++ [(l, .lst acc)])) : EvW (tLc (iRng1 ta) g tt te vs) Γ Ω Q := fun σ H0 H R s gh k =>
  hi.bind s gh fun vs' H01 H1 s1 g1 c1 r1 => by
    obtain ⟨v, rfl, rr1⟩ := rq1 r1
    cases rr1
    have hn : (n : Int).toNat = n := by omega
    refine ⟨n, rfl, by omega, by omega, fun Dd hD => ?_⟩
    rw [hn]
    exact lcw (walk_range (lo := 0)) (fun i => some (I (i : Int))) ok J hD s1 g1 j0 (fun _ _ _ _ _ _ _ _ _ => trivial) (fun i acc Ω' H0' H' x H'' hi j g' c' y => by
      obtain ⟨rfl, rfl⟩ := y
      have e0 : (0 : Int) + (i : Nat) = (i : Nat) := by omega
      exact ⟨rfl, _, rfl, by show Rp H0' (V.int (0 + (i : Nat))) (.int (i : Nat)); rw [e0]; exact .int _⟩) (fun i d acc Ω' hi hd j => by cases hd; exact hb i acc Ω' hi j) fun acc Ω' H0' H' j g' c' => k _ _ _ _ _ (q Dd acc Ω' j) g' (c1.trans c' g1.ex) rfl
/-- over a frozen list -/
theorem ev_lcLW {K : PySem.W.Frag} {vs : List Nat} {Q : D → Om → Prop} (xs : List PyData) (J : Nat → List D → Om → Prop) (hi : EvD tl Γ Ω (.py (.list xs))) (ok : TgOk g vs) (hz : xs.length < 100000) (j0 : J 0 [] Ω)
    (hb : ∀ i d acc Ω', xs[i]? = some d → J i acc Ω' → acc.length < 100000 ∧ TgW g (.py d) (wipeG Γ vs) Ω' fun Γ2 Ω2 => TsW tt Γ2 Ω2 fun b Ω3 => if b = true then EvW te Γ2 Ω3 fun y Ω4 => J (i + 1) (acc ++ [y]) Ω4 else J (i + 1) acc Ω3)
    (q : ∀ l acc Ω', J xs.length acc Ω' → Q (.loc l) (Ω' ++ [(l, .lst acc)])) : EvW (tLc (iList K tl) g tt te vs) Γ Ω Q := fun σ H0 H R s gh k =>
  hi.bind s gh fun v H01 H1 s1 g1 c1 r1 => by
    cases r1 with
    | lst h1 rr =>
      rename_i a ws
      refine ⟨a, rfl, ⟨ws, SqL.of (g1.ex _ _ h1)⟩, fun Dd hD => ?_⟩
      have hl : ws.length = xs.length := rr.length
      refine lcw (walk_list (K := K) (a := a) (xs := ws)) (fun i => (xs[i]?).map D.py) ok J hD s1 g1 j0 (fun i acc Ω' H0' H' hi j g' c' => SqL.of (g'.ex _ _ (c' _ _ h1))) (fun i acc Ω' H0' H' x H'' hi j g' c' y => ?_) (fun i d acc Ω' hi hd j => ?_) fun acc Ω' H0' H' j g' c' => k _ _ _ _ _ (q Dd acc Ω' (hl ▸ j)) g' (c1.trans c' g1.ex) rfl
      · obtain ⟨rfl, y⟩ := y
        obtain ⟨d, hd, rd⟩ := rr.getV y
        exact ⟨rfl, .py d, by rw [hd]; rfl, rd.mono c'⟩
      · cases e : xs[i]? with
        | none => rw [e] at hd; cases hd
        | some b => rw [e] at hd; cases hd; exact hb i b acc Ω' e j
/-- over an own list that stays as it is -/
theorem ev_lcOW {K : PySem.W.Frag} {vs : List Nat} {Q : D → Om → Prop} {p : Addr} (xs : List D) (J : Nat → List D → Om → Prop) (hi : EvD tl Γ Ω (.loc p)) (hj : ∃ j : Nat, Ω[j]? = some (p, .lst xs)) (ok : TgOk g vs) (hz : xs.length < 100000) (j0 : J 0 [] Ω)
    (hJ : ∀ i acc Ω', J i acc Ω' → ∃ j : Nat, Ω'[j]? = some (p, .lst xs))
    (hb : ∀ i d acc Ω', xs[i]? = some d → J i acc Ω' → acc.length < 100000 ∧ TgW g d (wipeG Γ vs) Ω' fun Γ2 Ω2 => TsW tt Γ2 Ω2 fun b Ω3 => if b = true then EvW te Γ2 Ω3 fun y Ω4 => J (i + 1) (acc ++ [y]) Ω4 else J (i + 1) acc Ω3)
    (q : ∀ l acc Ω', J xs.length acc Ω' → Q (.loc l) (Ω' ++ [(l, .lst acc)])) : EvW (tLc (iList K tl) g tt te vs) Γ Ω Q := fun σ H0 H R s gh k =>
  hi.bind s gh fun v H01 H1 s1 g1 c1 r1 => by
    cases (show v = .ref p from r1)
    obtain ⟨j1, hj1⟩ := hj
    obtain ⟨_, o, hp, ws, rfl, rv⟩ := g1.get hj1
    have hl : ws.length = xs.length := Paired.length rv
    have at_ : ∀ {acc : List D} {Ω' : Om} {Dd : Addr} {H0' H' : Hp}, (∃ j : Nat, Ω'[j]? = some (p, .lst xs)) → Hs (Ω' ++ [(Dd, .lst acc)]) H0' H' → ∃ us, H' p = some (.lst us) ∧ RqL H0' us xs := by
      intro acc Ω' Dd H0' H' ⟨j, hj⟩ g'
      obtain ⟨_, o, hp, us, rfl, ru⟩ := g'.left.get hj
      exact ⟨us, hp, ru⟩
    refine ⟨p, rfl, ⟨ws, SqL.of hp⟩, fun Dd hD => ?_⟩
    have w : Walk (Itl K p) xs.length (fun H => ∃ us, H p = some (.lst us) ∧ us.length = xs.length) (fun i H x H' => H' = H ∧ ∀ us, H p = some (.lst us) → us[i]? = some x) :=
      ⟨fun i H hi ⟨us, h1, h2⟩ => ⟨us, us[i]'(by omega), SqL.of h1, by simp [show i < us.length by omega]⟩, fun H ⟨us, h1, h2⟩ => ⟨us, SqL.of h1, by omega⟩, fun i H x H' hi ⟨us, h1, h2⟩ y => ⟨y.1, fun us' h' => y.2 us' (SqL.of h')⟩⟩
    refine lcw w (fun i => xs[i]?) ok J hD s1 g1 j0 (fun i acc Ω' H0' H' hi j g' c' => ?_) (fun i acc Ω' H0' H' x H'' hi j g' c' y => ?_) (fun i d acc Ω' hi hd j => hb i d acc Ω' hd j) fun acc Ω' H0' H' j g' c' => k _ _ _ _ _ (q Dd acc Ω' j) g' (c1.trans c' g1.ex) rfl
    · obtain ⟨us, h1, h2⟩ := at_ (hJ _ _ _ j) g'
      exact ⟨us, h1, Paired.length h2⟩
    · obtain ⟨us, h1, h2⟩ := at_ (hJ _ _ _ j) g'
      obtain ⟨rfl, y⟩ := y
      have hx := y us h1
      have : ∀ {vs : List V} {ds : List D}, RqL H0' vs ds → ∀ {i : Nat} {x : V}, vs[i]? = some x → ∃ d, ds[i]? = some d ∧ Rq H0' x d := by
        intro vs ds r
        induction r with
        | nil => intro i x e; simp at e
        | cons a _ ih =>
          intro i x e
          cases i with
          | zero => simp at e; subst e; exact ⟨_, rfl, a⟩
          | succ i =>
            obtain ⟨v, h1, h2⟩ := ih (i := i) (by simpa using e)
            exact ⟨v, by simpa using h1, h2⟩
      obtain ⟨d, e1, e2⟩ := this h2 hx
      exact ⟨rfl, d, e1, e2⟩
/-- .. over the keys of a locked dict, pure turns that may look at what is one's own -/
theorem ev_lcK {vs : List Nat} {d : Addr} {od : Obj} {ws : List (Key × V)} (ns : List Int) (p : Int → Bool) (f : Int → PyData) (hi : EvD td Γ Ω (.loc d)) {j0 : Nat} (hj : Ω[j0]? = some (d, .raw (.frz od (.dK ws)))) (hk : ws.map (·.1) = ns.map Sum.inl) (ok : TgOk g vs) (hz : ns.length < 100000)
    (hb : ∀ n ∈ ns, TgW g (I n) (wipeG Γ vs) Ω fun Γ2 Ω2 => Ω2 = Ω ∧ TsD tt Γ2 Ω (p n) ∧ (p n = true → EvD te Γ2 Ω (.py (f n)))) {Q : D → Om → Prop} (q : Q (.py (.list ((ns.filter p).map f))) Ω) : EvW (tLc (iKeys td) g tt te vs) Γ Ω Q := fun σ H0 H R s gh k =>
  hi.bind s gh fun v H01 H1 s1 g1 c1 r1 => by
    cases (show v = .ref d from r1)
    obtain ⟨_, o, hp, ho, _⟩ := g1.get hj
    obtain rfl : o = _ := ho
    have hl : ws.length = ns.length := by simpa using congrArg List.length hk
    refine ⟨d, od, rfl, .inl ⟨ws, hp, fun Dd hD => ?_⟩⟩
    have at_ : ∀ {acc : List D} {H0' H' : Hp}, Hs (Ω ++ [(Dd, .lst acc)]) H0' H' → H' d = some (.frz od (.dK ws)) := by
      intro acc H0' H' g'
      obtain ⟨_, o, hp, ho, _⟩ := g'.left.get hj
      obtain rfl : o = _ := ho
      exact hp
    refine lcw walk_keys (fun i => (ns[i]?).map I) ok (fun i acc Ω' => Ω' = Ω ∧ acc = (((ns.take i).filter p).map f).map D.py) hD s1 g1 ⟨rfl, rfl⟩ (fun i acc Ω' H0' H' hi ⟨e, _⟩ g' c' => ?_) (fun i acc Ω' H0' H' x H'' hi ⟨e, _⟩ g' c' y => ?_) (fun i e acc Ω' hi hd ⟨e1, e2⟩ => ?_) fun acc Ω' H0' H' ⟨e1, e2⟩ g' c' => ?_
    · subst e; exact at_ g'
    · obtain ⟨rfl, k, v, hkv, rfl⟩ := y
      have e1 : (ws.map (·.1))[i]? = some k := by rw [List.getElem?_map, hkv]; rfl
      rw [hk, List.getElem?_map] at e1
      cases en : ns[i]? with
      | none => rw [en] at e1; cases e1
      | some n => rw [en] at e1; cases e1; exact ⟨rfl, I n, rfl, Rp.int n⟩
    · subst e1
      subst e2
      cases en : ns[i]? with
      | none => rw [en] at hd; cases hd
      | some n =>
        rw [en] at hd
        cases hd
        refine ⟨Nat.lt_of_le_of_lt (fm_len ns i p f) hz, ?_⟩
        have h := hb n (List.mem_of_getElem? en)
        intro σ' H0' H' v' R' s' g' r' k'
        refine h σ' H0' H' v' R' s' g' r' fun σ2 Γ2 Ω2 H02 H2 ⟨e2, h1, h2⟩ s2 g2 c2 => k' σ2 Γ2 Ω2 H02 H2 ?_ s2 g2 c2
        subst e2
        refine h1 _ ?_
        rw [fm_next en]
        cases hp' : p n with
        | false => simp
        | true => simp only [if_true]; exact (h2 hp').w ⟨rfl, rfl⟩
    · subst e1
      subst e2
      rw [hl] at g' c'
      exact lc_end (K := ([] : PySem.W.Frag)) (σ := σ) ns p f g' c' fun v A0 A ga ca ra => k v _ _ A0 A q ga (c1.trans ca g1.ex) ra
/-- an expression under the lock of a dict of ints -/
def iiD (nb : List (Int × Int)) : HO := .dK (nb.map fun q => (Sum.inl q.1, .int q.2))
theorem iiM {H : Hp} {v : V} {nb : List (Int × Int)} (h : (dictM (nb.map fun q => (q.1, I q.2))).P H v) : ∃ p, v = .ref p ∧ H p = some (iiD nb) := by
  obtain ⟨p, ws, rfl, h1, h2, h3⟩ := h
  refine ⟨p, rfl, ?_⟩
  rw [h1]
  have : ∀ {ws : List (Key × V)} {nb : List (Int × Int)}, ws.map (·.1) = (nb.map fun q => (q.1, I q.2)).map (fun q => Sum.inl q.1) → RqL H (ws.map (·.2)) ((nb.map fun q => (q.1, I q.2)).map (·.2)) → ws = nb.map fun q => (Sum.inl q.1, .int q.2) := by
    intro ws
    induction ws with
    | nil => intro nb h r; cases nb with
      | nil => rfl
      | cons => simp at h
    | cons a ws ih => intro nb h r; cases nb with
      | nil => simp at h
      | cons b nb =>
        simp only [List.map_cons, List.cons.injEq] at h r
        cases r with
        | cons r1 r2 =>
          rw [ih h.2 r2]
          obtain ⟨a1, a2⟩ := a
          cases r1
          simp only [List.map_cons, List.cons.injEq, and_true]
          rw [← h.1]
  unfold iiD
  rw [this h2 h3]
theorem ev_lockE {Γ' : Addr → En} {nb : List (Int × Int)} {z : PyData} (hloc : ∀ σ H0, Sl Γ σ H0 → ∃ d, H0 d = some (iiD nb) ∧ Sl (Γ' d) σ (del H0 d)) (hΩ : (Ω.map (·.2)).all plO = true)
    (h : ∀ d od, EvW te (Γ' d) (Ω ++ [(d, .raw (.frz od (iiD nb)))]) fun x Ω2 => x = .py z ∧ Ω2 = Ω ++ [(d, .raw (.frz od (iiD nb)))]) : EvD (tLockE te) Γ Ω (.py z) := fun Q q σ H0 H R s gh k => by
  obtain ⟨d, hd, s'⟩ := hloc σ H0 s
  refine ⟨d, iiD nb, gh.ex _ _ hd, trivial, fun od => ?_⟩
  refine h d od σ (del H0 d) _ _ s' (gh.lock hd trivial hΩ od) fun v x Ω2 H0' H' ⟨e1, e2⟩ g' c' r' => ?_
  subst e1 e2
  have hj : (Ω ++ [(d, Own.raw (.frz od (iiD nb)))])[Ω.length]? = some (d, .raw (.frz od (iiD nb))) := by simp
  obtain ⟨h1, h2, h3⟩ := gh.unlock hd g' c' hj
  have es : (Ω ++ [(d, Own.raw (.frz od (iiD nb)))]).eraseIdx Ω.length = Ω := by rw [List.eraseIdx_append_of_length_le (Nat.le_refl _)]; simp
  rw [es] at h2 h3
  have ex0 : Same H0' (upd H0' d (iiD nb)) := fun b o e => by rw [upd_ne (ne_of_none e (g'.get hj).1)]; exact e
  exact ⟨h1, k v _ Ω _ _ q h2 h3 (Rp.mono ex0 r')⟩
/-- a dict that holds the dict d at a -/
def oneM (a : Int) (d : Addr) : Mono where
  P H v := ∃ p ws, v = .ref p ∧ H p = some (.dK ws) ∧ valV ws (Sum.inl a) = some (.ref d)
  mono := fun e ⟨p, ws, h1, h2, h3⟩ => ⟨p, ws, h1, e _ _ h2, h3⟩
theorem ev_get1 {a : Int} {d : Addr} (ha : EvD ta Γ Ω (.ab (oneM a d))) (hb : EvD tb Γ Ω (I a)) : EvD (tDGet ta tb) Γ Ω (.loc d) := fun Q q σ H0 H R s g k =>
  ha.bind s g fun v H01 H1 s1 g1 c1 r1 => hb.bind s1 g1 fun u H02 H2 s2 g2 c2 r2 => by
    cases r2
    obtain ⟨p, ws, rfl, h2, h3⟩ := (oneM a d).mono c2.ex r1
    exact ⟨p, .ref d, rfl, .inl ⟨ws, .inl a, .inl (g2.ex _ _ h2), rfl, h3.symm⟩, k _ _ Ω H02 H2 q g2 (c1.trans c2 g1.ex) rfl⟩
theorem ev_getR {d : Addr} {od : Obj} {nb : List (Int × Int)} {i x : Int} {j : Nat} (ha : EvD ta Γ Ω (.loc d)) (hb : EvD tb Γ Ω (I i)) (hj : Ω[j]? = some (d, .raw (.frz od (iiD nb)))) (h : nb.lookup i = some x) : EvD (tDGet ta tb) Γ Ω (I x) := fun Q q σ H0 H R s g k =>
  ha.bind s g fun v H01 H1 s1 g1 c1 r1 => hb.bind s1 g1 fun u H02 H2 s2 g2 c2 r2 => by
    cases (show v = .ref d from r1)
    cases r2
    obtain ⟨_, o, hp, ho, _⟩ := g2.get hj
    obtain rfl : o = _ := ho
    refine ⟨d, .int x, rfl, .inl ⟨_, .inl i, .inr ⟨od, hp⟩, rfl, ?_⟩, k _ _ Ω H02 H2 q g2 (c1.trans c2 g1.ex) (Rp.int x)⟩
    have : ∀ nb : List (Int × Int), nb.lookup i = some x → valV (nb.map fun q => ((Sum.inl q.1 : Key), V.int q.2)) (Sum.inl i) = some (.int x) := by
      intro nb
      induction nb with
      | nil => intro h; cases h
      | cons b nb ih =>
        intro h
        by_cases e : i = b.1
        · subst e
          simp [List.lookup] at h
          subst h
          exact valV_pos rfl
        · have e2 : (i == b.1) = false := by simpa using e
          rw [List.map_cons, valV_neg (fun z => e (Sum.inl.inj z).symm)]
          exact ih (by simpa [List.lookup, e2] using h)
    exact (this nb h).symm
end
end G
end

section
set_option Elab.async false
set_option linter.all false
set_option maxRecDepth 100000
set_option maxHeartbeats 4000000
namespace G
open PySem L2
/-! ### enumerate(tuple) -/
set_option maxHeartbeats 1000000 in
theorem meets_enum1 {v : Value} {o : Obj} {H : Heap → Prop} (B : Begins v o H) :
    Meets (Builtin.«enumerate.__new__» ⟨[.type "enumerate", v], []⟩) (fun _ R s => H s.heap ∧
      R (.ok (.ret (.ref (s.heap.push o).objs.size))) { s with heap := (s.heap.push o).push { cls := .type "enumerate", data := .fields #[.none, .bool false, .ref s.heap.objs.size, rawInt 0, .none, .none] } }) :=
  .of_wp fun prog w A R s h => by
    obtain ⟨hp, g, d, tk, os⟩ := s; obtain ⟨h1, h⟩ := h
    have hsub := sub_enumerate
    have q1 : ∀ {A' : Around} {E : Value → Shared → Prop} {Q : Value → Shared → Prop}, Q (.ref hp.objs.size) ⟨hp.push o, g, d, tk, os⟩ → wpAny (model prog w) A' (pyIter v) Q E ⟨hp, g, d, tk, os⟩ :=
      fun q => B.iter prog w _ _ ⟨hp, g, d, tk, os⟩ _ h1 q
    wp_walk using q1
    refine wpAny_stack_any fun st => wpAny_pure ?_
    split
    · rename_i c _ _ _ _ _
      cases (c == Value.type "enumerate")
      · wp_walk using q1
        exact ⟨_, rfl, h⟩
      · wp_walk using q1
        exact ⟨_, rfl, h⟩
    · wp_walk using q1
      exact ⟨_, rfl, h⟩
section
variable {prog : Program} {w : World} {A : Around} {E : Value → Shared → Prop} {s : Shared}
theorem enum1_begins {v : Value} {o : Obj} {H : Heap → Prop} {Q : Value → Shared → Prop} (B : Begins v o H) (h1 : H s.heap)
    (h : ∀ h', IsEnum h' (s.heap.objs.size + 1) s.heap.objs.size 0 .none → h'.get? s.heap.objs.size = some o → h'.objs.size = s.heap.objs.size + 2 →
      (∀ b o, s.heap.get? b = some o → h'.get? b = some o) → Q (.ref (s.heap.objs.size + 1)) { s with heap := h' }) :
    wpAny (model prog w) A (call (.type "enumerate") [v]) Q E s := by
  refine callType_new F.called_enumerate (by decide) (F.typeCall_enumerate_1 _) (F.newCall_enumerate_1 _) (fun obj => F.args_object_init_2 obj _) F.entry_enumerate_new
    (meets_enum1 B) ⟨h1, ?_⟩
  have hz : (s.heap.push o).objs.size = s.heap.objs.size + 1 := Heap.size_push ..
  show _ ∧ _
  rw [hz]
  have he : IsEnum ((s.heap.push o).push { cls := .type "enumerate", data := .fields #[.none, .bool false, .ref s.heap.objs.size, rawInt 0, .none, .none] }) (s.heap.objs.size + 1) s.heap.objs.size 0 .none := by
    have := Heap.get?_push_size (s.heap.push o) (o := { cls := .type "enumerate", data := .fields #[.none, .bool false, .ref s.heap.objs.size, rawInt 0, .none, .none] }) rfl
    rw [hz] at this; exact this
  refine ⟨⟨_, he, rfl⟩, h _ he (Heap.get?_push_of_some _ (Heap.get?_push_size _ B.free)) (by rw [Heap.size_push, hz]) fun b o x => Heap.get?_push_of_some _ (Heap.get?_push_of_some _ x)⟩
end
def IteT (K : PySem.W.Frag) (a : Addr) : It :=
  ⟨fun i H => ∃ (xs : List V) (x : V), SqT K H a xs ∧ xs[i]? = some x, fun i H v H' => ∃ T x, v = .ref T ∧ H T = none ∧ H' = upd H T (.tup [.int (i : Nat), x]) ∧ ∀ xs, SqT K H a xs → xs[i]? = some x, fun i H => ∃ xs : List V, SqT K H a xs ∧ xs.length ≤ i⟩
theorem turn_enumT {P : Program} {w : World} {K : PySem.W.Frag} {elts : List Expr} {kk : Nat} {tpos : Pos} (a e it : Addr) :
    Turn P w K (.Tuple elts kk tpos) (IteT K a) [e, it] e (fun i h => (∃ old, IsEnum h e it ((i : Nat) : Int) old) ∧ h.IsTupleIter it a i ∧ e ≠ it ∧ a ≠ it ∧ e ≠ a) where
  mem := by simp
  obj := fun i h st b hb => by
    obtain ⟨⟨old, he⟩, ⟨o, ho, hc, hd⟩, _⟩ := st
    have e' : b = e ∨ b = it := by simpa using hb
    rcases e' with z | z
    · rw [z]; exact ⟨_, he, fun v q => nomatch q⟩
    · rw [z]; exact ⟨o, ho, fun v q => by rw [hd] at q; cases q⟩
  keep := fun i h h' st k => let ⟨⟨old, he⟩, hi, hne⟩ := st; ⟨⟨old, k e (by simp) _ he⟩, hi.at fun o q => k it (by simp) o q, hne⟩
  item := by
    intro X hP hw hK hc i pins s σ H E I hf st hg
    subst hP hw hK
    obtain ⟨⟨old, he⟩, hit, hne, hai, hea⟩ := st
    obtain ⟨xs, x, hq, hx⟩ := hg
    obtain ⟨its, rv, p, hz⟩ := I.tuple hq
    obtain ⟨u, hu, ru⟩ := rv.get hx
    have pt : s.heap.IsTuple a its.toArray := p
    have hel : e < s.heap.objs.size := Heap.lt_size he
    have hil : it < s.heap.objs.size := by obtain ⟨_, q, _⟩ := hit; exact Heap.lt_size q
    have hlen : i < its.toArray.size := by
      have := (List.getElem?_eq_some_iff.mp hu).1
      simpa using this
    refine wpAny_pyNext_enum_itemD (Draws.tuple (A := X.A.in1) (show X.A.in1.handled = none from I.ok.hd hc) it a hai its.toArray) he ⟨hit, pt⟩ hlen hne (by simp [hne, hea]) fun y h' tk hy ho ⟨hit', pt'⟩ hT hsz hk => ?_
    obtain rfl : y = u := by
      have : its[i]? = some y := by simpa using hy
      rw [hu] at this
      cases this; rfl
    refine ⟨_, rfl, wpAny_letOwnedTupleGo_enum (s := { s with heap := h', toks := tk + 1 }) ho fun h'' he' sb => ?_⟩
    have hT2 : h''.get? s.heap.objs.size = some { cls := .type "tuple", data := .seq #[.int i tk, y] } := (sb.2 _ (Nat.ne_of_gt hel)).trans hT
    have new : ObjOk X.prog X.w (upd H s.heap.objs.size (.tup [.int (i : Nat), x])) h'' s.heap.objs.size (.tup [.int (i : Nat), x]) :=
      ⟨by show 2 ≤ sizeLine; decide, [.int i tk, y], .cons ⟨_, rfl⟩ (.cons ru .nil), ⟨_, hT2, rfl, _, rfl⟩⟩
    have I1 : Inv X pins σ (upd H s.heap.objs.size (.tup [.int (i : Nat), x])) { s with heap := h'', toks := tk + 1 } :=
      I.turnedNew (ch := [e, it]) (fun b ob hb q => (sb.2 b (fun z => hb (by simp [z]))).trans (hk b ob (fun z => hb (by simp [z])) (fun z => hb (by simp [z])) q)) hf (Nat.le_refl _) new
    refine ⟨.ref s.heap.objs.size, _, I1, rfl, ⟨_, x, rfl, I.hok.fresh (Nat.le_refl _), rfl, fun ys hy => by rw [I.tuple_inj hy hq]; exact hx⟩, ⟨⟨y, ?_⟩, hit'.at fun o q => (sb.2 it (Ne.symm hne)).trans q, hne, hai, hea⟩, fun b hb => ?_⟩
    · have e1 : ((i + 1 : Nat) : Int) = (i : Int) + 1 := by omega
      rw [e1]; exact he'
    · have hb' : b < s.heap.objs.size := by
        have e' : b = e ∨ b = it := by simpa using hb
        rcases e' with z | z
        · rw [z]; exact hel
        · rw [z]; exact hil
      rw [upd_ne (Nat.ne_of_lt hb')]
      exact (hf b hb).1
  done := by
    intro X hP hw hK hc i pins s σ H E I hf st hg
    subst hP hw hK
    obtain ⟨⟨old, he⟩, hit, hne, hai, hea⟩ := st
    obtain ⟨xs, hq, hx⟩ := hg
    obtain ⟨its, rv, p, hz⟩ := I.tuple hq
    have pt : s.heap.IsTuple a its.toArray := p
    obtain ⟨f0, f1, f2, f3, f4, f5⟩ := hf it (by simp)
    have hl := rv.length
    have hT : s.TypeIs (.ref e) "enumerate" := ⟨_, he, rfl⟩
    unfold pyNext
    refine wpAny_bind (wpAny_attempt (wpAny_callSpecial?_slot (name := Str.ofString "__next__") hT F.slot_enumerate_next
      (wpAny_call_entry F.slot_enumerate_next hT F.entry_enumerate_next ?_ (F.args_enumerate_next_1 _))))
    show wpAny _ _ (field (.ref e) 2 >>= _) _ _ _
    refine wpAny_bind (wpAny_field he rfl (x := .ref it) rfl ?_)
    refine wpAny_bind (wpAny_nextOf_tuple_end (I.ok.hd hc) hit pt (by simp; omega) fun h' x he' hx' => ?_)
    obtain ⟨o, ho, hcs⟩ := hx'
    refine wpAny_bind (wpAny_isInstance (T := "StopIteration") (b := true) ⟨o, ho, hcs⟩ isSubtype_stop ?_)
    exact wpAny_pure ⟨rfl, I.turned (t' := s.toks) (fun b o hb q => he' b o hb q) f0 f1 f3 f4 f5⟩
  self := fun A i s Q E st h => let ⟨⟨_, he⟩, _⟩ := st; wpAny_pyIter_enum he h
def iEnumT (K : PySem.W.Frag) (ta : TA) : TI := fun σ H R => ta σ H fun vs H1 => ∃ a xs, vs = [.ref a] ∧ SqT K H1 a xs ∧ R (IteT K a) H1
open PySem.Spec PyProof.Rows in
theorem pi_enumT {X : Cx} {e : Expr} {ta : TA} {p pos tpos : Pos} {elts : List Expr} {kk : Nat} (hg : Gl X "enumerate") (hm : X.mg "enumerate" = none) (ha : PA X [e] ta) (hs : starEach [e] X.env = [(false, eval e X.env)] := by rfl) :
    PI X (.Tuple elts kk tpos) (.Call (.Name "enumerate" p) [e] [] pos) (iEnumT X.K ta) := by
  refine ⟨fun pins s σ H R I h => ?_⟩
  refine Call_ (ld_blt I hg hm boot_enumerate (PyProof.Rows.callWith_type1 (thn (ha.run pos pins s σ H _ I h) fun us s1 ⟨vs, H1, I1, r1, q1⟩ => ?_) hs rfl))
  obtain ⟨a, xs, ex, hq, q⟩ := q1
  subst ex
  cases r1 with
  | cons r rr =>
    cases rr
    cases r
    obtain ⟨its, rv, p', hz⟩ := I1.tuple hq
    have pt : s1.heap.IsTuple a its.toArray := p'
    have hal : a < s1.heap.objs.size := by obtain ⟨o, ho, _⟩ := pt; exact Heap.lt_size ho
    refine enum1_begins (begins_tuple a its.toArray) pt fun h' he hit hsz hk => wpAny_pyIter_enum he ?_
    have I2 : Inv X pins σ H1 { s1 with heap := h' } := I1.kept (t' := s1.toks) hk
    refine ⟨s1.heap.objs.size + 1, [s1.heap.objs.size + 1, s1.heap.objs.size], _, _, H1, rfl, I2, turn_enumT a (s1.heap.objs.size + 1) s1.heap.objs.size, ⟨⟨.none, he⟩, ⟨_, hit, rfl, rfl⟩, Nat.succ_ne_self _, Nat.ne_of_lt hal, Nat.ne_of_gt (Nat.lt_succ_of_lt hal)⟩, fun b hb => ?_, q⟩
    have e' : b = s1.heap.objs.size + 1 ∨ b = s1.heap.objs.size := by simpa using hb
    have hle : s1.heap.objs.size ≤ b := by
      rcases e' with z | z
      · rw [z]; exact Nat.le_add_right _ _
      · rw [z]; exact Nat.le_refl _
    exact I1.fpOk hle (I1.hok.fresh hle)
theorem walk_enumT {K : PySem.W.Frag} {a : Addr} {xs : List V} : Walk (IteT K a) xs.length (fun H => SqT K H a xs) (YPair (fun i => some (.int (i : Nat))) (fun i => xs[i]?)) := by
  refine ⟨fun i _ hi q => ⟨xs, xs[i], q, by simp [hi]⟩, fun _ q => ⟨xs, q, Nat.le_refl _⟩, fun i H v H' _ q y => ?_⟩
  obtain ⟨T, x, h1, h2, h3, h4⟩ := y
  exact ⟨T, .int (i : Nat), x, h1, h2, h3, rfl, h4 xs q⟩
section
variable {Γ : En} {Ω : Om} {te ta tb tc tl td tv ty : TE} {tt tu : TT} {t u : TS} {Φ : Po} {g : TG} {gs : TGs}
theorem sw_forE {K : PySem.W.Frag} {ds : List PyData} (h : EvD te Γ Ω (.py (.tuple ds))) (J : Nat → En → Om → Prop) (h0 : J 0 Γ Ω)
    (hs : ∀ i d Γ' Ω', ds[i]? = some d → J i Γ' Ω' → TgW g (.py (.tuple [.int (i : Nat), d])) Γ' Ω' fun Γ2 Ω2 => SW t Γ2 Ω2 { Φ with nx := J (i + 1), ct := J (i + 1), bk := Φ.nx }) (hd : ∀ Γ' Ω', J ds.length Γ' Ω' → Φ.nx Γ' Ω') : SW (tFor (iEnumT K (tCons te tNil)) g t) Γ Ω Φ := fun σ H0 H W s gh r => by
    unfold tFor iEnumT
    refine (ar_cons h ar_nil).bind s gh fun vs H01 H1 s1 g1 c1 r1 => ?_
    obtain ⟨v, rfl, rr1⟩ := rq1 r1
    cases rr1 with
    | tup h1 rr =>
      rename_i a xs
      have r' := r.step c1 g1.ex
      have hl : xs.length = ds.length := rr.length
      refine ⟨a, xs, rfl, SqT.of (g1.ex _ _ h1), for_it (walk_enumT (K := K) (a := a) (xs := xs)) (fun i σ' H' => ∃ Γ' Ω' H0', J i Γ' Ω' ∧ Sl Γ' σ' H0' ∧ Hs Ω' H0' H' ∧ Step Ω Ω' H01 H1 H0' H') ⟨Γ, Ω, H01, h0, s1, g1, .refl _ _ _⟩ (fun i σ' H' _ ⟨Γ', Ω', H0', _, _, g', c'⟩ => SqT.of (g'.ex _ _ (c'.ex _ _ h1))) ?_ ?_⟩
      · rintro i v σ' H' H'' hi ⟨Γ', Ω', H0', j, s', g', c'⟩ ⟨T, x, y, rfl, hT, rfl, hx, hy⟩
        cases hx
        obtain ⟨d, hd', rd⟩ := rr.getV hy
        obtain ⟨g2, c2⟩ := g'.frz hT (.tup [.int (i : Nat), y])
        have c3 := c'.trans c2 g'.ex
        refine hs i d Γ' Ω' hd' j σ' _ _ (.ref T) _ (s'.mono c2.ex) g2 (.tup upd_same (.cons (.int _) (.cons (rd.mono c3.ex) .nil))) fun σ2 Γ2 Ω2 H02 H2 q2 s2 g2' c2' => ?_
        refine q2 σ2 H02 H2 _ s2 g2' ?_
        have c4 := c3.trans c2' g2.ex
        exact ⟨fun σ3 Γ3 Ω3 H03 H3 q3 s3 g3 c5 => ⟨Γ3, Ω3, H03, q3, s3, g3, c4.trans c5 g2'.ex⟩, fun v d Ω3 H03 H3 q3 r3 g3 c5 => r'.rt v d Ω3 H03 H3 q3 r3 g3 (c4.trans c5 g2'.ex),
          fun σ3 Γ3 Ω3 H03 H3 q3 s3 g3 c5 => r'.nx σ3 Γ3 Ω3 H03 H3 q3 s3 g3 (c4.trans c5 g2'.ex), fun σ3 Γ3 Ω3 H03 H3 q3 s3 g3 c5 => ⟨Γ3, Ω3, H03, q3, s3, g3, c4.trans c5 g2'.ex⟩⟩
      · rintro σ' H' ⟨Γ', Ω', H0', j, s', g', c'⟩
        rw [hl] at j
        exact r'.nx σ' Γ' Ω' H0' H' (hd _ _ j) s' g' c'
/-! ### instances under way -/
theorem putF_new {f : Str} {y : V} : ∀ {ws : List (Str × V)}, f ∉ ws.map (·.1) → putF f y ws = ws ++ [(f, y)]
  | [], _ => rfl
  | (g, x) :: r, h => by
    simp only [List.map_cons, List.mem_cons, not_or] at h
    unfold putF
    rw [if_neg (fun e => h.1 e.symm), putF_new h.2]; rfl
theorem sw_fldW {K : PySem.W.Frag} {C : Addr} {f : Str} (c : Cls K C) (n : NoAttr K C f) (ho : ∀ Ω1, ∃ x, EvD ta Γ Ω1 (.loc x)) (h : EvW tv Γ Ω fun d Ω1 => ∀ x, EvD ta Γ Ω1 (.loc x) → ∃ (j : Nat) (dx : Addr) (fs : List (Str × D)), Ω1[j]? = some (x, .ob C dx fs) ∧ f ∉ fs.map (·.1) ∧ fs.length < 100 ∧ Φ.nx Γ (Ω1.set j (x, .ob C dx (fs ++ [(f, d)])))) : SW (sFld K ta tv f) Γ Ω Φ := fun σ H0 H W s g r =>
  h.bind s g fun v d Ω1 H01 H1 q1 s1 g1 c1 r1 => by
    obtain ⟨x, hx⟩ := ho Ω1
    obtain ⟨j, dx, fs, hj, hn, hz, q⟩ := q1 x hx
    refine hx.bind s1 g1 fun u H02 H2 s2 g2 c2 r2 => ?_
    cases (show u = .ref x from r2)
    obtain ⟨_, o, hp, ws, rfl, hk, rv⟩ := g2.get hj
    have hl : ws.length = fs.length := by simpa using congrArg List.length hk
    obtain ⟨g3, c3⟩ := g2.put hj (o := .ins C dx (ws ++ [(f, v)])) (w' := .ob C dx (fs ++ [(f, d)])) ⟨_, rfl, by rw [List.map_append, List.map_append, hk]; rfl, by rw [List.map_append, List.map_append]; exact Paired.snoc rv (r1.mono c2.ex)⟩
    refine ⟨x, C, dx, ws, rfl, hp, c, n, by omega, ?_⟩
    rw [putF_new (by rw [hk]; exact hn)]
    exact r.nx σ Γ _ H02 _ q s2 g3 ((c1.trans c2 g1.ex).trans c3 g2.ex)
theorem fs_look {H : Hp} {f : Str} {d : D} : ∀ {ws : List (Str × V)} {fs : List (Str × D)}, ws.map (·.1) = fs.map (·.1) → RqL H (ws.map (·.2)) (fs.map (·.2)) → fs.lookup f = some d → ∃ x, ws.lookup f = some x ∧ Rq H x d
  | [], [], _, _, h => by cases h
  | [], _ :: _, h, _, _ => by simp at h
  | _ :: _, [], h, _, _ => by simp at h
  | (a1, a2) :: ws, (b1, b2) :: fs, h, r, hl => by
    simp only [List.map_cons, List.cons.injEq] at h
    cases r with
    | cons r1 r2 =>
      obtain ⟨h1, h2⟩ := h
      subst h1
      by_cases e : f = a1
      · subst e
        simp [List.lookup] at hl
        subst hl
        exact ⟨a2, by simp [List.lookup], r1⟩
      · have e2 : (f == a1) = false := by simpa using e
        simp only [List.lookup, e2] at hl ⊢
        exact fs_look h2 r2 hl
theorem ev_fldO {K : PySem.W.Frag} {C dx x : Addr} {j : Nat} {fs : List (Str × D)} {f : Str} {d : D} (c : Cls K C) (n : NoAttr K C f) (ha : EvD ta Γ Ω (.loc x)) (hj : Ω[j]? = some (x, .ob C dx fs)) (h : fs.lookup f = some d) : EvD (tFld K ta f) Γ Ω d := fun Q q σ H0 H R s g k =>
  ha.bind s g fun v H01 H1 s1 g1 c1 r1 => by
    cases (show v = .ref x from r1)
    obtain ⟨_, o, hp, ws, rfl, hk, rv⟩ := g1.get hj
    obtain ⟨y, e1, e2⟩ := fs_look hk rv h
    exact ⟨x, C, dx, ws, y, rfl, hp, c, n, e1, k y d Ω H01 H1 q g1 c1 e2⟩
theorem objM_of {C dx x : Addr} {H : Hp} {ws : List (Str × V)} {fs : List (Str × D)} (hp : H x = some (.ins C dx ws)) (hk : ws.map (·.1) = fs.map (·.1)) (rv : RqL H (ws.map (·.2)) (fs.map (·.2))) : (objM C fs).P H (.ref x) := by
  refine ⟨x, dx, ws, rfl, hp, fun f => ?_⟩
  cases hl : fs.lookup f with
  | some d => exact fs_look hk rv hl
  | none =>
    have : ∀ {ws : List (Str × V)} {fs : List (Str × D)}, ws.map (·.1) = fs.map (·.1) → fs.lookup f = none → ws.lookup f = none := by
      intro ws
      induction ws with
      | nil => intro fs _ _; rfl
      | cons a ws ih => intro fs h hl; cases fs with
        | nil => simp at h
        | cons b fs =>
          simp only [List.map_cons, List.cons.injEq] at h
          by_cases e : f = b.1
          · subst e; simp [List.lookup] at hl
          · have e2 : (f == b.1) = false := by simpa using e
            have e3 : (f == a.1) = false := by rw [h.1]; exact e2
            simp only [List.lookup, e2] at hl
            simp only [List.lookup, e3]
            exact ih h.2 hl
    exact this hk hl
/-- what __init__ promises: the new instance's fields, one last field an own dict -/
def initC (C : Addr) (pre : List D → (List (Str × D)) → Str → List (List Key × D) → Prop) : Co := fun ds Ω Ψ => ∃ x dx es fs f kvs, ds = .loc x :: es ∧ Ω = [(x, .ob C dx [])] ∧ pre es fs f kvs ∧ ∀ r, Ψ N0 [(x, .ob C dx (fs ++ [(f, .loc r)])), (r, .dt kvs)]
theorem Step.perm {Ω Ω2 Ω' Ω2' : Om} {H0 H H0' H' : Hp} (c : Step Ω Ω' H0 H H0' H') (p : Ω.Perm Ω2) (p' : Ω'.Perm Ω2') : Step Ω2 Ω2' H0 H H0' H' :=
  ⟨c.ex, fun a o h ha => c.keep a o h fun hm => ha ((p.map _).mem_iff.mp hm), fun a ha => by
    rcases c.new a ((p'.map _).mem_iff.mpr ha) with z | z
    · exact .inl ((p.map _).mem_iff.mp z)
    · exact .inr z⟩
theorem ev_mk {C : Addr} {pre : List D → (List (Str × D)) → Str → List (List Key × D) → Prop} {t : TA} {es : List D} {fs : List (Str × D)} {f : Str} {kvs : List (List Key × D)} {M : Mono} (ha : ArD t Γ Ω es) (hp : pre es fs f kvs) (hM : ∀ H0 H o r, OwnOk H0 o (.dt kvs) → Same H0 H → H r = some o → M.P H (.ref r)) : EvD (tMake C (spG (initC C pre)) [] E0 t) Γ Ω (.ab (objM C (fs ++ [(f, .ab M)]))) := fun Q q σ H0 H R s g k =>
  ha.bind s g fun vs H01 H1 s1 g1 c1 r1 => by
    intro x dx hx hdx hne
    obtain ⟨g2, c2⟩ := g1.new hdx (o := .own x) (w := .raw (.own x)) ⟨rfl, fun xs h => by cases h⟩
    have hx2 : upd H1 dx (.own x) x = none := by rw [upd_ne (Ne.symm hne)]; exact hx
    obtain ⟨g3, c3⟩ := g2.new hx2 (o := .ins C dx []) (w := .ob C dx []) ⟨[], rfl, rfl, .nil⟩
    have pm : (Ω ++ [(dx, Own.raw (.own x))] ++ [(x, Own.ob C dx [])]).Perm ([(x, Own.ob C dx [])] ++ (Ω ++ [(dx, Own.raw (.own x))])) := List.perm_append_comm
    have g4 := g3.perm pm
    have c4 : Step Ω ([(x, Own.ob C dx [])] ++ (Ω ++ [(dx, Own.raw (.own x))])) H0 H H01 _ := ((c1.trans c2 g1.ex).trans c3 g2.ex).perm (.refl _) pm
    refine ⟨H01, .loc x :: es, [(x, .ob C dx [])], fun d Ω' => d = N0 ∧ ∃ r, Ω' = [(x, .ob C dx (fs ++ [(f, .loc r)])), (r, .dt kvs)], g4.left, by rw [List.append_nil]; exact .cons rfl r1, ⟨x, dx, es, fs, f, kvs, rfl, rfl, hp, fun r => ⟨rfl, r, rfl⟩⟩, fun v d Ω' H0' H' q1 g' c' rv => ?_⟩
    obtain ⟨rfl, r, rfl⟩ := q1
    obtain ⟨g5, c5⟩ := G.frame (Ω := [(x, .ob C dx [])]) (Ωr := Ω ++ [(dx, .raw (.own x))]) g4 g' c'
    refine ⟨by cases rv; rfl, ?_⟩
    have c6 := c4.trans c5 g4.ex
    -- freeze r
    obtain ⟨_, or_, hr, okr⟩ := g5.get (j := 1) rfl
    obtain ⟨g7, c7⟩ := g5.freeze (j := 1) rfl hr
    have hMr := hM H0' _ or_ r okr c7.ex upd_same
    -- freeze x
    obtain ⟨hx0, ox, hpx, ws, rfl, hk, rvx⟩ := g5.get (j := 0) rfl
    have hlen : ∃ ws0 y, ws = ws0 ++ [(f, y)] ∧ ws0.map (·.1) = fs.map (·.1) ∧ RqL H0' (ws0.map (·.2)) (fs.map (·.2)) ∧ y = .ref r := by
      have : ∀ {ws : List (Str × V)} {fs : List (Str × D)}, ws.map (·.1) = (fs ++ [(f, D.loc r)]).map (·.1) → RqL H0' (ws.map (·.2)) ((fs ++ [(f, D.loc r)]).map (·.2)) → ∃ ws0 y, ws = ws0 ++ [(f, y)] ∧ ws0.map (·.1) = fs.map (·.1) ∧ RqL H0' (ws0.map (·.2)) (fs.map (·.2)) ∧ y = .ref r := by
        intro ws
        induction ws with
        | nil => intro fs h _; simp at h
        | cons a ws ih => intro fs h r'; cases fs with
          | nil =>
            simp only [List.nil_append, List.map_cons, List.map_nil, List.cons.injEq, List.map_eq_nil_iff] at h r'
            obtain ⟨h1, rfl⟩ := h
            cases r' with
            | cons r1 r2 => exact ⟨[], a.2, by rw [← h1]; rfl, rfl, .nil, r1⟩
          | cons b fs =>
            simp only [List.cons_append, List.map_cons, List.cons.injEq] at h r'
            cases r' with
            | cons r1 r2 =>
              obtain ⟨ws0, y, rfl, h2, h3, h4⟩ := ih h.2 r2
              exact ⟨a :: ws0, y, rfl, by simp [h.1, h2], .cons r1 h3, h4⟩
      exact this hk rvx
    obtain ⟨ws0, y, rfl, hk0, rv0, rfl⟩ := hlen
    have hj0 : ((([(x, Own.ob C dx (fs ++ [(f, D.loc r)])), (r, Own.dt kvs)] ++ (Ω ++ [(dx, Own.raw (.own x))])).eraseIdx 1))[0]? = some (x, Own.ob C dx (fs ++ [(f, D.loc r)])) := rfl
    obtain ⟨g8, c8⟩ := g7.freeze hj0 hpx
    have hj9 : (((([(x, Own.ob C dx (fs ++ [(f, D.loc r)])), (r, Own.dt kvs)] ++ (Ω ++ [(dx, Own.raw (.own x))])).eraseIdx 1)).eraseIdx 0) = Ω ++ [(dx, Own.raw (.own x))] := rfl
    rw [hj9] at g8 c8
    have hj10 : (Ω ++ [(dx, Own.raw (.own x))])[Ω.length]? = some (dx, .raw (.own x)) := by simp
    obtain ⟨_, od, hpd, _⟩ := g8.get hj10
    obtain ⟨g9, c9⟩ := g8.freeze hj10 hpd
    have es' : (Ω ++ [(dx, Own.raw (.own x))]).eraseIdx Ω.length = Ω := by rw [List.eraseIdx_append_of_length_le (Nat.le_refl _)]; simp
    rw [es'] at g9 c9
    refine k (.ref x) _ Ω _ _ q g9 (((c6.trans c7 g5.ex).trans c8 g7.ex).trans c9 g8.ex) ?_
    refine (objM C (fs ++ [(f, .ab M)])).mono c9.ex (objM_of (ws := ws0 ++ [(f, .ref r)]) upd_same (by rw [List.map_append, List.map_append, hk0]; rfl) ?_)
    rw [List.map_append, List.map_append]
    exact Paired.snoc (rv0.mono (c7.ex.trans c8.ex)) (M.mono c8.ex hMr)
end
end G
namespace G
open PySem L2
theorem sw_fldC {Γ : En} {Ω : Om} {ta tv : TE} {Φ : Po} {K : PySem.W.Frag} {C x : Addr} {f : Str} (c : Cls K C) (n : NoAttr K C f) (ho : ∀ {Ω1}, EvD ta Γ Ω1 (.loc x)) (h : EvW tv Γ Ω fun d Ω1 => ∃ (j : Nat) (dx : Addr) (fs : List (Str × D)), Ω1[j]? = some (x, .ob C dx fs) ∧ f ∉ fs.map (·.1) ∧ fs.length < 100 ∧ Φ.nx Γ (Ω1.set j (x, .ob C dx (fs ++ [(f, d)])))) : SW (sFld K ta tv f) Γ Ω Φ := fun σ H0 H W s g r =>
  h.bind s g fun v d Ω1 H01 H1 q1 s1 g1 c1 r1 => by
    obtain ⟨j, dx, fs, hj, hn, hz, q⟩ := q1
    refine (ho (Ω1 := Ω1)).bind s1 g1 fun u H02 H2 s2 g2 c2 r2 => ?_
    cases (show u = .ref x from r2)
    obtain ⟨_, o, hp, ws, rfl, hk, rv⟩ := g2.get hj
    have hl : ws.length = fs.length := by simpa using congrArg List.length hk
    obtain ⟨g3, c3⟩ := g2.put hj (o := .ins C dx (ws ++ [(f, v)])) (w' := .ob C dx (fs ++ [(f, d)])) ⟨_, rfl, by rw [List.map_append, List.map_append, hk]; rfl, by rw [List.map_append, List.map_append]; exact Paired.snoc rv (r1.mono c2.ex)⟩
    refine ⟨x, C, dx, ws, rfl, hp, c, n, by omega, ?_⟩
    rw [putF_new (by rw [hk]; exact hn)]
    exact r.nx σ Γ _ H02 _ q s2 g3 ((c1.trans c2 g1.ex).trans c3 g2.ex)
end G
end

section
set_option Elab.async false
set_option linter.all false
set_option maxRecDepth 100000
set_option maxHeartbeats 4000000
namespace G
open PySem L2
open PyProof.Rows (envOfC)
/-! ### an error of one's own -/
/-- Base.__init__(self, ..), Base a class over ValueError with nothing of its own -/
theorem pe_plinit {X : Cx} {e : Expr} {es : List Expr} {ta : TA} {x : Str} {p1 p2 pos : Pos} {Cp : Addr} {pl : Sem Bool} (hg : Gl X x) (hm : X.mg x = some (.ref Cp)) (hr : PySem.W.readsIn X.K Cp (.type "type") = true) (hs : PySem.W.specialIn X.K (.ref Cp) "__getattribute__" = some (some (.builtin "type.__getattribute__")))
    (vV : PySem.W.findCls X.K (.ref Cp) (.type "type") "__init__" = some (.val (.builtin "ValueError.__init__"))) (ha : PA X (e :: es) ta) (hd : (x == ("__debug__" : Str)) = false := by decide)
    (hc : eval (.Call (.Attribute (.Name x p1) "__init__" p2) (e :: es) [] pos) X.env = (do
      let ov ← eval (.Name x p1) X.env
      standAt p2.atName
      let (f, first) ← holding [ov] (getMethod ov "__init__" pl)
      callWith pos f first (backTo pos (starEach (e :: es) X.env)) (backToKw pos (keywordEach [] X.env))) := by rfl)
    (he : starEach (e :: es) X.env = (false, eval e X.env) :: starEach es X.env := by rfl) (hpl : (backTo pos (starEach es X.env)).any (·.1) = false := by rfl) :
    PE X (.Call (.Attribute (.Name x p1) "__init__" p2) (e :: es) [] pos) (tVeI X.K ta) := by
  refine ⟨fun pins s σ H Q I h => ?_⟩
  refine PySem.W.methodCall_KW (ld_glob I hg hm ?_ hd) hc
  refine PySem.W.method_cls I.kIn hs (PySem.W.cls_value I.kIn hr vV (by decide +kernel) ?_)
  show wpAny _ _ (callWith pos (Value.builtin "ValueError.__init__") [] (backTo pos (starEach (e :: es) X.env)) []) _ _ _
  refine PyProof.Rows.callWith_method1 (thn (ha.run pos pins _ σ H _ (I.tok _) h) fun us s1 ⟨vs, H1, I1, r1, a, C, ws, ev, hl, T, ea, q⟩ => ?_) he hpl
  subst ev
  cases r1 with
  | @cons _ u0 _ ur ra rw' =>
    obtain rfl : u0 = Value.ref a := ra
    have hlen : ur.length ≤ sizeLine := by
      rw [← Paired.length rw', sizeLine_eq]
      omega
    exact oinit_ok T I1 ea hlen fun s' J => ⟨.non, H1, J, rfl, q⟩
section
variable {Γ : En} {Ω : Om} {te ta tb tc tl td tv ty : TE} {tt tu : TT} {t u : TS} {Φ : Po} {g : TG} {gs : TGs}
theorem ev_veinit {K : PySem.W.Frag} {aa : TA} {C a : Addr} {d : D} {j : Nat} (T : OexC K C) (ha : ArD aa Γ Ω [.loc a, d]) (hj : Ω[j]? = some (a, .raw (exo a C none))) : EvD (tVeI K aa) Γ Ω N0 := fun Q q σ H0 H R s g k =>
  ha.bind s g fun vs H01 H1 s1 g1 c1 r1 => by
    obtain ⟨v, u, rfl, h1, h2⟩ := rq2 r1
    cases (show v = .ref a from h1)
    obtain ⟨_, o, hp, ho, _⟩ := g1.get hj
    obtain rfl : o = _ := ho
    exact ⟨a, C, [u], rfl, by simp, T, hp, k _ _ Ω H01 H1 q g1 c1 .non⟩
theorem sw_ost {K : PySem.W.Frag} {C a : Addr} {f : Str} {d : D} {j : Nat} (T : OexC K C) (hf : PySem.W.findIn K (.ref C) f = some none) (ho : EvD ta Γ Ω (.loc a)) (h : EvD te Γ Ω d) (hj : Ω[j]? = some (a, .raw (exo a C none)))
    (q : ∀ dx y, Φ.nx Γ ((Ω.set j (a, .raw (exo a C (some dx)))) ++ [(dx, .raw (exd dx [(f, y)]))])) : SW (tOst K f ta te) Γ Ω Φ := fun σ H0 H W s g r =>
  h.bind s g fun y H01 H1 s1 g1 c1 r1 => ho.bind s1 g1 fun x H02 H2 s2 g2 c2 r2 => by
    cases (show x = .ref a from r2)
    obtain ⟨_, o, hp, ho', _⟩ := g2.get hj
    obtain rfl : o = _ := ho'
    refine ⟨a, C, rfl, T, hf, .inl ⟨hp, fun dx hdx hne => ?_⟩⟩
    obtain ⟨g3, c3⟩ := g2.new hdx (o := exd dx [(f, y)]) (w := .raw (exd dx [(f, y)])) ⟨rfl, fun xs => exd_tup⟩
    have hlt : j < Ω.length := (List.getElem?_eq_some_iff.mp hj).1
    have hj' : (Ω ++ [(dx, Own.raw (exd dx [(f, y)]))])[j]? = some (a, .raw (exo a C none)) := by rw [List.getElem?_append_left hlt]; exact hj
    obtain ⟨g4, c4⟩ := g3.put hj' (o := exo a C (some dx)) (w' := .raw (exo a C (some dx))) ⟨rfl, fun xs => exo_tup⟩
    have e : (Ω ++ [(dx, Own.raw (exd dx [(f, y)]))]).set j (a, .raw (exo a C (some dx))) = (Ω.set j (a, .raw (exo a C (some dx)))) ++ [(dx, .raw (exd dx [(f, y)]))] := List.set_append_left _ _ hlt
    rw [e] at g4 c4
    exact r.nx σ Γ _ H02 _ (q dx y) s2 g4 (((c1.trans c2 g1.ex).trans c3 g2.ex).trans c4 g3.ex)
end
/-- what the error's __init__ promises -/
def initE (C : Addr) (f : Str) : Co := fun ds Ω Ψ => ∃ a d, ds = [.loc a, d] ∧ Ω = [(a, .raw (exo a C none))] ∧ ∀ dx y, Ψ N0 [(a, .raw (exo a C (some dx))), (dx, .raw (exd dx [(f, y)]))]
abbrev CE := List D → (D → Prop) → Prop → Prop
/-- a def that touches nothing of its caller's and may raise the error at CN -/
def spE (CN : Addr) (C : CE) : Sp := fun vs H Q E => ∃ H0 ds Ψ Ξ, Hs [] H0 H ∧ RqL H0 vs ds ∧ C ds Ψ Ξ ∧ (∀ v d H0' H', Ψ d → Hs [] H0' H' → Step [] [] H0 H H0' H' → Rq H0' v d → Q v H') ∧
  (Ξ → ∀ dd H0' H', Hs [] H0' H' → Step [] [] H0 H H0' H' → E (.ref CN) dd H')
def XR (E : XK) (CN : Addr) (Ξ : Prop) (H0 H : Hp) : Prop := Ξ → ∀ dd H0' H', Hs [] H0' H' → Step [] [] H0 H H0' H' → E (.ref CN) dd H'
def SWX (CN : Addr) (E : XK) (Ξ : Prop) (t : TS) (Γ : En) (Φ : Po) : Prop := ∀ (σ : St) (H0 H : Hp) (W : Ends), Sl Γ σ H0 → Hs [] H0 H → Real Φ W [] H0 H → XR E CN Ξ H0 H → t W σ H
theorem XR.step {E : XK} {CN : Addr} {Ξ : Prop} {H0 H H01 H1 : Hp} (x : XR E CN Ξ H0 H) (c : Step [] [] H0 H H01 H1) (e : Same H01 H1) : XR E CN Ξ H01 H1 := fun h dd H0' H' g c' => x h dd H0' H' g (c.trans c' e)
section
variable {Γ : En} {te ta tb tc : TE} {tt tu : TT} {t u : TS} {Φ : Po} {CN : Addr} {E : XK} {Ξ : Prop}
theorem sw_x (h : SW t Γ [] Φ) : SWX CN E Ξ t Γ Φ := fun σ H0 H W s g r _ => h σ H0 H W s g r
theorem sw_seqX (h : SW t Γ [] { Φ with nx := fun Γ' Ω' => Ω' = [] ∧ SWX CN E Ξ u Γ' Φ }) : SWX CN E Ξ (tSeq t u) Γ Φ := fun σ H0 H W s g r x =>
  h σ H0 H _ s g ⟨fun σ' Γ' Ω' H0' H' q s' g' c' => by
    obtain ⟨rfl, q⟩ := q
    exact q σ' H0' H' W s' g' (r.step c' g'.ex) (x.step c' g'.ex), r.rt, r.bk, r.ct⟩
theorem sw_seqXX (h : SWX CN E Ξ t Γ { Φ with nx := fun Γ' Ω' => Ω' = [] ∧ SWX CN E Ξ u Γ' Φ }) : SWX CN E Ξ (tSeq t u) Γ Φ := fun σ H0 H W s g r x =>
  h σ H0 H _ s g ⟨fun σ' Γ' Ω' H0' H' q s' g' c' => by
    obtain ⟨rfl, q⟩ := q
    exact q σ' H0' H' W s' g' (r.step c' g'.ex) (x.step c' g'.ex), r.rt, r.bk, r.ct⟩ x
theorem sw_ifX {b : Bool} (h : TsD tt Γ [] b) (h1 : b = true → SWX CN E Ξ t Γ Φ) (h2 : b = false → SWX CN E Ξ u Γ Φ) : SWX CN E Ξ (tIfS tt t u) Γ Φ := fun σ H0 H W s g r x =>
  h.bind s g fun H01 H1 s1 g1 c1 => by
    cases b with
    | true => exact h1 rfl σ H01 H1 W s1 g1 (r.step c1 g1.ex) (x.step c1 g1.ex)
    | false => exact h2 rfl σ H01 H1 W s1 g1 (r.step c1 g1.ex) (x.step c1 g1.ex)
theorem sw_raiseX {f : Str} {aa : TA} {d : D} (ha : ArD aa Γ [] [d]) (hx : Ξ) : SWX CN E Ξ (fun _ σ H => tMkO CN (spG (initE CN f)) [] aa σ H fun cls dd H' => (fun (cls : Value) (dd : Option Addr) (_ : St) (H : Hp) => E cls dd H) cls dd σ H') Γ Φ := fun σ H0 H W s g r x =>
  ha.bind s g fun vs H01 H1 s1 g1 c1 r1 => by
    obtain ⟨v, rfl, rv⟩ := rq1 r1
    refine ⟨by simp, fun a ha => ?_⟩
    obtain ⟨g2, c2⟩ := g1.new ha (o := exo a CN none) (w := .raw (exo a CN none)) ⟨rfl, fun xs => exo_tup⟩
    refine ⟨H01, [.loc a, d], [(a, .raw (exo a CN none))], fun e Ω' => e = N0 ∧ ∃ dx y, Ω' = [(a, .raw (exo a CN (some dx))), (dx, .raw (exd dx [(f, y)]))], g2, .cons rfl (.cons rv .nil), ⟨a, d, rfl, rfl, fun dx y => ⟨rfl, dx, y, rfl⟩⟩, fun v e Ω' H0' H' q g' c' r' => ?_⟩
    obtain ⟨rfl, dx, y, rfl⟩ := q
    have hv : v = .non := by cases r'; rfl
    obtain ⟨ha0, o1, hp1, ho1, _⟩ := g'.get (j := 0) rfl
    obtain rfl : o1 = _ := ho1
    obtain ⟨hd0, o2, hp2, ho2, _⟩ := g'.get (j := 1) rfl
    obtain rfl : o2 = _ := ho2
    have hne : dx ≠ a := by
      have := g'.nd
      simp at this
      exact fun e => this e.symm
    have hd1 : H1 dx = none := by
      rcases c'.new dx (by simp) with z | z
      · simp at z; exact (hne z).elim
      · rw [upd_ne hne] at z; exact z
    refine ⟨hv, dx, [(f, y)], hp1, hp2, hd1, ?_⟩
    refine x hx (some dx) H0' _ ⟨fun b o h => ?_, fun q hq => (by cases hq), List.nodup_nil⟩ ⟨(c1.ex.trans c'.ex), fun b o h _ => ?_, fun b hb => (by cases hb)⟩
    · have h1 : b ≠ dx := fun e => by rw [e, hd0] at h; cases h
      have h2 : b ≠ a := fun e => by rw [e, ha0] at h; cases h
      rw [upd_ne h1, L2.del_ne h2]
      exact g'.ex b o h
    · obtain ⟨k1, k2⟩ := c1.keep b o h (by simp)
      have h2 : b ≠ a := ne_of_none k1 ha
      have h1 : b ≠ dx := ne_of_none k1 hd1
      obtain ⟨k3, k4⟩ := c'.keep b o (by rw [upd_ne h2]; exact k1) (by simp; exact h2)
      exact ⟨by rw [upd_ne h1, L2.del_ne h2]; exact k3, fun h0 nt => k4 (k2 h0 nt) nt⟩
theorem sw_retX {C : CE} {aa : TA} {ds : List D} (ha : ArD aa Γ [] ds) (hc : C ds (fun d => Φ.rt d []) Ξ) : SWX CN E Ξ (tRet (tCall (spE CN C) [] E aa)) Γ Φ := fun σ H0 H W s g r x =>
  ha.bind s g fun vs H01 H1 s1 g1 c1 r1 => by
    refine ⟨H01, ds, _, Ξ, g1, by rw [List.append_nil]; exact r1, hc, fun v d H0' H' q g' c' r' => r.rt v d [] H0' H' q r' g' (c1.trans c' g1.ex), fun h dd H0' H' g' c' => x h dd H0' H' g' (c1.trans c' g1.ex)⟩
theorem C_imp_never {Φ : Po} : SWX CN E Ξ tNever Γ Φ → True := fun _ => trivial
end
section
variable {P : Program} {w : World} {K : PySem.W.Frag} {mg : Str → Option Value} {base : Heap}
theorem fnX_mk {x : Str} {st : Stmt} {ps N : List Str} {k : Nat} {C : CE} {CN : Addr} (F : Df K mg x st ps) (S : FnScope N ps (defScope st)) (len : ∀ ds Ψ Ξ, C ds Ψ Ξ → ds.length = ps.length)
    (hbody : ∀ (f : Addr) (cdv : Value) (A : Around) (outer : List Env) (s : Shared) (H : Hp) (E : XK), Room k (A.deeper (envOfC x (defScope st) s.heap.objs.size f cdv)) →
      ∃ t, PSs (cxOf (L2.CX P w) P w K mg base N x (defScope st) f cdv A outer s H E) (defBody st) t ∧ ∀ ds Ψ Ξ, C ds Ψ Ξ → SWX CN E Ξ t (startD N ds) { nx := fun _ Ω' => Ω' = [] ∧ Ψ N0, rt := fun d Ω' => Ω' = [] ∧ Ψ d }) : Fn P w K mg base (L2.CX P w) x (k + 1) ps (spE CN C) := by
  obtain ⟨f, fd, h1, h2, h3⟩ := F.ex
  refine ⟨f, fd, h2, h1.kp, h3, h1.okX S (fun vs H Q E h => ?_) fun cdv A outer s H vs Q E hr h => ?_⟩
  · obtain ⟨H0, ds, Ψ, Ξ, _, r, c, _⟩ := h
    exact (Paired.length r).trans (len _ _ _ c)
  · obtain ⟨H0, ds, Ψ, Ξ, g, r, c, k, kx⟩ := h
    obtain ⟨t, ht, q⟩ := hbody f cdv A outer s H E hr
    refine ⟨t, ht, q ds Ψ Ξ c _ H0 H _ (start_sl N r) g ⟨fun σ' Γ' Ω' H0' H' q s' g' c' => ?_, fun v d Ω' H0' H' q r' g' c' => ?_, fun _ _ _ _ _ h => h.elim, fun _ _ _ _ _ h => h.elim⟩ kx⟩
    · obtain ⟨rfl, q⟩ := q; exact k _ _ H0' H' q g' c' .non
    · obtain ⟨rfl, q⟩ := q; exact k v d H0' H' q g' c' r'
theorem pe_fnX {X : Cx} {x : Str} {k j : Nat} {ps : List Str} {sp : Sp} {E : XK} {e : Expr} {es : List Expr} {t : TA} {p pos : Pos} (F : Fn X.prog X.w X.K X.mg X.base (L2.CX X.prog X.w) x k ps sp) (hr : Room j X.A) (hk : k ≤ j) (tk : Takes X (fun cls d _ H => E cls d H)) (ha : PA X (e :: es) t) (hg : Gl X x := by rfl)
    (hdb : (x == ("__debug__" : Str)) = false := by decide) (he : starEach (e :: es) X.env = (false, eval e X.env) :: starEach es X.env := by rfl) (hpl : (backTo pos (starEach es X.env)).any (·.1) = false := by rfl) :
    PE X (.Call (.Name x p) (e :: es) [] pos) (tCall sp [] E t) := by
  obtain ⟨f, fd, h1, h2, h3, h4⟩ := F.ex
  exact pe_call h4 (hr.mono hk) hg h1 h2 h3 .nil (passes_call tk fun _ _ _ _ h => h) ha hdb he hpl
theorem pe_fnS {X : Cx} {x : Str} {k j : Nat} {ps : List Str} {sp : Sp} {W : WX} {e : Expr} {es : List Expr} {t : TA} {p pos : Pos} (F : Fn X.prog X.w X.K X.mg X.base (L2.CX X.prog X.w) x k ps sp) (hr : Room j X.A) (hk : k ≤ j) (tk : Takes X W) (ha : PA X (e :: es) t) (hg : Gl X x := by rfl)
    (hdb : (x == ("__debug__" : Str)) = false := by decide) (he : starEach (e :: es) X.env = (false, eval e X.env) :: starEach es X.env := by rfl) (hpl : (backTo pos (starEach es X.env)).any (·.1) = false := by rfl) :
    PE X (.Call (.Name x p) (e :: es) [] pos) (tCallS sp (WE W) t) := by
  obtain ⟨f, fd, h1, h2, h3, h4⟩ := F.ex
  exact pe_callS h4 (hr.mono hk) hg h1 h2 h3 (fun σ => passAt tk σ) ha hdb he hpl
end
/-- try: x = f(..) except CN as n: x = None -/
theorem sw_tryN {Γ : En} {Ω : Om} {Φ : Po} {CN : Addr} {K : PySem.W.Frag} {C : CE} {aa : TA} {ds : List D} {i j : Nat} {W0 : WX} (he : PySem.W.exmOne K (.ref CN) (.ref CN) = some true) (ha : ArD aa Γ Ω ds) (hj : Γ[j]? = some none) (hij : i ≠ j)
    (hc : C ds (fun d => Φ.nx (Γ.set i (some d)) Ω) (Φ.nx (Γ.set i (some N0)) Ω)) : SW (fun Dn σ H => tAsg (tCallS (spE CN C) (WE (wAs K (.ref CN) j (fun _ _ _ => tAsg (tC .non) (gName i)) W0 Dn)) aa) (gName i) Dn σ H) Γ Ω Φ := fun σ H0 H W s g r =>
  ha.bind s g fun vs H01 H1 s1 g1 c1 r1 => by
    have r' := r.step c1 g1.ex
    refine ⟨H01, ds, _, _, g1.nil, r1, hc, fun v d H0' H' q g' c' rv => ?_, fun q dd H0' H' g' c' => ?_⟩
    · obtain ⟨a, b⟩ := G.frame (Ω := []) (Ωr := Ω) g1 g' c'
      exact r'.nx _ _ Ω H0' H' q ((s1.mono c'.ex).set i rv) a b
    · obtain ⟨a, b⟩ := G.frame (Ω := []) (Ωr := Ω) g1 g' c'
      refine ⟨true, he, fun _ ad _ => ?_, fun z => by cases z⟩
      refine r'.nx _ _ Ω H0' H' q ⟨?_, fun k d h => ?_⟩ a b
      · rw [List.length_set, List.length_set, List.length_set, List.length_set]; exact s1.len
      · have s2 := ((s1.mono c'.ex).set i (v := .non) (d := N0) .non).at_ k d h
        obtain ⟨v, e1, e2⟩ := s2
        refine ⟨v, ?_, e2⟩
        have hkj : k ≠ j := by
          intro e
          subst e
          rw [List.getElem?_set_ne hij, hj] at h
          cases h
        rw [List.getElem?_set_ne (Ne.symm hkj)]
        by_cases hik : i = k
        · subst hik
          rw [List.getElem?_set] at e1 ⊢
          rw [List.length_set]
          rw [if_pos rfl] at e1 ⊢
          exact e1
        · rw [List.getElem?_set_ne hik] at e1 ⊢
          rw [List.getElem?_set_ne (Ne.symm hkj)]
          exact e1
end G
end

section
set_option Elab.async false
set_option linter.all false
set_option maxRecDepth 100000
set_option maxHeartbeats 4000000
namespace G
open PySem L2
open PySem.W (EachIs AllAlike Sortable dataLe alike)
open PyProof.Rows (callWith_type1)
section
variable {X : Cx}
abbrev dPr (p : Int × Int) : PyData := .tuple [.int p.1, .int p.2]
theorem paired_at {α β : Type} {F : α → β → Prop} : ∀ {xs : List α} {ys : List β}, Paired F xs ys → ∀ {i : Nat} {x : α} {y : β}, xs[i]? = some x → ys[i]? = some y → F x y
  | _, _, .nil, i, x, y, h, _ => by simp at h
  | _, _, .cons a _, 0, x, y, h, h' => by
    simp at h h'
    subst h h'
    exact a
  | _, _, .cons _ t, i + 1, x, y, h, h' => paired_at t (by simpa using h) (by simpa using h')
/-! ### sorted(d), the keys pairs of ints -/
def rSrtDT : List V → Hp → VK → Prop := fun xs H Q => ∃ (a : Addr) (kvs : List (List Key × V)) (ks : List (Int × Int)), xs = [.ref a] ∧ Rd H a (.dT kvs) ∧ kvs.map (·.1) = ks.map pairK ∧ ks.length ≤ 100000 ∧
  ∀ (p : Addr) (ys : List V), H p = none → Paired (fun v (k : Int × Int) => ∃ b, v = .ref b ∧ H b = some (.tup [.int k.1, .int k.2])) ys (ks.mergeSort (dataLe false dPr)) → Q (.ref p) (upd H p (.lst ys))
theorem cr_srtDT (hc : X.calm = true) (hu : X.A.units + 64 < cLine) : CallR X (.builtin "sorted") rSrtDT := by
  intro pins s σ H vs us Q I r h
  obtain ⟨a, kvs, ks, rfl, hd, hks, hlen, q⟩ := h
  obtain ⟨u, rfl, ru⟩ := vals1 r
  cases ru
  obtain ⟨z, lo, xs, rel, o, es, ep, ho, hx, hdat, hes, his, hn⟩ := dt_rd I.hok hd
  have l1 : kvs.length = ks.length := by simpa using congrArg List.length hks
  have l2 : kvs.length = xs.length := Paired.length rel
  have l3 : es.size = xs.length := size_of_entries hes
  have h16 : es.size ≤ sizeLine := by rw [l3, ← l2]; exact z
  refine Calls.call_function_entry PyProof.Rows.kind_sorted PyProof.Rows.plain_sorted PyProof.Rows.entry_sorted (PyProof.Rows.args_sorted1 _) ?_
  unfold Builtin.«sorted»
  refine wpAny_bind (m := checkCount "sorted" 1 1 _) (wpAny_pure ?_)
  refine wpAny_bind (PySem.W.kdu_collect (A := X.A.in1) (KdlSrc.rawDict (es := es) (ep := ep) lo) (I.ok.hd hc) ⟨o, ho, hx, hdat⟩ h16 fun h' tk acc hk hacc => ?_)
  have I1 : Inv X pins σ H { s with heap := h', toks := tk } := I.kept hk
  have hal : acc.toList.length = ks.length := by rw [Array.length_toList, hacc.1]; omega
  -- what each collected value is
  have each : ∀ (j : Nat) (k : Int × Int), ks[j]? = some k → ∃ b : Addr, acc.toList[j]? = some (Value.ref b) ∧ H b = some (.tup [.int k.1, .int k.2]) := by
    intro j k hj
    have hjl : j < ks.length := (List.getElem?_eq_some_iff.mp hj).1
    have hja : j < acc.toList.length := by omega
    obtain ⟨hi, e2⟩ := hacc.2 j acc.toList[j] (by rw [← Array.getElem?_toList]; exact List.getElem?_eq_getElem hja)
    have hxj : j < xs.length := by omega
    have hkj : j < kvs.length := by omega
    have he := entry_at hes j
    rw [List.getElem?_eq_getElem hxj, Array.getElem?_eq_getElem hi] at he
    have he' : es[j] = entryOfKey (tupleKind (mixKind X.prog X.w)) xs[j] := Option.some.inj he
    have rj := paired_at rel (List.getElem?_eq_getElem hkj) (List.getElem?_eq_getElem hxj)
    have hk1 : kvs[j].1 = pairK k := by
      have : (kvs.map (·.1))[j]? = some (pairK k) := by rw [hks, List.getElem?_map, hj]; rfl
      rw [List.getElem?_map, List.getElem?_eq_getElem hkj] at this
      exact Option.some.inj this
    refine ⟨xs[j].2.1, ?_, ?_⟩
    · rw [List.getElem?_eq_getElem hja, e2, he']; rfl
    · have := rj.2.1
      rw [hk1] at this
      exact this
  refine wpAny_bind (wpAny_newList ?_ (by rw [hal]; exact Nat.le_trans hlen (by decide)))
  have hoL : (h'.push (PyProof.Rows.seqObj "list" acc.toList.toArray 0)).get? h'.objs.size = some (PyProof.Rows.seqObj "list" acc.toList.toArray 0) := Heap.get?_push_size _ rfl
  show wpAny _ _ _ _ _ { s with heap := h'.push (PyProof.Rows.seqObj "list" acc.toList.toArray 0), toks := tk }
  have I2 : Inv X pins σ H { s with heap := h'.push (PyProof.Rows.seqObj "list" acc.toList.toArray 0), toks := tk } := I1.kept (t' := tk) fun b u e => Heap.get?_push_of_some _ e
  let F : V → Int × Int → Prop := fun v k => ∃ b, v = .ref b ∧ H b = some (.tup [.int k.1, .int k.2])
  let R : Value → Int × Int → Prop := fun v k => ∃ b, v = .ref b ∧ H b = some (.tup [.int k.1, .int k.2])
  have eR : EachIs R acc.toList ks := by
    have : ∀ {l : List Value} {ks : List (Int × Int)}, l.length = ks.length → (∀ (j : Nat) (k : Int × Int), ks[j]? = some k → ∃ b : Addr, l[j]? = some (Value.ref b) ∧ H b = some (.tup [.int k.1, .int k.2])) → EachIs R l ks := by
      intro l
      induction l with
      | nil => intro ks h _; cases ks with
        | nil => exact .nil
        | cons => simp at h
      | cons v l ih => intro ks h e; cases ks with
        | nil => simp at h
        | cons k ks =>
          obtain ⟨b, h1, h2⟩ := e 0 k rfl
          simp at h1
          exact .cons ⟨b, h1, h2⟩ (ih (by simpa using h) fun j k hj => by
            obtain ⟨b, h1, h2⟩ := e (j + 1) k (by simpa using hj)
            exact ⟨b, by simpa using h1, h2⟩)
    exact this hal each
  have eD : EachIs (fun v k => ∃ as, Reads (h'.push (PyProof.Rows.seqObj "list" acc.toList.toArray 0)) v (dPr k) as ∧ h'.objs.size ∉ as) acc.toList ks := eR.mono fun v k ⟨b, hb, hH⟩ => by
    subst hb
    obtain ⟨_, its, rv, ob, h1, h2, n, h3⟩ := (show ObjOk X.prog X.w H (h'.push (PyProof.Rows.seqObj "list" acc.toList.toArray 0)) b (.tup [.int k.1, .int k.2]) from I2.hok b _ hH)
    obtain ⟨u1, u2, rfl, r1, r2⟩ := rv.two
    obtain ⟨t1, rfl⟩ := r1
    obtain ⟨t2, rfl⟩ := r2
    exact ⟨[], .tuple h1 h2 h3 (.cons (.int _ _) (.cons (.int _ _) .nil)), by simp⟩
  have alk : AllAlike (ks.map dPr) := fun d hd d' hd' => by
    obtain ⟨x, _, rfl⟩ := List.mem_map.mp hd
    obtain ⟨y, _, rfl⟩ := List.mem_map.mp hd'
    rfl
  have srt : Sortable (ks.map dPr) := .inl fun d hd => by
    obtain ⟨x, _, rfl⟩ := List.mem_map.mp hd
    exact ⟨_, _, rfl⟩
  refine wpAny_bind (wpAny_holding (PySem.W.list_sort_data (s := { s with heap := h'.push (PyProof.Rows.seqObj "list" acc.toList.toArray 0), toks := tk }) hoL eR eD alk srt (Nat.le_trans hlen (by decide)) (fun b hb => ?_) fun out ho2 eo => ?_))
  · have : (dPr b).depth ≤ 8 := Nat.le_of_ble_eq_true rfl
    show X.A.units + 1 + 1 + (dPr b).depth < cLine
    omega
  · obtain ⟨e', he'⟩ := PyProof.Rows.sortedHeap_at (vs := acc.toList) (out := List.toArray out) hoL
    have back : ∃ ys : List V, Vals ys out ∧ Paired F ys (ks.mergeSort (dataLe false dPr)) := by
      have : ∀ {l : List Value} {ks : List (Int × Int)}, EachIs R l ks → ∃ ys : List V, Vals ys l ∧ Paired F ys ks := by
        intro l ks h
        induction h with
        | nil => exact ⟨[], .nil, .nil⟩
        | cons hb _ ih =>
          obtain ⟨b, rfl, hH⟩ := hb
          obtain ⟨ys, y1, y2⟩ := ih
          exact ⟨.ref b :: ys, .cons rfl y1, .cons ⟨b, rfl, hH⟩ y2⟩
      exact this eo
    obtain ⟨ys, y1, y2⟩ := back
    have hl2 : ys.length ≤ sizeLine := by rw [Vals.length y1, ho2]; exact Nat.le_trans hlen (by decide)
    refine wpAny_pure ⟨_, rfl, .ref h'.objs.size, upd H h'.objs.size (.lst ys), I1.laid (t' := tk) (fun b u e => ?_) (Nat.le_refl _) (show ObjOk X.prog X.w _ _ _ (.lst ys) from ⟨hl2, out, e', y1, he'⟩), rfl, q _ ys (I1.hok.fresh (Nat.le_refl _)) y2⟩
    have hb : b < h'.objs.size := Heap.lt_size e
    rw [PyProof.Rows.sortedHeap_old (Nat.ne_of_lt hb) (by rw [PyProof.Rows.size_push']; exact Nat.lt_succ_of_lt hb)]
    exact Heap.get?_push_of_some _ e
end
end G
namespace G
open PySem L2
open PyProof.Rows (callWith_type1)
/-! ### dict(zip(xs, ys)), the xs tuples -/
def tDZ (K : PySem.W.Frag) (ta : TA) : TE := fun σ H Q => ta σ H fun vs H1 => ∃ (a b : Addr) (xs ys : List V) (ks : List (List Key)), vs = [.ref a, .ref b] ∧ SqL K H1 a xs ∧ SqL K H1 b ys ∧
  Paired (fun v (k : List Key) => ∃ p, v = .ref p ∧ H1 p = some (.tup (k.map kV))) xs ks ∧ ys.length = xs.length ∧ ks.Nodup ∧ ks.length ≤ 1000 ∧ ∀ d, H1 d = none → Q (.ref d) (upd H1 d (.dT (ks.zip ys)))
theorem storedAllH_nd {K : Type} [DecidableEq K] : ∀ (ps : List (K × Addr × Value)), (ps.map (·.1)).Nodup → storedAllH [] ps = ps := by
  have : ∀ (ps acc : List (K × Addr × Value)), ((acc ++ ps).map (·.1)).Nodup → storedAllH acc ps = acc ++ ps := by
    intro ps
    induction ps with
    | nil => intro acc _; simp [storedAllH]
    | cons p ps ih =>
      intro acc h
      have hn : (acc.map (·.1)).Nodup ∧ p.1 ∉ acc.map (·.1) := by
        rw [List.map_append, List.nodup_append] at h
        exact ⟨h.1, fun hm => h.2.2 _ hm _ (by simp) rfl⟩
      have hs : storedH acc p.1 p.2.1 p.2.2 = acc ++ [p] := by
        unfold storedH
        have : atKey acc p.1 = none := by
          cases e : atKey acc p.1 with
          | none => rfl
          | some q =>
            exfalso
            refine hn.2 ?_
            have hq : (acc.any fun kv => decide (kv.1 = p.1)) = true := by
              unfold atKey at e
              obtain ⟨x, hx, _⟩ := Option.map_eq_some_iff.mp e
              rw [List.any_eq_true]
              exact ⟨x, List.mem_of_find?_eq_some hx, by simpa using List.find?_some hx⟩
            obtain ⟨x, hx, e2⟩ := List.any_eq_true.mp hq
            rw [← of_decide_eq_true e2]
            exact List.mem_map_of_mem hx
        rw [this]
        simp
      show storedAllH (storedH acc p.1 p.2.1 p.2.2) ps = acc ++ p :: ps
      rw [hs, ih (acc ++ [p]) (by simpa using h)]
      simp
  intro ps h
  simpa using this ps [] (by simpa using h)
theorem pe_dictzip {X : Cx} {e e2 : Expr} {ta : TA} {p p2 pos pos2 : Pos} {j : Nat} (hr : Room j X.A) (hmd : X.mg "dict" = none) (hmz : X.mg "zip" = none) (ha : PA X [e, e2] ta) (hc : X.calm = true := by rfl) (hgd : Gl X "dict" := by rfl) (hgz : Gl X "zip" := by rfl)
    (hs : starEach [.Call (.Name "zip" p2) [e, e2] [] pos2] X.env = (false, eval (.Call (.Name "zip" p2) [e, e2] [] pos2) X.env) :: starEach [] X.env := by rfl)
    (hs2 : starEach [e, e2] X.env = (false, eval e X.env) :: starEach [e2] X.env := by rfl) (hpl : (backTo pos2 (starEach [e2] X.env)).any (·.1) = false := by rfl) :
    PE X (.Call (.Name "dict" p) [.Call (.Name "zip" p2) [e, e2] [] pos2] [] pos) (tDZ X.K ta) := by
  refine ⟨fun pins s σ H Q I h => ?_⟩
  refine PyProof.Rows.Call_ (ld_blt I hgd hmd PyProof.Rows.boot_dict (callWith_type1 ?_ hs rfl))
  rw [hs]
  show wpAny _ _ (spliced ((false, eval (.Call (.Name "zip" p2) [e, e2] [] pos2) X.env) :: backTo pos (starEach [] X.env))) _ _ s
  refine Calls.spliced_cons ?_
  refine PyProof.Rows.Call_ (ld_blt I hgz hmz PyProof.Rows.boot_zip (callWith_type1 (thn (ha.run pos2 pins s σ H _ I h) fun us s1 ⟨vs, H1, I1, r1, q1⟩ => ?_) hs2 hpl))
  obtain ⟨a, b, xs, ys, ks, ex, hqx, hqy, hk, hlen, hnd, hz, q⟩ := q1
  subst ex
  cases r1 with
  | cons r rr =>
    cases rr with
    | cons r' rr =>
      cases rr
      cases r
      cases r'
      obtain ⟨its, rv, p1, _⟩ := I1.list hqx
      obtain ⟨its2, rv2, p2', _⟩ := I1.list hqy
      have la : a < s1.heap.objs.size := p1.lt
      have lb : b < s1.heap.objs.size := p2'.lt
      refine call_zip_2 p1.isList p2'.isList fun h' hz' hTI hTO h1 h2 hsz hkp => ?_
      have I2 : Inv X pins σ H1 { s1 with heap := h' } := I1.kept (t' := s1.toks) hkp
      have D := PySem.W.ktu_apart s1.heap.objs.size a b la lb
      show wpAny _ _ (spliced []) _ _ _
      refine Calls.spliced_nil ?_
      have lx : xs.length = its.length := Vals.length rv
      have ly : ys.length = its2.length := Vals.length rv2
      have lk : xs.length = ks.length := Paired.length hk
      -- the pairs
      have pr : ∃ ps : List (List Key × Addr × Value), ps.length = xs.length ∧ ps.map (·.1) = ks ∧ (∀ (i : Nat) (kv : Value), its[i]? = some kv → ∀ v, its2[i]? = some v → ∃ k bb, ps[i]? = some (k, bb, v) ∧ kv = .ref bb) ∧
          Paired (fun (pp : List Key × V) (qq : List Key × Addr × Value) => pp.1 = qq.1 ∧ H1 qq.2.1 = some (.tup (pp.1.map kV)) ∧ RelV pp.2 qq.2.2) (ks.zip ys) ps := by
        have : ∀ {xs ys : List V} {its its2 : List Value} {ks : List (List Key)}, Vals xs its → Vals ys its2 → Paired (fun v (k : List Key) => ∃ p, v = V.ref p ∧ H1 p = some (.tup (k.map kV))) xs ks → ys.length = xs.length →
            ∃ ps : List (List Key × Addr × Value), ps.length = xs.length ∧ ps.map (·.1) = ks ∧ (∀ (i : Nat) (kv : Value), its[i]? = some kv → ∀ v, its2[i]? = some v → ∃ k bb, ps[i]? = some (k, bb, v) ∧ kv = .ref bb) ∧
              Paired (fun (pp : List Key × V) (qq : List Key × Addr × Value) => pp.1 = qq.1 ∧ H1 qq.2.1 = some (.tup (pp.1.map kV)) ∧ RelV pp.2 qq.2.2) (ks.zip ys) ps := by
          intro xs
          induction xs with
          | nil =>
            intro ys its its2 ks r1 r2 hk hl
            cases r1; cases hk
            exact ⟨[], rfl, rfl, fun i kv h => by simp at h, .nil⟩
          | cons x xs ih =>
            intro ys its its2 ks r1 r2 hk hl
            cases r1 with
            | cons ra rt =>
              cases hk with
              | cons ka kt =>
                cases ys with
                | nil => simp at hl
                | cons y ys =>
                  cases r2 with
                  | cons sa st =>
                    obtain ⟨ps, g1, g2, g3, g4⟩ := ih rt st kt (by simpa using hl)
                    obtain ⟨bb, rfl, hH⟩ := ka
                    rename_i k0 ks0 v0 vs0
                    have hv0 := ra
                    cases (show _ = Value.ref bb from ra)
                    refine ⟨(_, bb, _) :: ps, by simp [g1], by rw [List.map_cons, g2], fun i kv h v hv => ?_, .cons ⟨rfl, hH, sa⟩ g4⟩
                    cases i with
                    | zero =>
                      simp at h hv
                      subst h hv
                      exact ⟨_, bb, rfl, rfl⟩
                    | succ i => exact g3 i kv (by simpa using h) v (by simpa using hv)
        exact this rv rv2 hk hlen
      obtain ⟨ps, g1, g2, g3, g4⟩ := pr
      have hndp : (ps.map (·.1)).Nodup := by rw [g2]; exact hnd
      have wrn : ∀ c ∈ [s1.heap.objs.size + 4, s1.heap.objs.size + 3, s1.heap.objs.size, s1.heap.objs.size + 1], s1.heap.objs.size ≤ c := fun c hc => by
        simp only [List.mem_cons, List.not_mem_nil, or_false] at hc
        rcases hc with e | e | e | e <;> (rw [e]; first | exact Nat.le_add_right _ _ | exact Nat.le_refl _)
      have hu : X.A.units + 64 < cLine := hr.units
      refine call_dict_pairsH (knd := tupleKind (mixKind X.prog X.w)) (ps := ps) (PairArg.zip (s1.heap.objs.size + 4) (s1.heap.objs.size + 2) (s1.heap.objs.size + 3) s1.heap.objs.size (s1.heap.objs.size + 1) a b D its.toArray its2.toArray) (I2.ok.hd hc) (show X.A.units + 1 + 1 < cLine by omega)
        ⟨hz', hTI, ⟨_, _, hTO⟩, h1, h2, p1.isList.at fun o e => hkp _ o e, p2'.isList.at fun o e => hkp _ o e⟩ ⟨by rw [g1]; simp; omega, fun i key v ⟨e1, e2⟩ => g3 i key (by simpa using e1) v (by simpa using e2)⟩ ?_ ?_ ?_
      · intro h'' hk'' x hx
        obtain ⟨i, hi⟩ := List.getElem?_of_mem hx
        have hil : i < (ks.zip ys).length := by
          have := (List.getElem?_eq_some_iff.mp hi).1
          rw [List.length_zip]; omega
        have := paired_at g4 (List.getElem?_eq_getElem hil) hi
        have hkey := key_of I1.hok this.2.1
        rw [this.1] at hkey
        obtain ⟨o, items, n, ho, hc', hd, hi'⟩ := hkey
        have hlt : x.2.1 < s1.heap.objs.size := Heap.lt_size ho
        refine ⟨o, items, n, hk'' _ _ (Nat.ne_of_lt (Nat.lt_of_lt_of_le hlt (by show s1.heap.objs.size ≤ h'.objs.size; omega))) (fun hm => ?_) (hkp _ _ ho), hc', hd, hi'⟩
        exact absurd (wrn _ hm) (Nat.not_le_of_lt hlt)
      · have : (its.toArray.size : Nat) ≤ 1000 := by simp; omega
        have h3 : min its.toArray.size its2.toArray.size ≤ 1000 := by omega
        exact Nat.le_trans h3 (by decide)
      · intro h'' tk hd'' hk''
        rw [storedAllH_nd ps hndp] at hd''
        obtain ⟨o, es, ep, ho, hx, hdat, hes, his, hn⟩ := hd''
        have hle : s1.heap.objs.size ≤ h'.objs.size := by omega
        have hdn : H1 h'.objs.size = none := I1.hok.fresh hle
        have hbig : (h'.objs.size == sysModules) = false := beq_eq_false_iff_ne.mpr (Nat.ne_of_gt (Nat.lt_of_lt_of_le I1.big hle))
        refine ⟨.ref h'.objs.size, upd H1 h'.objs.size (.dT (ks.zip ys)), I1.laid (t' := tk) (fun b u e => hk'' b u (fun hm => ?_) (hkp b u e)) hle (show ObjOk X.prog X.w _ _ _ (.dT (ks.zip ys)) from ⟨?_, hbig, ps, ?_, o, es, ep, ho, hx, hdat, hes, hn⟩), rfl, q _ hdn⟩
        · exact absurd (wrn _ hm) (Nat.not_le_of_lt (Heap.lt_size e))
        · rw [List.length_zip]
          exact Nat.le_trans (Nat.min_le_left _ _) (Nat.le_trans hz (by decide))
        · have : ∀ {l : List (List Key × V)} {m : List (List Key × Addr × Value)}, Paired (fun (pp : List Key × V) (qq : List Key × Addr × Value) => pp.1 = qq.1 ∧ H1 qq.2.1 = some (.tup (pp.1.map kV)) ∧ RelV pp.2 qq.2.2) l m →
              Paired (fun (pp : List Key × V) (qq : List Key × Addr × Value) => pp.1 = qq.1 ∧ (upd H1 h'.objs.size (.dT (ks.zip ys))) qq.2.1 = some (.tup (pp.1.map kV)) ∧ RelV pp.2 qq.2.2) l m := by
            intro l m h
            induction h with
            | nil => exact .nil
            | cons a _ ih => exact .cons ⟨a.1, by rw [upd_ne (ne_of_none a.2.1 hdn)]; exact a.2.1, a.2.2⟩ ih
          exact this g4
end G
end

section
set_option Elab.async false
set_option linter.all false
set_option maxRecDepth 100000
set_option maxHeartbeats 4000000
namespace G
open PySem L2
section
variable {Γ : En} {Ω : Om} {te ta tb tc tl td tv ty : TE} {tt tu : TT} {t u : TS} {Φ : Po} {g : TG} {gs : TGs}
/-! ### parts that draw -/
theorem ev_i0W {f : Int → Int → Int} {Q : D → Om → Prop} (h : EvW ta Γ Ω fun x Ω1 => ∃ i, x = I i ∧ EvW tb Γ Ω1 fun y Ω2 => ∃ j, y = I j ∧ Q (I (f i j)) Ω2) : EvW (tOp (rI0 fun i j => .int (f i j)) ta tb) Γ Ω Q :=
  op_w (h.imp fun x Ω1 ⟨i, e, q⟩ => q.imp fun y Ω2 ⟨j, e2, q2⟩ => by
    subst e e2
    intro v u σ H0 H R s g rv ru k
    cases rv; cases ru
    exact ⟨i, j, rfl, rfl, k _ _ Ω2 H0 H q2 g (.refl _ _ _) (Rp.int _)⟩)
theorem ev_iBW {f : Int → Int → Bool} {Q : D → Om → Prop} (h : EvW ta Γ Ω fun x Ω1 => ∃ i, x = I i ∧ EvW tb Γ Ω1 fun y Ω2 => ∃ j, y = I j ∧ Q (B (f i j)) Ω2) : EvW (tOp (rI0 fun i j => .bl (f i j)) ta tb) Γ Ω Q :=
  op_w (h.imp fun x Ω1 ⟨i, e, q⟩ => q.imp fun y Ω2 ⟨j, e2, q2⟩ => by
    subst e e2
    intro v u σ H0 H R s g rv ru k
    cases rv; cases ru
    exact ⟨i, j, rfl, rfl, k _ _ Ω2 H0 H q2 g (.refl _ _ _) (Rp.bl _)⟩)
theorem ev_iCW {C : Int → Int → Prop} {f : Int → Int → Int} {Q : D → Om → Prop} (h : EvW ta Γ Ω fun x Ω1 => ∃ i, x = I i ∧ EvW tb Γ Ω1 fun y Ω2 => ∃ j, y = I j ∧ C i j ∧ Q (I (f i j)) Ω2) : EvW (tOp (rI C fun i j => .int (f i j)) ta tb) Γ Ω Q :=
  op_w (h.imp fun x Ω1 ⟨i, e, q⟩ => q.imp fun y Ω2 ⟨j, e2, hc, q2⟩ => by
    subst e e2
    intro v u σ H0 H R s g rv ru k
    cases rv; cases ru
    exact ⟨i, j, rfl, rfl, hc, k _ _ Ω2 H0 H q2 g (.refl _ _ _) (Rp.int _)⟩)
theorem ev_eqIW {Q : D → Om → Prop} (h : EvW ta Γ Ω fun x Ω1 => ∃ i, x = I i ∧ EvW tb Γ Ω1 fun y Ω2 => ∃ j, y = I j ∧ Q (B (decide (i = j))) Ω2) : EvW (tOp rEq ta tb) Γ Ω Q :=
  op_w (h.imp fun x Ω1 ⟨i, e, q⟩ => q.imp fun y Ω2 ⟨j, e2, q2⟩ => by
    subst e e2
    intro v u σ H0 H R s g rv ru k
    cases rv; cases ru
    exact ⟨rfl, by rw [dec_ii]; exact k _ _ Ω2 H0 H q2 g (.refl _ _ _) (Rp.bl _)⟩)
/-- an item of a frozen list, its place drawn -/
theorem ev_ixLW {K : PySem.W.Frag} {ds : List PyData} {Q : D → Om → Prop} (ha : EvD ta Γ Ω (.py (.list ds))) (h : EvW tb Γ Ω fun y Ω2 => ∃ i d, y = I i ∧ atI ds i = some d ∧ Q (.py d) Ω2) : EvW (tOp (rIxL K) ta tb) Γ Ω Q :=
  op_w (ha.w (h.imp fun y Ω2 ⟨i, d, e, hd, q⟩ => by
    subst e
    intro v u σ H0 H R s g rv ru k
    cases ru
    cases rv with
    | lst h1 r =>
      obtain ⟨x, e1, e2⟩ := atI_map r.length hd (P := Rp H0) fun j hj => r.get hj
      exact ⟨_, _, i, x, rfl, rfl, SqL.of (g.ex _ _ h1), e1, k x _ Ω2 H0 H q g (.refl _ _ _) e2⟩))
theorem ev_ixTW {K : PySem.W.Frag} {ds : List PyData} {Q : D → Om → Prop} (ha : EvD ta Γ Ω (.py (.tuple ds))) (h : EvW tb Γ Ω fun y Ω2 => ∃ i d, y = I i ∧ atI ds i = some d ∧ Q (.py d) Ω2) : EvW (tOp (rIxT K) ta tb) Γ Ω Q :=
  op_w (ha.w (h.imp fun y Ω2 ⟨i, d, e, hd, q⟩ => by
    subst e
    intro v u σ H0 H R s g rv ru k
    cases ru
    cases rv with
    | tup h1 r =>
      obtain ⟨x, e1, e2⟩ := atI_map r.length hd (P := Rp H0) fun j hj => r.get hj
      exact ⟨_, _, i, x, rfl, rfl, SqT.of (g.ex _ _ h1), e1, k x _ Ω2 H0 H q g (.refl _ _ _) e2⟩))
theorem ts_BW {Q : Bool → Om → Prop} (h : EvW te Γ Ω fun d Ω1 => ∃ b, d = B b ∧ Q b Ω1) : TsW (tB te) Γ Ω Q := fun σ H0 H R s g k =>
  h.bind s g fun v d Ω1 H01 H1 q1 s1 g1 c1 r1 => by
    obtain ⟨b, rfl, q⟩ := q1
    cases r1
    exact ⟨b, rfl, k b Ω1 H01 H1 q g1 c1⟩
theorem ts_TW {Q : Bool → Om → Prop} (h : EvW te Γ Ω fun d Ω1 => ∃ b, d = B b ∧ Q b Ω1) : TsW (tTest te) Γ Ω Q := ts_BW h
theorem ts_andW {Q : Bool → Om → Prop} (h : TsW tt Γ Ω fun b Ω1 => if b = true then TsW tu Γ Ω1 Q else Q false Ω1) : TsW (tAnd tt tu) Γ Ω Q := fun σ H0 H R s g k =>
  h σ H0 H _ s g fun b Ω1 H01 H1 q1 g1 c1 => by
    cases b with
    | false =>
      rw [if_neg Bool.false_ne_true] at q1 ⊢
      exact k false Ω1 H01 H1 q1 g1 c1
    | true =>
      rw [if_pos rfl] at q1 ⊢
      exact q1 σ H01 H1 R (s.mono c1.ex) g1 fun b Ω2 H02 H2 q2 g2 c2 => k b Ω2 H02 H2 q2 g2 (c1.trans c2 g1.ex)
theorem ts_orW {Q : Bool → Om → Prop} (h : TsW tt Γ Ω fun b Ω1 => if b = true then Q true Ω1 else TsW tu Γ Ω1 Q) : TsW (tOr tt tu) Γ Ω Q := fun σ H0 H R s g k =>
  h σ H0 H _ s g fun b Ω1 H01 H1 q1 g1 c1 => by
    cases b with
    | true =>
      rw [if_pos rfl] at q1 ⊢
      exact k true Ω1 H01 H1 q1 g1 c1
    | false =>
      rw [if_neg Bool.false_ne_true] at q1 ⊢
      exact q1 σ H01 H1 R (s.mono c1.ex) g1 fun b Ω2 H02 H2 q2 g2 c2 => k b Ω2 H02 H2 q2 g2 (c1.trans c2 g1.ex)
theorem ts_notW {Q : Bool → Om → Prop} (h : TsW tt Γ Ω fun b Ω1 => Q (!b) Ω1) : TsW (tNot tt) Γ Ω Q := fun σ H0 H R s g k =>
  h σ H0 H _ s g fun b Ω1 H01 H1 q1 g1 c1 => k (!b) Ω1 H01 H1 q1 g1 c1
theorem TsD.toW {b : Bool} {Q : Bool → Om → Prop} (h : TsD tt Γ Ω b) (q : Q b Ω) : TsW tt Γ Ω Q := h Q q
theorem ArD.toW {aa : TA} {ds : List D} {Q : List D → Om → Prop} (h : ArD aa Γ Ω ds) (q : Q ds Ω) : ArW aa Γ Ω Q := h Q q
theorem ar_nilW {Q : List D → Om → Prop} (q : Q [] Ω) : ArW tNil Γ Ω Q := ar_nil.toW q
/-- a new frozen tuple of drawn parts -/
theorem ev_tupW {aa : TA} {Q : D → Om → Prop} (h : ArW aa Γ Ω fun ds Ω1 => ∃ es : List PyData, ds = es.map D.py ∧ es.length ≤ 1000 ∧ Q (.py (.tuple es)) Ω1) : EvW (tTup aa) Γ Ω Q := fun σ H0 H R s g k =>
  h σ H0 H _ s g fun vs ds Ω1 H01 H1 q1 g1 c1 r1 => by
    obtain ⟨es, rfl, hz, q⟩ := q1
    have rr := RqL.py r1
    refine ⟨by rw [rr.length]; exact Nat.le_trans hz (by decide), fun p hp => ?_⟩
    obtain ⟨g2, c2⟩ := g1.frz hp (.tup vs)
    exact k _ _ Ω1 _ _ q g2 (c1.trans c2 g1.ex) (.tup upd_same (rr.mono c2.ex))
/-! ### the feed -/
theorem sw_openF {F : Addr} {n : Nat} {Ωr : Om} (q : ∀ (at_ rest : Int) (ns : List Int), ns.length ≤ 63 → 0 ≤ at_ → at_ ≤ n → 0 ≤ rest → SW t Γ ((F, .lst [.py (.list (ns.map PyData.int)), I at_, I rest]) :: Ωr) Φ) : SW t Γ ((F, .feed n) :: Ωr) Φ := fun σ H0 H W s g r => by
  obtain ⟨hF, o, hp, l, at_, rest, ns, rfl, hl, h63, h0, hn, hr⟩ := g.get (j := 0) rfl
  have ok : OwnOk H0 (.lst [.ref l, .int at_, .int rest]) (.lst [.py (.list (ns.map PyData.int)), I at_, I rest]) := ⟨_, rfl, .cons (.lst hl (RpL.ofInts ns)) (.cons (Rp.int _) (.cons (Rp.int _) .nil))⟩
  have g' : Hs ((F, .lst [.py (.list (ns.map PyData.int)), I at_, I rest]) :: Ωr) H0 H := ⟨g.ex, fun q hq => by
    rcases List.mem_cons.mp hq with e | hq
    · rw [e]; exact ⟨hF, _, hp, ok⟩
    · exact g.own q (List.mem_cons_of_mem _ hq), g.nd⟩
  refine q at_ rest ns h63 h0 hn hr σ H0 H W s g' ⟨fun a b d f e q s' g1 c => ?_, fun a b d f e q r' g1 c => ?_, fun a b d f e q s' g1 c => ?_, fun a b d f e q s' g1 c => ?_⟩
  · exact r.nx a b d f e q s' g1 ⟨c.ex, c.keep, c.new⟩
  · exact r.rt a b d f e q r' g1 ⟨c.ex, c.keep, c.new⟩
  · exact r.bk a b d f e q s' g1 ⟨c.ex, c.keep, c.new⟩
  · exact r.ct a b d f e q s' g1 ⟨c.ex, c.keep, c.new⟩
/-- behind a return the list is a feed again -/
theorem sw_retF {F : Addr} {n : Nat} {d : D} {at_ rest : Int} {ns : List Int} {Ωr : Om} (h : EvD te Γ ((F, .lst [.py (.list (ns.map PyData.int)), I at_, I rest]) :: Ωr) d) (h63 : ns.length ≤ 63) (h0 : 0 ≤ at_) (hn : at_ ≤ n) (hr : 0 ≤ rest) (q : Φ.rt d ((F, .feed n) :: Ωr)) : SW (tRet te) Γ ((F, .lst [.py (.list (ns.map PyData.int)), I at_, I rest]) :: Ωr) Φ := fun σ H0 H W s g r =>
  h.bind s g fun v H01 H1 s1 g1 c1 r1 => by
    obtain ⟨hF, o, hp, vs, rfl, rv⟩ := g1.get (j := 0) rfl
    have ok : OwnOk H01 (.lst vs) (.feed n) := by
      cases rv with
      | cons a b => cases b with
        | cons b c => cases c with
          | cons c d =>
            cases d
            cases b
            cases c
            cases a with
            | lst hl rr =>
              rw [RpL.ints rr] at hl
              exact ⟨_, at_, rest, ns, rfl, hl, h63, h0, hn, hr⟩
    have g' : Hs ((F, .feed n) :: Ωr) H01 H1 := ⟨g1.ex, fun q hq => by
      rcases List.mem_cons.mp hq with e | hq
      · rw [e]; exact ⟨hF, _, hp, ok⟩
      · exact g1.own q (List.mem_cons_of_mem _ hq), g1.nd⟩
    exact r.rt v d _ H01 H1 q r1 g' ⟨c1.ex, c1.keep, c1.new⟩
theorem ev_ixO {K : PySem.W.Frag} {j : Nat} {p : Addr} {ds : List D} {i : Int} {d : D} (ha : EvD ta Γ Ω (.loc p)) (hb : EvD tb Γ Ω (I i)) (hj : Ω[j]? = some (p, .lst ds)) (h : atI ds i = some d) : EvD (tOp (rIxL K) ta tb) Γ Ω d := fun Q q σ H0 H R s g k =>
  ha.bind s g fun v H01 H1 s1 g1 c1 r1 => hb.bind s1 g1 fun u H02 H2 s2 g2 c2 r2 => by
    cases (show v = .ref p from r1)
    cases r2
    obtain ⟨_, o, hp, vs, rfl, rv⟩ := g2.get hj
    have get : ∀ {vs : List V} {ds : List D}, RqL H02 vs ds → ∀ {i : Nat} {d : D}, ds[i]? = some d → ∃ v, vs[i]? = some v ∧ Rq H02 v d := by
      intro vs ds r
      induction r with
      | nil => intro i d e; simp at e
      | cons a _ ih =>
        intro i d e
        cases i with
        | zero => simp at e; subst e; exact ⟨_, rfl, a⟩
        | succ i =>
          obtain ⟨v, h1, h2⟩ := ih (i := i) (by simpa using e)
          exact ⟨v, by simpa using h1, h2⟩
    obtain ⟨x, e1, e2⟩ := atI_map (Paired.length rv) h (P := Rq H02) fun j hj => get rv hj
    exact ⟨p, vs, i, x, rfl, rfl, SqL.of hp, e1, k x d Ω H02 H2 q g2 (c1.trans c2 g1.ex) e2⟩
theorem sw_setO {j : Nat} {p : Addr} {ds : List D} {i : Int} {k : Nat} {d : D} (hv : EvD te Γ Ω d) (ho : EvD ta Γ Ω (.loc p)) (hi : EvD tb Γ Ω (I i)) (hj : Ω[j]? = some (p, .lst ds)) (hk : ixN ds.length i = some k) (q : Φ.nx Γ (Ω.set j (p, .lst (ds.set k d)))) : SW (tAsg te (gSub ta tb rSetL)) Γ Ω Φ := fun σ H0 H W s g r =>
  hv.bind s g fun v H01 H1 s1 g1 c1 r1 => ho.bind s1 g1 fun x H02 H2 s2 g2 c2 r2 => hi.bind s2 g2 fun y H03 H3 s3 g3 c3 r3 => by
    cases (show x = .ref p from r2)
    cases r3
    obtain ⟨_, o, hp, vs, rfl, rv⟩ := g3.get hj
    have hl : vs.length = ds.length := Paired.length rv
    have rs : ∀ {vs : List V} {ds : List D} (k : Nat), RqL H03 vs ds → RqL H03 (vs.set k v) (ds.set k d) := by
      intro vs ds k r
      induction r generalizing k with
      | nil => exact .nil
      | cons a t ih => cases k with
        | zero => exact .cons (r1.mono (c2.ex.trans c3.ex)) t
        | succ k => exact .cons a (ih k)
    obtain ⟨g4, c4⟩ := g3.put hj (o := .lst (vs.set k v)) (w' := .lst (ds.set k d)) ⟨_, rfl, rs k rv⟩
    exact ⟨p, vs, i, k, rfl, rfl, hp, by rw [hl]; exact hk, r.nx σ Γ _ H03 _ q s3 g4 (((c1.trans c2 g1.ex).trans c3 g2.ex).trans c4 g3.ex)⟩
/-! ### the script -/
theorem Rd.mono {H H' : Hp} (e : Same H H') {a : Addr} {u : HO} (h : Rd H a u) : Rd H' a u := by
  rcases h with h | ⟨o, h⟩
  · exact .inl (e _ _ h)
  · exact .inr ⟨o, e _ _ h⟩
theorem SqL.mono' {K : PySem.W.Frag} {H H' : Hp} (e : Same H H') {a : Addr} {xs : List V} (h : SqL K H a xs) : SqL K H' a xs := by
  rcases h with h | h
  · exact .inl (Rd.mono e h)
  · exact .inr h
def scriptM (K : PySem.W.Frag) (ns : List Int) : Mono := ⟨fun H v => ∃ a, v = .ref a ∧ SqL K H a (ns.map V.int), fun e ⟨a, h1, h2⟩ => ⟨a, h1, SqL.mono' e h2⟩⟩
theorem cut63 (ns : List Int) : cutV (ns.map V.int) none (some 63) = (ns.take 63).map V.int := by
  unfold cutV
  rw [List.length_map]
  have h1 : HT.sIx ns.length 0 none = 0 := rfl
  have h2 : HT.sIx ns.length ns.length (some 63) = min 63 ns.length := by
    unfold HT.sIx
    simp
    try omega
  rw [h1, h2]
  simp [List.map_take]
  try omega
theorem ev_sl63 {K : PySem.W.Frag} {ns : List Int} (ha : EvD ta Γ Ω (.ab (scriptM K ns))) : EvD (tSl (rSlL K) ta tNoPart (tPart (tC (.int 63)))) Γ Ω (.py (.list ((ns.take 63).map PyData.int))) := fun Q q σ H0 H R s g k =>
  ha.bind s g fun v H01 H1 s1 g1 c1 r1 => by
    obtain ⟨a, rfl, h⟩ := r1
    refine po_n σ H1 _ (po_c (i := 63) σ H1 _ ⟨a, ns.map V.int, rfl, SqL.mono' g1.ex h, fun p hp => ?_⟩)
    rw [cut63]
    obtain ⟨g2, c2⟩ := g1.frz hp (.lst ((ns.take 63).map V.int))
    exact k _ _ Ω _ _ q g2 (c1.trans c2 g1.ex) (.lst upd_same (RpL.ofInts _))
theorem ev_listL {K : PySem.W.Frag} {ds : List PyData} (h : EvD ta Γ Ω (.py (.list ds))) : EvD (tCB (rLi K) (tCons ta tNil)) Γ Ω (.py (.list ds)) := cb_d (ar_cons h ar_nil) fun vs H0 H R g r k => by
  obtain ⟨v, rfl, rr1⟩ := rq1 r
  cases rr1 with
  | lst h1 rr =>
    refine ⟨_, _, rfl, .inl (SqL.of (g.ex _ _ h1)), fun p hp => ?_⟩
    obtain ⟨g2, c2⟩ := g.frz hp (.lst _)
    exact k _ _ _ g2 c2 (.lst upd_same (rr.mono c2.ex))
/-- [ns, 0, 0] as a feed -/
theorem ev_newF {aa : TA} {ns : List Int} {Q : D → Om → Prop} (h : ArD aa Γ Ω [.py (.list (ns.map PyData.int)), I 0, I 0]) (h63 : ns.length ≤ 63) (q : ∀ F, Q (.loc F) (Ω ++ [(F, .feed 0)])) : EvW (tLst aa) Γ Ω Q := fun σ H0 H R s g k =>
  h.bind s g fun vs H01 H1 s1 g1 c1 r1 => by
    refine ⟨by rw [Paired.length r1]; exact Nat.le_of_ble_eq_true rfl, fun p hp => ?_⟩
    have ok : OwnOk H01 (.lst vs) (.feed 0) := by
      cases r1 with
      | cons a b => cases b with
        | cons b c => cases c with
          | cons c d =>
            cases d
            cases b
            cases c
            cases a with
            | lst hl rr =>
              rw [RpL.ints rr] at hl
              exact ⟨_, 0, 0, ns, rfl, hl, h63, Int.le_refl _, Int.le_refl _, Int.le_refl _⟩
    obtain ⟨g2, c2⟩ := g1.new hp (o := .lst vs) (w := .feed 0) ok
    exact k _ _ _ _ _ (q p) g2 (c1.trans c2 g1.ex) rfl
/-! ### dicts of one's own lists -/
/-- d[i, j] = a new value that is one's own -/
theorem sw_putTW {a b : Int} (hi : ∀ Ω', EvD ty Γ Ω' (.py (.tuple [.int a, .int b]))) {p : Addr} (ho : ∀ Ω', EvD td Γ Ω' (.loc p)) (hv : EvW tv Γ Ω fun d Ω1 => ∃ l, d = .loc l ∧ ∃ (j : Nat) (kvs : List (List Key × D)), Ω1[j]? = some (p, .dt kvs) ∧ kvs.length < 100000 ∧ Φ.nx Γ (Ω1.set j (p, .dt (putD kvs (pairK (a, b)) (.loc l))))) : SW (sDPut td ty tv) Γ Ω Φ := fun σ H0 H W s g r =>
  hv.bind s g fun v d Ω1 H01 H1 q1 s1 g1 c1 r1 => by
    obtain ⟨l, rfl, j, kvs, hj, hz, q⟩ := q1
    exact (sw_putT (tv := tC v) (td := td) (ty := ty) (Φ := Φ) (d := .loc l) (Ω := Ω1) (fun Q q σ' H0' H' R s' g' k => k v _ _ H0' H' q g' (.refl _ _ _) r1) (ho _) (hi _) hj hz q) σ H01 H1 W s1 g1 (r.step c1 g1.ex)
/-- frozen tuples may be told of -/
theorem Hs.know {H0 H : Hp} (g : Hs Ω H0 H) : ∀ (bs : List (Addr × HO)), (∀ q ∈ bs, H q.1 = some q.2 ∧ q.1 ∉ Ω.map (·.1) ∧ ∃ xs, q.2 = .tup xs) → ∃ H0', Hs Ω H0' H ∧ Step Ω Ω H0 H H0' H ∧ ∀ q ∈ bs, H0' q.1 = some q.2
  | [], _ => ⟨H0, g, .refl _ _ _, fun q hq => by cases hq⟩
  | b :: bs, h => by
    obtain ⟨H1, g1, c1, k1⟩ := Hs.know g bs fun q hq => h q (List.mem_cons_of_mem _ hq)
    obtain ⟨hb, hn, xs0, hxs⟩ := h b List.mem_cons_self
    have ht : ∀ o : HO, (∀ xs, b.2 ≠ .tup xs) → False := fun _ nt => nt xs0 hxs
    have ex : Same H1 (upd H1 b.1 b.2) := fun a o e => by
      by_cases ha : a = b.1
      · rw [ha, upd_same]
        have := g1.ex a o e
        rw [ha, hb] at this
        exact this
      · rw [upd_ne ha]; exact e
    refine ⟨upd H1 b.1 b.2, ⟨fun a o e => ?_, fun q hq => ?_, g1.nd⟩, ⟨c1.ex.trans ex, fun a o e ha => ⟨e, fun e0 nt => ?_⟩, fun a ha => .inl ha⟩, fun q hq => ?_⟩
    · by_cases ha : a = b.1
      · rw [ha, upd_same] at e; cases e; rw [ha]; exact hb
      · rw [upd_ne ha] at e; exact g1.ex a o e
    · obtain ⟨h1, o, h2, h3⟩ := g1.own q hq
      have : q.1 ≠ b.1 := fun e => hn (by rw [← e]; exact List.mem_map_of_mem hq)
      exact ⟨by rw [upd_ne this]; exact h1, o, h2, h3.mono ex⟩
    · have hab : a ≠ b.1 := fun h => by
        subst h
        rw [hb] at e
        cases e
        exact ht b.2 nt
      rw [upd_ne hab]
      exact (c1.keep a o e ha).2 e0 nt
    · rcases List.mem_cons.mp hq with e | hq
      · rw [e, upd_same]
      · exact ex _ _ (k1 q hq)
end
end G
end

section
set_option Elab.async false
set_option linter.all false
set_option maxRecDepth 100000
set_option maxHeartbeats 4000000
namespace G
open PySem L2
open PySem.W (dataLe)
section
variable {Γ : En} {Ω : Om} {te ta tb tc tl td tv ty : TE} {tt tu : TT} {t u : TS} {Φ : Po} {g : TG} {gs : TGs}
theorem ev_srtDT {j : Nat} {p : Addr} {kvs : List (List Key × D)} {ks : List (Int × Int)} (ha : EvD ta Γ Ω (.loc p)) (hj : Ω[j]? = some (p, .dt kvs)) (hk : kvs.map (·.1) = ks.map pairK) (hz : ks.length ≤ 100000) : EvD (tCB rSrtDT (tCons ta tNil)) Γ Ω (.py (.list ((ks.mergeSort (dataLe false dPr)).map dPr))) := cb_d (ar_cons ha ar_nil) fun vs H0 H R g r k => by
  obtain ⟨v, rfl, rr1⟩ := rq1 r
  cases (show v = .ref p from rr1)
  obtain ⟨_, o, hp, ws, rfl, hkw, rv⟩ := g.get hj
  refine ⟨p, ws, ks, rfl, .inl hp, hkw.trans hk, hz, fun l ys hl hy => ?_⟩
  have back : ∃ bs : List (Addr × HO), ys = bs.map (fun q => V.ref q.1) ∧ Paired (fun (q : Addr × HO) (k : Int × Int) => q.2 = .tup [.int k.1, .int k.2]) bs (ks.mergeSort (dataLe false dPr)) ∧ ∀ q ∈ bs, H q.1 = some q.2 := by
    have : ∀ {ys : List V} {l : List (Int × Int)}, Paired (fun v (k : Int × Int) => ∃ b, v = V.ref b ∧ H b = some (.tup [.int k.1, .int k.2])) ys l → ∃ bs : List (Addr × HO), ys = bs.map (fun q => V.ref q.1) ∧ Paired (fun (q : Addr × HO) (k : Int × Int) => q.2 = .tup [.int k.1, .int k.2]) bs l ∧ ∀ q ∈ bs, H q.1 = some q.2 := by
      intro ys l h
      induction h with
      | nil => exact ⟨[], rfl, .nil, fun q hq => by cases hq⟩
      | @cons a k _ _ ha _ ih =>
        obtain ⟨b, rfl, hb⟩ := ha
        obtain ⟨bs, e1, e2, e3⟩ := ih
        refine ⟨(b, .tup [.int k.1, .int k.2]) :: bs, by rw [e1]; rfl, .cons rfl e2, fun q hq => ?_⟩
        rcases List.mem_cons.mp hq with e | hq
        · rw [e]; exact hb
        · exact e3 q hq
    exact this hy
  obtain ⟨bs, rfl, hbs, hH⟩ := back
  obtain ⟨H1, g1, c1, k1⟩ := g.know bs fun q hq => ⟨hH q hq, fun hm => by
    obtain ⟨x, hx, e⟩ := List.mem_map.mp hm
    obtain ⟨_, o, ho, ok⟩ := g.own x hx
    obtain ⟨i, hi⟩ := List.getElem?_of_mem hq
    have hil : i < (ks.mergeSort (dataLe false dPr)).length := by rw [← Paired.length hbs]; exact (List.getElem?_eq_some_iff.mp hi).1
    have := paired_at hbs hi (List.getElem?_eq_getElem hil)
    have h2 := hH q hq
    rw [← e, ho] at h2
    exact ok.nt _ ((Option.some.inj h2).trans this), by
    obtain ⟨i, hi⟩ := List.getElem?_of_mem hq
    have hil : i < (ks.mergeSort (dataLe false dPr)).length := by rw [← Paired.length hbs]; exact (List.getElem?_eq_some_iff.mp hi).1
    exact ⟨_, paired_at hbs hi (List.getElem?_eq_getElem hil)⟩⟩
  obtain ⟨g2, c2⟩ := g1.frz hl (.lst (bs.map fun q => V.ref q.1))
  refine k _ _ _ g2 (c1.trans c2 g1.ex) (.lst upd_same ?_)
  have : ∀ {bs : List (Addr × HO)} {l : List (Int × Int)}, Paired (fun (q : Addr × HO) (k : Int × Int) => q.2 = .tup [.int k.1, .int k.2]) bs l → (∀ q ∈ bs, H1 q.1 = some q.2) → RpL H1 (bs.map fun q => V.ref q.1) (l.map dPr) := by
    intro bs l h
    induction h with
    | nil => intro _; exact .nil
    | @cons q k _ _ ha _ ih =>
      intro h
      exact .cons (.tup (by rw [h q List.mem_cons_self, ha]) (.cons (.int _) (.cons (.int _) .nil))) (ih fun x hx => h x (List.mem_cons_of_mem _ hx))
  exact (this hbs k1).mono c2.ex
/-- dict(zip(pairs, ints)) -/
theorem ev_dz {K : PySem.W.Frag} {ks : List (Int × Int)} {Q : D → Om → Prop} (ha : EvD ta Γ Ω (.py (.list (ks.map dPr)))) (hnd : ks.Nodup) (hz : ks.length ≤ 1000) (hb : EvW tb Γ Ω fun d Ω1 => ∃ ns : List Int, d = .py (.list (ns.map PyData.int)) ∧ ns.length = ks.length ∧ Q (.ab (dictT ((ks.zip ns).map fun q => (q.1, I q.2)))) Ω1) :
    EvW (tDZ K (tCons ta (tCons tb tNil))) Γ Ω Q := fun σ H0 H R s g k => by
  unfold tDZ
  refine (ar_consW (Q := fun ds Ω1 => ∃ ns : List Int, ds = [.py (.list (ks.map dPr)), .py (.list (ns.map PyData.int))] ∧ ns.length = ks.length ∧ Q (.ab (dictT ((ks.zip ns).map fun q => (q.1, I q.2)))) Ω1) (ha.w (ar_consW (hb.imp fun d Ω1 ⟨ns, e, hl, q⟩ => ar_nil.w ⟨ns, by rw [e], hl, q⟩)))) σ H0 H _ s g fun vs ds Ω1 H01 H1 q1 g1 c1 r1 => ?_
  obtain ⟨ns, rfl, hl, q⟩ := q1
  obtain ⟨v, u, rfl, r2, r3⟩ := rq2 r1
  cases r2 with
  | lst h1 rr1 =>
    cases r3 with
    | lst h2 rr2 =>
      rename_i a xs b ys
      rw [RpL.ints rr2] at h2
      have hpk : Paired (fun v (k : List Key) => ∃ p, v = V.ref p ∧ H1 p = some (.tup (k.map kV))) xs (ks.map pairK) := by
        have : ∀ {xs : List V} {ks : List (Int × Int)}, RpL H01 xs (ks.map dPr) → Paired (fun v (k : List Key) => ∃ p, v = V.ref p ∧ H1 p = some (.tup (k.map kV))) xs (ks.map pairK) := by
          intro xs ks
          induction ks generalizing xs with
          | nil => intro h; cases h; exact .nil
          | cons k ks ih =>
            intro h
            cases h with
            | cons a t =>
              obtain ⟨p, rfl, hp⟩ := rp_pair a
              exact .cons ⟨p, rfl, g1.ex _ _ hp⟩ (ih t)
        exact this rr1
      refine ⟨a, b, xs, ns.map V.int, ks.map pairK, rfl, SqL.of (g1.ex _ _ h1), SqL.of (g1.ex _ _ h2), hpk, ?_, ?_, by rw [List.length_map]; exact hz, fun d hd => ?_⟩
      · rw [List.length_map, rr1.length, List.length_map]; exact hl
      · exact List.Pairwise.map pairK (fun x y hxy e => hxy (pairK_inj _ _ e)) hnd
      · obtain ⟨g2, c2⟩ := g1.frz hd (.dT ((ks.map pairK).zip (ns.map V.int)))
        refine k _ _ _ _ _ q g2 (c1.trans c2 g1.ex) ⟨d, _, rfl, upd_same, ?_, ?_⟩
        · have : ∀ {ks : List (Int × Int)} {ns : List Int}, ns.length = ks.length → ((ks.map pairK).zip (ns.map V.int)).map (·.1) = (((ks.zip ns).map fun q => (q.1, I q.2))).map fun q => pairK q.1 := by
            intro ks
            induction ks with
            | nil => intro ns h; rfl
            | cons k ks ih => intro ns h; cases ns with
              | nil => simp at h
              | cons n ns => simp only [List.map_cons, List.zip_cons_cons]; rw [ih (by simpa using h)]
          exact this hl
        · have : ∀ {ks : List (Int × Int)} {ns : List Int} {H : Hp}, ns.length = ks.length → RqL H (((ks.map pairK).zip (ns.map V.int)).map (·.2)) ((((ks.zip ns).map fun q => (q.1, I q.2))).map (·.2)) := by
            intro ks
            induction ks with
            | nil => intro ns H h; exact .nil
            | cons k ks ih => intro ns H h; cases ns with
              | nil => simp at h
              | cons n ns => exact .cons (Rp.int n) (ih (by simpa using h))
          exact this hl
/-! ### list(range(n)) -/
def rRg : List V → Hp → VK → Prop := fun vs H Q => ∃ j : Int, vs = [.int j] ∧ ∀ p, H p = none → Q (.ref p) (upd H p (.rng 0 j))
theorem cr_rg {X : Cx} : CallR X (.type "range") rRg := by
  intro pins s σ H vs us Q I r h
  obtain ⟨j, rfl, q⟩ := h
  obtain ⟨u, rfl, ru⟩ := vals1 r
  obtain ⟨t, rfl⟩ := ru
  refine call_range_1 ⟨.ref s.heap.objs.size, upd H s.heap.objs.size (.rng 0 j), I.laid (t' := s.toks + 1 + 1) (fun b o e => Heap.get?_push_of_some _ e) (Nat.le_refl _) ?_, rfl, q _ (I.hok.fresh (Nat.le_refl _))⟩
  exact ⟨s.toks, t, s.toks + 1, Heap.get?_push_size _ rfl⟩
def rLR : List V → Hp → VK → Prop := fun vs H Q => ∃ (r : Addr) (n : Nat), vs = [.ref r] ∧ H r = some (.rng 0 (n : Int)) ∧ n ≤ 1000 ∧ ∀ p, H p = none → Q (.ref p) (upd H p (.lst ((List.range n).map fun k => V.int (k : Nat))))
theorem cr_lr {X : Cx} (hc : X.calm = true) : CallR X (.type "list") rLR := by
  intro pins s σ H vs us Q I r h
  obtain ⟨a, n, rfl, ha, hn, q⟩ := h
  obtain ⟨u, rfl, ru⟩ := vals1 r
  cases ru
  obtain ⟨t, u, v, hr⟩ := (show ObjOk X.prog X.w H s.heap a (.rng 0 (n : Int)) from I.hok a _ ha)
  refine call_list_range (I.ok.hd hc) hr (small_one (by decide) (by decide) (by omega) (by omega)) (n := n) ?_ (by omega) fun h' tk acc c' hk hD hacc => ?_
  · rw [rangeSize_one]
    simp
    omega
  · have hv : Vals ((List.range n).map fun k => V.int (k : Nat)) acc.toList := by
      have hal : acc.toList.length = n := by rw [Array.length_toList]; exact hacc.1
      have : ∀ (l : List Value) (m : Nat) (off : Nat), l.length = m → (∀ (j : Nat) (v : Value), l[j]? = some v → ∃ t, v = Value.int ((off + j : Nat) : Int) t) → Vals ((List.range' off m).map fun k => V.int (k : Nat)) l := by
        intro l
        induction l with
        | nil => intro m off h _; cases h; exact .nil
        | cons v l ih =>
          intro m off h e
          cases m with
          | zero => simp at h
          | succ m =>
            obtain ⟨t, hv⟩ := e 0 v rfl
            rw [List.range'_succ, List.map_cons]
            refine .cons ⟨t, by rw [hv]; simp⟩ (ih m (off + 1) (by simpa using h) fun j w hw => ?_)
            obtain ⟨t, ht⟩ := e (j + 1) w (by simpa using hw)
            exact ⟨t, by rw [ht]; congr 2; omega⟩
      have e := this acc.toList n 0 hal fun j v hjv => by
        obtain ⟨t, ht⟩ := hacc.2 j v (by rw [← Array.getElem?_toList]; exact hjv)
        exact ⟨t, by rw [ht]; simp⟩
      rw [List.range_eq_range']
      exact e
    have hl : ((List.range n).map fun k => V.int (k : Nat)).length ≤ sizeLine := by rw [List.length_map, List.length_range]; exact Nat.le_trans hn (by decide)
    exact ⟨.ref s.heap.objs.size, upd H s.heap.objs.size (.lst ((List.range n).map fun k => V.int (k : Nat))), I.laid (t' := tk) hk (Nat.le_refl _) (show ObjOk X.prog X.w _ _ _ (.lst _) from ⟨hl, acc.toList, c', hv, by rw [Array.toArray_toList]; exact hD⟩), rfl, q _ (I.hok.fresh (Nat.le_refl _))⟩
theorem ev_lr {n : Nat} {Q : D → Om → Prop} (h : EvD ta Γ Ω (I (n : Int))) (hn : n ≤ 1000) (q : ∀ p, Q (.loc p) (Ω ++ [(p, .lst ((List.range n).map fun k : Nat => I (k : Int)))])) : EvW (tCB rLR (tCons (tCB rRg (tCons ta tNil)) tNil)) Γ Ω Q := fun σ H0 H R s g k =>
  h.bind s g fun v H01 H1 s1 g1 c1 r1 => by
    cases r1
    refine ⟨n, rfl, fun r hr => ⟨r, n, rfl, upd_same, hn, fun p hp => ?_⟩⟩
    obtain ⟨g2, c2⟩ := g1.frz hr (.rng 0 (n : Int))
    have ok : OwnOk (upd H01 r (.rng 0 (n : Int))) (.lst ((List.range n).map fun k => V.int (k : Nat))) (.lst ((List.range n).map fun k : Nat => I (k : Int))) := ⟨_, rfl, by
      have : ∀ l : List Nat, RqL (upd H01 r (.rng 0 (n : Int))) (l.map fun k => V.int (k : Nat)) (l.map fun k : Nat => I (k : Int)) := by
        intro l
        induction l with
        | nil => exact .nil
        | cons a l ih => exact .cons (Rp.int _) ih
      exact this _⟩
    obtain ⟨g3, c3⟩ := g2.new hp ok
    exact k _ _ _ _ _ (q p) g3 ((c1.trans c2 g1.ex).trans c3 g2.ex) rfl
/-- xs.pop(i), the place drawn -/
theorem ev_popW {K : PySem.W.Frag} {p : Addr} {Q : D → Om → Prop} (ha : ∀ Ω', EvD ta Γ Ω' (.loc p)) {ds0 : List D} {j0 : Nat} (hj0 : Ω[j0]? = some (p, .lst ds0)) (h : EvW tb Γ Ω fun y Ω1 => ∃ (j : Nat) (ds : List D) (i : Nat) (d : D), y = I (i : Int) ∧ Ω1[j]? = some (p, .lst ds) ∧ ds[i]? = some d ∧ ds.length ≤ 1000 ∧ Q d (Ω1.set j (p, .lst (ds.eraseIdx i)))) : EvW (tBM K "list" rPopAt ta (tCons tb tNil)) Γ Ω Q := fun σ H0 H R s g k =>
  (ha Ω).bind s g fun v H01 H1 s1 g1 c1 r1 => by
    cases (show v = .ref p from r1)
    obtain ⟨_, o, hp, vs, rfl, rv⟩ := g1.get hj0
    refine ⟨.inl ⟨rfl, vs, SqL.of hp⟩, h.bind s1 g1 fun u y Ω1 H02 H2 q2 s2 g2 c2 r2 => ?_⟩
    obtain ⟨j, ds, i, d, rfl, hj, hd, hz, q⟩ := q2
    cases r2
    obtain ⟨_, o, hp2, vs2, rfl, rv2⟩ := g2.get hj
    have hl : vs2.length = ds.length := Paired.length rv2
    have hi : i < ds.length := (List.getElem?_eq_some_iff.mp hd).1
    have hi2 : i < vs2.length := by omega
    have rd : Rq H02 vs2[i] d := paired_at rv2 (List.getElem?_eq_getElem hi2) hd
    have re : ∀ {vs : List V} {ds : List D} (i : Nat), RqL H02 vs ds → RqL H02 (vs.eraseIdx i) (ds.eraseIdx i) := by
      intro vs ds i r
      induction r generalizing i with
      | nil => exact .nil
      | cons a t ih => cases i with
        | zero => exact t
        | succ i => exact .cons a (ih i)
    obtain ⟨g3, c3⟩ := g2.put hj (o := .lst (vs2.eraseIdx i)) (w' := .lst (ds.eraseIdx i)) ⟨_, rfl, re i rv2⟩
    refine ⟨p, vs2, (i : Int), i, vs2[i], rfl, rfl, hp2, by omega, by omega, ?_, List.getElem?_eq_getElem hi2, k _ _ _ _ _ q g3 ((c1.trans c2 g1.ex).trans c3 g2.ex) rd⟩
    unfold seqIndex?
    simp
    omega
end
section
variable {X : Cx} {e e2 : Expr} {es : List Expr} {t : TA} {p pos : Pos} {j : Nat}
variable (b : Bi X.mg)
include b
theorem pb_srtDT (hr : Room j X.A) (ha : PA X (e :: es) t) (hc : X.calm = true := by rfl) (hg : Gl X "sorted" := by rfl) (he : starEach (e :: es) X.env = (false, eval e X.env) :: starEach es X.env := by rfl) (hpl : (backTo pos (starEach es X.env)).any (·.1) = false := by rfl) :
    PE X (.Call (.Name "sorted" p) (e :: es) [] pos) (tCB rSrtDT t) := pe_callB (cr_srtDT hc hr.units) hg b.sorted PyProof.Rows.boot_sorted ha (by decide) (by decide) he hpl
theorem pb_rg (ha : PA X (e :: es) t) (hg : Gl X "range" := by rfl) (he : starEach (e :: es) X.env = (false, eval e X.env) :: starEach es X.env := by rfl) (hpl : (backTo pos (starEach es X.env)).any (·.1) = false := by rfl) :
    PE X (.Call (.Name "range" p) (e :: es) [] pos) (tCB rRg t) := pe_callTy cr_rg hg b.range PyProof.Rows.boot_range ha (by decide) (by decide) he hpl
theorem pb_lr (ha : PA X (e :: es) t) (hc : X.calm = true := by rfl) (hg : Gl X "list" := by rfl) (he : starEach (e :: es) X.env = (false, eval e X.env) :: starEach es X.env := by rfl) (hpl : (backTo pos (starEach es X.env)).any (·.1) = false := by rfl) :
    PE X (.Call (.Name "list" p) (e :: es) [] pos) (tCB rLR t) := pe_callTy (cr_lr hc) hg b.list PyProof.Rows.boot_list ha (by decide) (by decide) he hpl
end
end G
namespace G
open PySem L2
section
variable {Γ : En} {Ω : Om} {te ta tb tc tl td tv ty : TE} {tt tu : TT} {t u : TS} {Φ : Po} {g : TG} {gs : TGs}
/-- behind t one of the places f a, g a -/
theorem sw_seqE {α : Type} (f : α → En) (o : α → Om) (h : SW t Γ Ω { Φ with nx := fun Γ' Ω' => ∃ a, Γ' = f a ∧ Ω' = o a }) (k : ∀ a, SW u (f a) (o a) Φ) : SW (tSeq t u) Γ Ω Φ :=
  sw_seq (h.imp (fun Γ' Ω' ⟨a, e1, e2⟩ => by subst e1 e2; exact k a) (fun _ _ h => h) (fun _ _ h => h) (fun _ _ h => h))
/-- an own list that was made last is frozen -/
theorem ev_frzL {Q : D → Om → Prop} (h : EvW te Γ Ω fun d Ω' => ∃ l ds Ω1, d = .loc l ∧ Ω' = Ω1 ++ [(l, .lst (ds.map D.py))] ∧ Q (.py (.list ds)) Ω1) : EvW te Γ Ω Q := fun σ H0 H R s g k =>
  h.bind s g fun v d Ω' H01 H1 q1 s1 g1 c1 r1 => by
    obtain ⟨l, ds, Ω1, rfl, rfl, q⟩ := q1
    cases (show v = .ref l from r1)
    have hj : (Ω1 ++ [(l, Own.lst (ds.map D.py))])[Ω1.length]? = some (l, .lst (ds.map D.py)) := by simp
    obtain ⟨_, o, hp, ws, rfl, rv⟩ := g1.get hj
    obtain ⟨g2, c2⟩ := g1.freeze hj hp
    have es : (Ω1 ++ [(l, Own.lst (ds.map D.py))]).eraseIdx Ω1.length = Ω1 := by rw [List.eraseIdx_append_of_length_le (Nat.le_refl _)]; simp
    rw [es] at g2 c2
    exact k _ _ _ _ _ q g2 (c1.trans c2 g1.ex) (.lst upd_same (RpL.mono c2.ex (RqL.py rv)))
/-- an object of one's own is let go -/
theorem ev_dropE {Q : D → Om → Prop} (h : EvW te Γ Ω fun d Ω' => ∃ (j : Nat) (p : Addr) (w : Own), Ω'[j]? = some (p, w) ∧ Q d (Ω'.eraseIdx j)) : EvW te Γ Ω Q := fun σ H0 H R s g k =>
  h.bind s g fun v d Ω' H01 H1 q1 s1 g1 c1 r1 => by
    obtain ⟨j, p, w, hj, q⟩ := q1
    obtain ⟨_, o, hp, _⟩ := g1.get hj
    obtain ⟨g2, c2⟩ := g1.freeze hj hp
    exact k _ _ _ _ _ q g2 (c1.trans c2 g1.ex) (r1.mono c2.ex)
/-- a call of a def with its own promise -/
theorem ev_fnG {C : Co} {aa : TA} {ds : List D} {Q : D → Om → Prop} (ha : ArD aa Γ Ω ds) (hc : C ds [] fun d Ω' => Q d (Ω' ++ Ω)) : EvW (tCall (spG C) [] E0 aa) Γ Ω Q := fun σ H0 H R s g k =>
  ha.bind s g fun vs H01 H1 s1 g1 c1 r1 => by
    refine ⟨H01, ds, [], _, g1.nil, by rw [List.append_nil]; exact r1, hc, fun v d Ω' H0' H' q g' c r => ?_⟩
    obtain ⟨a, b⟩ := G.frame (Ω := []) (Ωr := Ω) g1 g' c
    exact k v d _ H0' H' q a (c1.trans b g1.ex) r
end
end G
end

section
set_option Elab.async false
set_option linter.all false
set_option maxRecDepth 100000
set_option maxHeartbeats 4000000
namespace G
open PySem L2
open PySem.W (dataLe)
section
variable {Γ : En} {Ω : Om} {te ta tb tc tl td tv ty : TE} {tt tu : TT} {t u : TS} {Φ : Po} {g : TG} {gs : TGs}
theorem ev_srtDTf {kvs : List ((Int × Int) × D)} {ks : List (Int × Int)} (ha : EvD ta Γ Ω (.ab (dictT kvs))) (hk : kvs.map (·.1) = ks) (hz : ks.length ≤ 100000) : EvD (tCB rSrtDT (tCons ta tNil)) Γ Ω (.py (.list ((ks.mergeSort (dataLe false dPr)).map dPr))) := cb_d (ar_cons ha ar_nil) fun vs H0 H R g r k => by
  obtain ⟨v, rfl, rr1⟩ := rq1 r
  obtain ⟨p, ws, rfl, hp, hkw, rv⟩ := (dictT kvs).mono g.ex rr1
  refine ⟨p, ws, ks, rfl, .inl hp, hkw.trans (by rw [← hk, List.map_map]; rfl), hz, fun l ys hl hy => ?_⟩
  have back : ∃ bs : List (Addr × HO), ys = bs.map (fun q => V.ref q.1) ∧ Paired (fun (q : Addr × HO) (k : Int × Int) => q.2 = .tup [.int k.1, .int k.2]) bs (ks.mergeSort (dataLe false dPr)) ∧ ∀ q ∈ bs, H q.1 = some q.2 := by
    have : ∀ {ys : List V} {l : List (Int × Int)}, Paired (fun v (k : Int × Int) => ∃ b, v = V.ref b ∧ H b = some (.tup [.int k.1, .int k.2])) ys l → ∃ bs : List (Addr × HO), ys = bs.map (fun q => V.ref q.1) ∧ Paired (fun (q : Addr × HO) (k : Int × Int) => q.2 = .tup [.int k.1, .int k.2]) bs l ∧ ∀ q ∈ bs, H q.1 = some q.2 := by
      intro ys l h
      induction h with
      | nil => exact ⟨[], rfl, .nil, fun q hq => by cases hq⟩
      | @cons a k _ _ ha _ ih =>
        obtain ⟨b, rfl, hb⟩ := ha
        obtain ⟨bs, e1, e2, e3⟩ := ih
        refine ⟨(b, .tup [.int k.1, .int k.2]) :: bs, by rw [e1]; rfl, .cons rfl e2, fun q hq => ?_⟩
        rcases List.mem_cons.mp hq with e | hq
        · rw [e]; exact hb
        · exact e3 q hq
    exact this hy
  obtain ⟨bs, rfl, hbs, hH⟩ := back
  obtain ⟨H1, g1, c1, k1⟩ := g.know bs fun q hq => ⟨hH q hq, fun hm => by
    obtain ⟨x, hx, e⟩ := List.mem_map.mp hm
    obtain ⟨_, o, ho, ok⟩ := g.own x hx
    obtain ⟨i, hi⟩ := List.getElem?_of_mem hq
    have hil : i < (ks.mergeSort (dataLe false dPr)).length := by rw [← Paired.length hbs]; exact (List.getElem?_eq_some_iff.mp hi).1
    have := paired_at hbs hi (List.getElem?_eq_getElem hil)
    have h2 := hH q hq
    rw [← e, ho] at h2
    exact ok.nt _ ((Option.some.inj h2).trans this), by
    obtain ⟨i, hi⟩ := List.getElem?_of_mem hq
    have hil : i < (ks.mergeSort (dataLe false dPr)).length := by rw [← Paired.length hbs]; exact (List.getElem?_eq_some_iff.mp hi).1
    exact ⟨_, paired_at hbs hi (List.getElem?_eq_getElem hil)⟩⟩
  obtain ⟨g2, c2⟩ := g1.frz hl (.lst (bs.map fun q => V.ref q.1))
  refine k _ _ _ g2 (c1.trans c2 g1.ex) (.lst upd_same ?_)
  have : ∀ {bs : List (Addr × HO)} {l : List (Int × Int)}, Paired (fun (q : Addr × HO) (k : Int × Int) => q.2 = .tup [.int k.1, .int k.2]) bs l → (∀ q ∈ bs, H1 q.1 = some q.2) → RpL H1 (bs.map fun q => V.ref q.1) (l.map dPr) := by
    intro bs l h
    induction h with
    | nil => intro _; exact .nil
    | @cons q k _ _ ha _ ih =>
      intro h
      exact .cons (.tup (by rw [h q List.mem_cons_self, ha]) (.cons (.int _) (.cons (.int _) .nil))) (ih fun x hx => h x (List.mem_cons_of_mem _ hx))
  exact (this hbs k1).mono c2.ex

/-- what is one's own lies at unlike places -/
theorem sw_nd (q : (Ω.map (·.1)).Nodup → SW t Γ Ω Φ) : SW t Γ Ω Φ := fun σ H0 H W s g r => q g.nd σ H0 H W s g r
/-- all but the first two are frozen, and the second is told of anew -/
theorem sw_conv {q0 : Addr × Own} {p : Addr} {w w' : Own} {Ωr : Om} (hM : ∀ H0 H1 o, Same H0 H1 → (∀ q ∈ Ωr, ∃ o, H1 q.1 = some o ∧ OwnOk H0 o q.2) → OwnOk H0 o w → OwnOk H1 o w') (q : SW t Γ [q0, (p, w')] Φ) : SW t Γ (q0 :: (p, w) :: Ωr) Φ := fun σ H0 H W s g r => by
  classical
  let H1 : Hp := fun a => if a ∈ Ωr.map (·.1) then H a else H0 a
  have e01 : Same H0 H1 := fun a o h => by
    show (if a ∈ Ωr.map (·.1) then H a else H0 a) = some o
    split
    · exact g.ex a o h
    · exact h
  have e1 : Same H1 H := fun a o h => by
    have h' : (if a ∈ Ωr.map (·.1) then H a else H0 a) = some o := h
    split at h'
    · exact h'
    · exact g.ex a o h'
  have nd := g.nd
  rw [List.map_cons, List.map_cons, List.nodup_cons, List.nodup_cons] at nd
  obtain ⟨n1, n2, n3⟩ := nd
  have hn : ∀ a, a ∉ Ωr.map (·.1) → H0 a = none → H1 a = none := fun a ha h => by
    show (if a ∈ Ωr.map (·.1) then H a else H0 a) = none
    rw [if_neg ha]; exact h
  have h0 := g.own q0 List.mem_cons_self
  have hp := g.own (p, w) (List.mem_cons_of_mem _ List.mem_cons_self)
  refine q σ H1 H W (s.mono e01) ⟨e1, fun x hx => ?_, ?_⟩ (r.step ⟨e01, fun a o h ha => ⟨h, fun h0 _ => hn a (fun hm => ha (by rw [List.map_cons, List.map_cons]; exact List.mem_cons_of_mem _ (List.mem_cons_of_mem _ hm))) h0⟩, fun a ha => .inl ?_⟩ e1)
  · rcases List.mem_cons.mp hx with rfl | hx
    · obtain ⟨h1, o, h2, h3⟩ := h0
      exact ⟨hn _ (fun hm => n1 (List.mem_cons_of_mem _ hm)) h1, o, h2, h3.mono e01⟩
    · rw [List.mem_singleton.mp hx]
      obtain ⟨h1, o, h2, h3⟩ := hp
      refine ⟨hn _ n2 h1, o, h2, hM H0 H1 o e01 (fun y hy => ?_) h3⟩
      obtain ⟨_, o', h4, h5⟩ := g.own y (List.mem_cons_of_mem _ (List.mem_cons_of_mem _ hy))
      exact ⟨o', by show (if y.1 ∈ Ωr.map (·.1) then H y.1 else H0 y.1) = some o'; rw [if_pos (List.mem_map_of_mem hy)]; exact h4, h5⟩
  · rw [List.map_cons, List.map_cons, List.map_nil, List.nodup_cons]
    exact ⟨fun hm => n1 (by rw [List.mem_singleton.mp hm]; exact List.mem_cons_self), List.nodup_cons.mpr ⟨by simp, List.nodup_nil⟩⟩
  · rw [List.map_cons, List.map_cons]
    rw [List.map_cons, List.map_cons, List.map_nil] at ha
    rcases List.mem_cons.mp ha with rfl | ha
    · exact List.mem_cons_self
    · rw [List.mem_singleton.mp ha]; exact List.mem_cons_of_mem _ List.mem_cons_self
end
end G
end

section
set_option Elab.async false
set_option linter.all false
set_option maxRecDepth 100000
set_option maxHeartbeats 4000000
namespace G
open PySem L2
section
variable {Γ : En} {Ω : Om} {te ta tb tc tl td tv ty : TE} {tt tu : TT} {t u : TS} {Φ : Po} {g : TG} {gs : TGs}
theorem sw_forLW {K : PySem.W.Frag} (h : EvW te Γ Ω fun d Ω1 => ∃ (ds : List PyData) (J : Nat → En → Om → Prop), d = .py (.list ds) ∧ J 0 Γ Ω1 ∧
    (∀ i d Γ' Ω', ds[i]? = some d → J i Γ' Ω' → TgW g (.py d) Γ' Ω' fun Γ2 Ω2 => SW t Γ2 Ω2 { Φ with nx := J (i + 1), ct := J (i + 1), bk := Φ.nx }) ∧ (∀ Γ' Ω', J ds.length Γ' Ω' → Φ.nx Γ' Ω')) : SW (tFor (iList K te) g t) Γ Ω Φ := fun σ H0 H W s gh r =>
  h.bind s gh fun v d0 Ω1 H01 H1 q1 s1 g1 c1 r1 => by
    obtain ⟨ds, J, rfl, h0, hs, hd⟩ := q1
    cases r1 with
    | lst h1 rr =>
      rename_i a xs
      have r' := r.step c1 g1.ex
      refine ⟨a, rfl, ⟨xs, SqL.of (g1.ex _ _ h1)⟩, for_list (K := K) (a := a) (xs := xs) (fun i σ' H' => ∃ Γ' Ω' H0', J i Γ' Ω' ∧ Sl Γ' σ' H0' ∧ Hs Ω' H0' H' ∧ Step Ω1 Ω' H01 H1 H0' H') ⟨Γ, Ω1, H01, h0, s1, g1, .refl _ _ _⟩ (fun i σ' H' _ ⟨Γ', Ω', H0', _, _, g', c'⟩ => SqL.of (g'.ex _ _ (c'.ex _ _ h1))) ?_ ?_⟩
      · rintro i x σ' H' hx ⟨Γ', Ω', H0', j, s', g', c'⟩
        obtain ⟨d, hd', rd⟩ := rr.getV hx
        refine hs i d Γ' Ω' hd' j σ' H0' H' x _ s' g' (rd.mono c'.ex) fun σ2 Γ2 Ω2 H02 H2 q2 s2 g2 c2 => ?_
        refine q2 σ2 H02 H2 _ s2 g2 ?_
        have c3 := c'.trans c2 g'.ex
        exact ⟨fun σ3 Γ3 Ω3 H03 H3 q3 s3 g3 c4 => ⟨Γ3, Ω3, H03, q3, s3, g3, c3.trans c4 g2.ex⟩, fun v d Ω3 H03 H3 q3 r3 g3 c4 => r'.rt v d Ω3 H03 H3 q3 r3 g3 (c3.trans c4 g2.ex),
          fun σ3 Γ3 Ω3 H03 H3 q3 s3 g3 c4 => r'.nx σ3 Γ3 Ω3 H03 H3 q3 s3 g3 (c3.trans c4 g2.ex), fun σ3 Γ3 Ω3 H03 H3 q3 s3 g3 c4 => ⟨Γ3, Ω3, H03, q3, s3, g3, c3.trans c4 g2.ex⟩⟩
      · rintro σ' H' ⟨Γ', Ω', H0', j, s', g', c'⟩
        rw [rr.length] at j
        exact r'.nx σ' Γ' Ω' H0' H' (hd _ _ j) s' g' c'
theorem sw_appW {K : PySem.W.Frag} {p : Addr} (ho : EvD ta Γ Ω (.loc p)) {ds0 : List D} {j0 : Nat} (hj0 : Ω[j0]? = some (p, .lst ds0)) (h : EvW te Γ Ω fun d Ω1 => ∃ (j : Nat) (ds : List D), Ω1[j]? = some (p, .lst ds) ∧ ds.length < 100000 ∧ Φ.nx Γ (Ω1.set j (p, .lst (ds ++ [d])))) :
    SW (tDrop (tBM K "list" rAppend ta (tCons te tNil))) Γ Ω Φ := fun σ H0 H W s g r =>
  ho.bind s g fun v H01 H1 s1 g1 c1 r1 => by
    cases (show v = .ref p from r1)
    obtain ⟨_, o, hp, vs, rfl, rv⟩ := g1.get hj0
    refine ⟨.inl ⟨rfl, vs, SqL.of hp⟩, h.bind s1 g1 fun v d Ω1 H02 H2 q2 s2 g2 c2 r2 => ?_⟩
    obtain ⟨j, ds, hj, hz, q⟩ := q2
    obtain ⟨_, o, hp, vs, rfl, rv⟩ := g2.get hj
    have hl : vs.length = ds.length := Paired.length rv
    obtain ⟨g3, c3⟩ := g2.put hj (o := .lst (vs ++ [v])) (w' := .lst (ds ++ [d])) ⟨_, rfl, Paired.snoc rv r2⟩
    exact ⟨p, vs, v, rfl, rfl, hp, by rw [hl]; exact Nat.lt_of_lt_of_le hz (by decide), r.nx σ Γ _ H02 _ q s2 g3 ((c1.trans c2 g1.ex).trans c3 g2.ex)⟩
theorem cb_w {r : List V → Hp → VK → Prop} {aa : TA} {Q : D → Om → Prop} (h : ArW aa Γ Ω fun ds Ω1 => ∀ (vs : List V) (H0 H : Hp) (R : VK), Hs Ω1 H0 H → RqL H0 vs ds → (∀ z d Ω' H0' H', Q d Ω' → Hs Ω' H0' H' → Step Ω1 Ω' H0 H H0' H' → Rq H0' z d → R z H') → r vs H R) : EvW (tCB r aa) Γ Ω Q := fun σ H0 H R s g k =>
  h σ H0 H _ s g fun vs ds Ω1 H01 H1 q1 g1 c1 r1 => q1 vs H01 H1 R g1 r1 fun z d Ω' H0' H' q g' c' r' => k z d Ω' H0' H' q g' (c1.trans c' g1.ex) r'
theorem ev_max2W {Q : D → Om → Prop} (h : EvW ta Γ Ω fun x Ω1 => ∃ i, x = I i ∧ EvW tb Γ Ω1 fun y Ω2 => ∃ j, y = I j ∧ Q (I (max i j)) Ω2) : EvW (tCB rMx2 (tCons ta (tCons tb tNil))) Γ Ω Q :=
  cb_w (ar_consW (h.imp fun x Ω1 ⟨i, e, q⟩ => ar_consW (q.imp fun y Ω2 ⟨j, e2, q2⟩ => ar_nilW (by
    subst e e2
    intro vs H0 H R g r k
    obtain ⟨v, u, rfl, r1, r2⟩ := rq2 r
    cases r1; cases r2
    refine ⟨i, j, rfl, ?_⟩
    have e : (if j > i then j else i) = max i j := by split <;> omega
    rw [e]
    exact k _ _ _ H0 H q2 g (.refl _ _ _) (Rp.int _)))))
theorem ev_min2W {Q : D → Om → Prop} (h : EvW ta Γ Ω fun x Ω1 => ∃ i, x = I i ∧ EvW tb Γ Ω1 fun y Ω2 => ∃ j, y = I j ∧ Q (I (min i j)) Ω2) : EvW (tCB rMn2 (tCons ta (tCons tb tNil))) Γ Ω Q :=
  cb_w (ar_consW (h.imp fun x Ω1 ⟨i, e, q⟩ => ar_consW (q.imp fun y Ω2 ⟨j, e2, q2⟩ => ar_nilW (by
    subst e e2
    intro vs H0 H R g r k
    obtain ⟨v, u, rfl, r1, r2⟩ := rq2 r
    cases r1; cases r2
    refine ⟨i, j, rfl, ?_⟩
    have e : (if j < i then j else i) = min i j := by split <;> omega
    rw [e]
    exact k _ _ _ H0 H q2 g (.refl _ _ _) (Rp.int _)))))
end
end G
end

section
set_option Elab.async false
set_option linter.all false
set_option maxRecDepth 100000
set_option maxHeartbeats 4000000
namespace G
open PySem L2 PyProof.Rows
/-- (a, b) > (c, d) -/
def rGtT (K : PySem.W.Frag) : R2 := fun x y H Q => ∃ (a b : Addr) (p q : Int × Int), x = .ref a ∧ y = .ref b ∧ SqT K H a ([p.1, p.2].map V.int) ∧ SqT K H b ([q.1, q.2].map V.int) ∧ Q (.bl (decide (q.1 < p.1 ∨ (q.1 = p.1 ∧ q.2 < p.2)))) H
theorem op_gtT {X : Cx} (hu : X.A.units < cLine) : OpR X (compareOp .Gt) (rGtT X.K) := by
  intro pins s σ H x y v u Q I rx ry h
  obtain ⟨a, b, ⟨p1, p2⟩, ⟨q1, q2⟩, rfl, rfl, ha, hb, qq⟩ := h
  cases rx
  cases ry
  obtain ⟨its, r1, t1, _⟩ := I.tuple ha
  obtain ⟨its2, r2, t2, _⟩ := I.tuple hb
  have i1 : IntsAre its [p1, p2] := Vals.ints r1
  have i2 : IntsAre its2 [q1, q2] := Vals.ints r2
  have e1 : its.toArray.size = 2 := by rw [List.size_toArray]; exact i1.length
  have e2 : its2.toArray.size = 2 := by rw [List.size_toArray]; exact i2.length
  have at1 : ∀ j (h1 : j < its.toArray.size), ∃ t, its.toArray[j] = .int ([p1, p2].getD j 0) t := fun j h1 => PyProof.Rows.IntsAre.int_at i1 _ _ (by rw [e1] at h1; simp [h1])
  have at2 : ∀ j (h1 : j < its2.toArray.size), ∃ t, its2.toArray[j] = .int ([q1, q2].getD j 0) t := fun j h1 => PyProof.Rows.IntsAre.int_at i2 _ _ (by rw [e2] at h1; simp [h1])
  have R := Ob.RcOp.tuples_gt (A := X.A) (s := s) (e := fun j => decide ([p1, p2].getD j 0 = [q1, q2].getD j 0)) (r := fun j => decide ([q1, q2].getD j 0 < [p1, p2].getD j 0)) t1 t2 hu (fun j h1 h2 => by
    obtain ⟨t, et⟩ := at1 j h1
    obtain ⟨t', et'⟩ := at2 j h2
    rw [et, et']
    have z : ([p1, p2].getD j 0 == [q1, q2].getD j 0) = decide ([p1, p2].getD j 0 = [q1, q2].getD j 0) := by
      by_cases q : [p1, p2].getD j 0 = [q1, q2].getD j 0
      · rw [decide_eq_true q]; exact beq_iff_eq.mpr q
      · rw [decide_eq_false q]; exact beq_eq_false_iff_ne.mpr q
    rw [← z]
    exact SeqAt.EqAt.int_int _ _ _ _) (fun j h1 h2 _ => by
    obtain ⟨t, et⟩ := at1 j h1
    obtain ⟨t', et'⟩ := at2 j h2
    rw [et, et']
    exact Ob.RcOp.gt_int _ _ _ _)
  rw [e1, e2] at R
  have hv : Ob.lexAt (fun j => decide ([p1, p2].getD j 0 = [q1, q2].getD j 0)) (fun j => decide ([q1, q2].getD j 0 < [p1, p2].getD j 0)) (decide (2 > 2)) 0 (min 2 2) = decide (q1 < p1 ∨ (q1 = p1 ∧ q2 < p2)) := by
    show (if decide (p1 = q1) = true then (if decide (p2 = q2) = true then decide (2 > 2) else decide (q2 < p2)) else decide (q1 < p1)) = _
    by_cases c1 : p1 = q1
    · subst c1
      by_cases c2 : p2 = q2
      · subst c2; simp
      · simp [c2]
    · have : ¬ q1 = p1 := fun h => c1 h.symm
      simp [c1, this]
  rw [hv] at R
  have z : wpAny (model X.prog X.w) X.A (compareOp .Gt (.ref a) (.ref b)) (EP X pins σ Q) X.xe s := R X.prog X.w X.xe (EP X pins σ Q) ⟨.bl _, H, I, rfl, qq⟩
  exact z
theorem opg {X : Cx} (K : PySem.W.Frag) (hu : X.A.units < cLine) (h : X.K = K := by rfl) : OpR X (compareOp .Gt) (rGtT K) := h ▸ op_gtT hu
section
variable {Γ : En} {Ω : Om} {te ta tb : TE}
theorem ev_gtT {K : PySem.W.Frag} {a b c d : Int} (ha : EvD ta Γ Ω (.py (.tuple [.int a, .int b]))) (hb : EvD tb Γ Ω (.py (.tuple [.int c, .int d]))) : EvD (tOp (rGtT K) ta tb) Γ Ω (B (decide (c < a ∨ (c = a ∧ d < b)))) :=
  op_d ha hb fun v u H0 H R g rv ru k => by
    cases rv with
    | tup h1 r1 =>
      cases ru with
      | tup h2 r2 =>
        have r1 : RpL H0 _ ([a, b].map PyData.int) := r1
        have r2 : RpL H0 _ ([c, d].map PyData.int) := r2
        rw [RpL.ints r1] at h1
        rw [RpL.ints r2] at h2
        exact ⟨_, _, (a, b), (c, d), rfl, rfl, SqT.of (g.ex _ _ h1), SqT.of (g.ex _ _ h2), k _ H0 H g (.refl _ _ _) (.bl _)⟩
end
end G
end

section
set_option Elab.async false
set_option linter.all false
set_option maxRecDepth 100000
set_option maxHeartbeats 4000000
namespace G
open PySem L2
/-- these names are the def's own, looked at once -/
def okL (N : List Str) (sc : Scope) : Bool := N.all fun x => decide (sc.names.lookup x = some .local) && (!(x == ("__debug__" : Str)) && !(x == ("__classdict__" : Str)))
theorem okL_at {N : List Str} {sc : Scope} (h : okL N sc = true) {i : Nat} {x : Str} (hN : N[i]? = some x) : sc.names.lookup x = some .local ∧ (x == ("__debug__" : Str)) = false ∧ (x == ("__classdict__" : Str)) = false := by
  have := List.all_eq_true.mp h x (List.mem_of_getElem? hN)
  simp only [Bool.and_eq_true, decide_eq_true_eq, Bool.not_eq_true'] at this
  exact this
/-- these names are global, looked at once -/
def okG (N : List Str) (sc : Scope) : Bool := N.all fun x => decide (sc.names.lookup x = some .globalImplicit)
variable {X : Cx} {N : List Str} {sc : Scope}
theorem pvA (h : okL N sc = true) (i j : Nat) {x : Str} {pos : Pos} (hN : X.N[i]? = some x := by rfl) (hj : N[j]? = some x := by rfl) (e2 : X.env.scope = sc := by rfl) : PE X (.Name x pos) (tVar i) := by
  obtain ⟨h1, h2, h3⟩ := okL_at h hj
  exact pe_var hN (.inl (by rw [e2]; exact h1)) h2 h3
theorem gnA (h : okL N sc = true) {i : Nat} {x : Str} {pos : Pos} (nd : X.N.Nodup) (k j : Nat) (hk : k = i := by rfl) (hi : X.N[i]? = some x := by rfl) (hj : N[j]? = some x := by rfl) (e2 : X.env.scope = sc := by rfl) : PG X (.Name x pos) (gName i) := by
  obtain ⟨h1, _, _⟩ := okL_at h hj
  exact pg_name nd hi (.inl (by rw [e2]; exact h1)) (.inr (by rw [e2]; exact h1))
theorem glA (h : okG N sc = true) (j : Nat) {x : Str} (hj : N[j]? = some x := by rfl) (e2 : X.env.scope = sc := by rfl) : Gl X x := by
  have := List.all_eq_true.mp h x (List.mem_of_getElem? hj)
  rw [decide_eq_true_eq] at this
  show X.env.scope.names.lookup x = some .globalImplicit
  rw [e2]; exact this
end G
end

section
set_option Elab.async false
set_option linter.all false
set_option maxRecDepth 100000
set_option maxHeartbeats 4000000
namespace My
open PySem
/-! plain data of the law, and how it stands in Python -/
abbrev Pt := Int × Int
abbrev Ends2 := Pt × Pt
abbrev Corner := Int × Pt
abbrev Wall := Int × Int
abbrev Net := List Corner × List Wall
abbrev Hold := Str × Str × Int × Int × Int × Int
abbrev Opening := Str × Str × Wall × Int × Int × Int
abbrev Obl := Int × Int × Int × Int
abbrev Thing := Str × Obl
abbrev Plan := Net × List Hold × List Opening × List Thing
abbrev dPt (p : Pt) : PyData := .tuple [.int p.1, .int p.2]
abbrev dEnds (e : Ends2) : PyData := .tuple [dPt e.1, dPt e.2]
abbrev dC (c : Corner) : PyData := .tuple [.int c.1, .int c.2.1, .int c.2.2]
abbrev dW (w : Wall) : PyData := .tuple [.int w.1, .int w.2]
abbrev dNet (n : Net) : PyData := .tuple [.tuple (n.1.map dC), .tuple (n.2.map dW)]
abbrev dH (h : Hold) : PyData := .tuple [.str h.1, .str h.2.1, .int h.2.2.1, .int h.2.2.2.1, .int h.2.2.2.2.1, .int h.2.2.2.2.2]
abbrev dO (o : Opening) : PyData := .tuple [.str o.1, .str o.2.1, dW o.2.2.1, .int o.2.2.2.1, .int o.2.2.2.2.1, .int o.2.2.2.2.2]
abbrev dOb (o : Obl) : PyData := .tuple [.int o.1, .int o.2.1, .int o.2.2.1, .int o.2.2.2]
abbrev dT (t : Thing) : PyData := .tuple [.str t.1, .int t.2.1, .int t.2.2.1, .int t.2.2.2.1, .int t.2.2.2.2]
abbrev dPlan (p : Plan) : PyData := .tuple [dNet p.1, .tuple (p.2.1.map dH), .tuple (p.2.2.1.map dO), .tuple (p.2.2.2.map dT)]
/-! the mirror: what the defs reckon -/
def keys (n : Net) : List Int := n.1.map (·.1)
def spot (n : Net) (c : Int) : Pt := (n.1.lookup c).getD (0, 0)
def endsF (n : Net) (w : Wall) : Ends2 := (spot n w.1, spot n w.2)
def isUp (e : Ends2) : Bool := decide (e.1.1 = e.2.1)
def lengthF (e : Ends2) : Int := e.2.1 - e.1.1 + e.2.2 - e.1.2
def alongF (e : Ends2) (by_ : Int) : Pt := if e.1.1 = e.2.1 then (e.1.1, e.1.2 + by_) else (e.1.1 + by_, e.1.2)
def spanF (n : Net) (o : Opening) : Int × Int := if o.2.2.2.1 = o.2.2.1.1 then (o.2.2.2.2.1, o.2.2.2.2.1 + o.2.2.2.2.2)
  else (lengthF (endsF n o.2.2.1) - o.2.2.2.2.1 - o.2.2.2.2.2, lengthF (endsF n o.2.2.1) - o.2.2.2.2.1)
/-- a net that the defs can read -/
structure NetR (n : Net) : Prop where
  few : n.1.length ≤ 1000
  fewW : n.2.length ≤ 1000
  nd : (keys n).Nodup
  ends : ∀ w ∈ n.2, w.1 ∈ keys n ∧ w.2 ∈ keys n
theorem look_of {n : Net} {c : Int} (h : c ∈ keys n) : n.1.lookup c = some (spot n c) := by
  unfold spot
  obtain ⟨l, ws⟩ := n
  show l.lookup c = some ((l.lookup c).getD (0, 0))
  have : ∀ {l : List Corner}, c ∈ l.map (·.1) → ∃ p, l.lookup c = some p := by
    intro l
    induction l with
    | nil => intro h; simp at h
    | cons a l ih =>
      intro h
      by_cases e : c = a.1
      · exact ⟨a.2, by simp [List.lookup, e]⟩
      · simp only [List.map_cons, List.mem_cons] at h
        obtain ⟨p, hp⟩ := ih (h.resolve_left e)
        exact ⟨p, by
          have : (c == a.1) = false := by simpa using e
          simp only [List.lookup, this]; exact hp⟩
  obtain ⟨p, hp⟩ := this (l := l) h
  rw [hp]; rfl
end My
end

section
set_option Elab.async false
set_option linter.all false
set_option maxRecDepth 100000
set_option maxHeartbeats 4000000
namespace My
open PySem L2 G
open PyProof.Rows (envOfC)
def top (i : Nat) : Stmt := PySem.Challenge.pw_wallplan_k61_whole_what_fits_is_put.main.body.getD i (.Pass ⟨0, 0, 0, 0⟩)
abbrev s_Held_init : Stmt := inClass (top 3) 0
abbrev s_NoOpening_init : Stmt := inClass (top 4) 0
abbrev s_NoThing_init : Stmt := inClass (top 5) 0
abbrev s_is_whole : Stmt := top 8
abbrev s_is_spot : Stmt := top 9
abbrev s_spots_of : Stmt := top 10
abbrev s_ends_of : Stmt := top 11
abbrev s_is_upright : Stmt := top 12
abbrev s_way_from : Stmt := top 14
abbrev s_links_of : Stmt := top 15
abbrev s_way_of : Stmt := top 16
abbrev s_next_side : Stmt := top 17
abbrev s_sides_of : Stmt := top 18
abbrev s_sides_of_ring : Stmt := top 19
abbrev s_ring_from : Stmt := top 20
abbrev s_rings : Stmt := top 21
abbrev s_area_of : Stmt := top 22
abbrev s_wall_west : Stmt := top 24
abbrev s_upright_lines : Stmt := top 25
abbrev s_Found_init : Stmt := inClass (top 26) 0
abbrev s_Found_room_left : Stmt := inClass (top 26) 1
abbrev s_Found_side_west_of : Stmt := inClass (top 26) 2
abbrev s_Found_room_of_rim : Stmt := inClass (top 26) 3
abbrev s_Found_room_of_cell : Stmt := inClass (top 26) 4
abbrev s_Found_rims_in : Stmt := inClass (top 26) 5
abbrev s_Found_room : Stmt := inClass (top 26) 6
abbrev s_Found_room_rings : Stmt := inClass (top 26) 7
abbrev s_rooms : Stmt := top 27
abbrev s_cell_of : Stmt := top 28
abbrev s_cell_at : Stmt := top 29
abbrev s_is_name : Stmt := top 33
abbrev s_does_hold : Stmt := top 34
abbrev s_look_holds : Stmt := top 35
abbrev s_length_of : Stmt := top 38
abbrev s_span_of : Stmt := top 39
abbrev s_does_stand_alone : Stmt := top 40
abbrev s_are_apart_on : Stmt := top 41
abbrev s_does_stand : Stmt := top 42
abbrev s_first_fallen : Stmt := top 43
abbrev s_along : Stmt := top 44
abbrev s_stretch : Stmt := top 45
abbrev s_is_thing : Stmt := top 48
abbrev s_places : Stmt := top 49
abbrev s_all_places : Stmt := top 50
abbrev s_do_meet : Stmt := top 51
abbrev s_goes_across : Stmt := top 52
abbrev s_room_by : Stmt := top 53
abbrev s_room_of : Stmt := top 54
abbrev s_first_misfit : Stmt := top 55
abbrev s_oblongs_of : Stmt := top 57
abbrev s_ends_along : Stmt := top 58
abbrev s_barred : Stmt := top 59
abbrev s_is_barred : Stmt := top 60
abbrev s_fit : Stmt := top 61
abbrev s_made : Stmt := top 63
abbrev s_in_place : Stmt := top 64
abbrev s_thing_put : Stmt := top 65
abbrev s__law_feed : Stmt := top 67
abbrev s__law_draw : Stmt := top 68
abbrev s__law_line : Stmt := top 69
abbrev s__law_links : Stmt := top 70
abbrev s__law_merged : Stmt := top 71
abbrev s__law_numbers : Stmt := top 72
abbrev s__law_net : Stmt := top 73
abbrev s__law_spots_of : Stmt := top 74
abbrev s__law_length : Stmt := top 75
abbrev s__law_names : Stmt := top 76
abbrev s__law_openings : Stmt := top 77
abbrev s__law_holds : Stmt := top 78
abbrev s__law_oblong : Stmt := top 79
abbrev s__law_meet : Stmt := top 80
abbrev s__law_things : Stmt := top 81
abbrev s__law_plan : Stmt := top 82
abbrev s__law_put_at : Stmt := top 83
abbrev s__law_spots : Stmt := top 84
abbrev s__law_right : Stmt := top 85
abbrev s_law : Stmt := top 86
/-- what the top has written -/
structure Tx (K : PySem.W.Frag) (mg : Str → Option Value) (C : Addr) : Prop where
  b : Bi mg
  FARTHEST : ∃ k, mg "FARTHEST" = some (.int 1000000 k)
  MOST_HOLDS : ∃ k, mg "MOST_HOLDS" = some (.int 30 k)
  MOST_OPENINGS : ∃ k, mg "MOST_OPENINGS" = some (.int 40 k)
  MOST_THINGS : ∃ k, mg "MOST_THINGS" = some (.int 30 k)
  cl : Cls K C
  na : ∀ f : Str, f = "spots" ∨ f = "rings" ∨ f = "areas" ∨ f = "lines" ∨ f = "ring_by" → NoAttr K C f
/-- a method of the class at C as it stands behind the top -/
structure Dm (K : PySem.W.Frag) (C : Addr) (m q : Str) (st : Stmt) (ps : List Str) : Prop where
  ex : ∃ (f : Addr) (fd : FuncData), Fun K m q st f fd ∧ Meth K C m f ∧ Binds K fd ps []
section
variable {P : Program} {w : World} {K : PySem.W.Frag} {mg : Str → Option Value} {base : Heap} {C : Addr}
theorem mt_mk {m q : Str} {st : Stmt} {ps N : List Str} {k : Nat} {c : Co} (F : Dm K C m q st ps) (S : FnScope N ps (defScope st)) (len : ∀ ds Ω Ψ, c ds Ω Ψ → ds.length = ps.length)
    (hbody : ∀ (f : Addr) (cdv : Value) (A : Around) (outer : List Env) (s : Shared) (H : Hp) (E : XK), Room k (A.deeper (envOfC q (defScope st) s.heap.objs.size f cdv)) →
      ∃ t, PSs (cxOf CX0 P w K mg base N q (defScope st) f cdv A outer s H E).nox (defBody st) t ∧ ∀ ds Ω Ψ, c ds Ω Ψ → SW t (startD N ds) Ω { nx := fun _ Ω' => Ψ N0 Ω', rt := Ψ }) : Mt P w K mg base C m (k + 1) ps (spG c) := by
  obtain ⟨f, fd, h1, h2, h3⟩ := F.ex
  refine ⟨f, fd, h2, h3, h1.ok S (fun vs H Q E h => ?_) fun cdv A outer s H vs Q E hr h => ?_⟩
  · obtain ⟨H0, ds, Ω, Ψ, _, r, c, _⟩ := h
    exact (Paired.length r).trans (len _ _ _ c)
  · obtain ⟨H0, ds, Ω, Ψ, g, r, c, k⟩ := h
    obtain ⟨t, ht, q⟩ := hbody f cdv A outer s H E hr
    exact ⟨t, ht, q ds Ω Ψ c _ H0 H _ (start_sl N r) g ⟨fun σ' Γ' Ω' H0' H' q s' g' c' => k _ _ Ω' H0' H' q g' c' .non, fun v d Ω' H0' H' q r' g' c' => k v d Ω' H0' H' q g' c' r', fun _ _ _ _ _ h => h.elim, fun _ _ _ _ _ h => h.elim⟩⟩
end
end My
end

section
set_option Elab.async false
set_option linter.all false
set_option maxRecDepth 100000
set_option maxHeartbeats 4000000
namespace My
open PySem L2 G
open PyProof.Rows (envOfC)
section
variable {P : Program} {w : World} {K : PySem.W.Frag} {mg : Str → Option Value} {base : Heap} {C : Addr}
def c_is_upright : Cp := fun ds Ψ => ∃ e : Ends2, ds = [.py (dEnds e)] ∧ Ψ (B (isUp e))
theorem sc_is_upright : FnScope ["ends"] ["ends"] (defScope s_is_upright) := ⟨rfl, rfl, rfl, by decide +kernel, rfl, by decide +kernel, by decide +kernel⟩
theorem okv_is_upright : okL ["ends"] (defScope s_is_upright) = true := by decide +kernel
theorem ok_is_upright (T : Tx K mg C) (F : Df K mg "is_upright" s_is_upright ["ends"])  : Fn P w K mg base CX0 "is_upright" 1 ["ends"] (spP c_is_upright) :=
  have nd := sc_is_upright.nd
  fn_mk F sc_is_upright (by first | (rintro ds Ω Ψ ⟨_, _, rfl, _⟩; rfl) | (rintro ds Ω Ψ ⟨_, _, _, rfl, _⟩; rfl) | (rintro ds Ω Ψ ⟨_, _, _, _, rfl, _⟩; rfl) | (rintro ds Ω Ψ ⟨_, _, _, _, _, rfl, _⟩; rfl) | (rintro ds Ω Ψ ⟨_, _, _, _, _, _, rfl, _⟩; rfl)) fun f cdv A outer s H E hr => by
    refine ⟨_, (pss_one (ps_ret (pe_cmpR op_eq (pe_ix (ixt K) (pe_ix (ixt K) (pvA okv_is_upright 0 0) pe_int (fun _ _ => rfl)) pe_int (fun _ _ => rfl)) (pe_ix (ixt K) (pe_ix (ixt K) (pvA okv_is_upright 0 0) pe_int (fun _ _ => rfl)) pe_int (fun _ _ => rfl)) (nomark _)))), ?_⟩
    rintro ds Ω Ψ ⟨rfl, e, rfl, q⟩
    exact sw_ret (ev_eqI (ev_ixT (ev_ixT (ev_var rfl) ev_int rfl) ev_int rfl) (ev_ixT (ev_ixT (ev_var rfl) ev_int rfl) ev_int rfl)) q
def c_length_of : Cp := fun ds Ψ => ∃ e : Ends2, ds = [.py (dEnds e)] ∧ Ψ (I (lengthF e))
theorem sc_length_of : FnScope ["ends"] ["ends"] (defScope s_length_of) := ⟨rfl, rfl, rfl, by decide +kernel, rfl, by decide +kernel, by decide +kernel⟩
theorem okv_length_of : okL ["ends"] (defScope s_length_of) = true := by decide +kernel
theorem ok_length_of (T : Tx K mg C) (F : Df K mg "length_of" s_length_of ["ends"])  : Fn P w K mg base CX0 "length_of" 1 ["ends"] (spP c_length_of) :=
  have nd := sc_length_of.nd
  fn_mk F sc_length_of (by first | (rintro ds Ω Ψ ⟨_, _, rfl, _⟩; rfl) | (rintro ds Ω Ψ ⟨_, _, _, rfl, _⟩; rfl) | (rintro ds Ω Ψ ⟨_, _, _, _, rfl, _⟩; rfl) | (rintro ds Ω Ψ ⟨_, _, _, _, _, rfl, _⟩; rfl) | (rintro ds Ω Ψ ⟨_, _, _, _, _, _, rfl, _⟩; rfl)) fun f cdv A outer s H E hr => by
    refine ⟨_, (pss_one (ps_ret (pe_op op_sub (pe_op op_add (pe_op op_sub (pe_ix (ixt K) (pe_ix (ixt K) (pvA okv_length_of 0 0) pe_int (fun _ _ => rfl)) pe_int (fun _ _ => rfl)) (pe_ix (ixt K) (pe_ix (ixt K) (pvA okv_length_of 0 0) pe_int (fun _ _ => rfl)) pe_int (fun _ _ => rfl))) (pe_ix (ixt K) (pe_ix (ixt K) (pvA okv_length_of 0 0) pe_int (fun _ _ => rfl)) pe_int (fun _ _ => rfl))) (pe_ix (ixt K) (pe_ix (ixt K) (pvA okv_length_of 0 0) pe_int (fun _ _ => rfl)) pe_int (fun _ _ => rfl))))), ?_⟩
    rintro ds Ω Ψ ⟨rfl, e, rfl, q⟩
    exact sw_ret (ev_i0 (ev_i0 (ev_i0 (ev_ixT (ev_ixT (ev_var rfl) ev_int rfl) ev_int rfl) (ev_ixT (ev_ixT (ev_var rfl) ev_int rfl) ev_int rfl)) (ev_ixT (ev_ixT (ev_var rfl) ev_int rfl) ev_int rfl)) (ev_ixT (ev_ixT (ev_var rfl) ev_int rfl) ev_int rfl)) q
def c_along : Cp := fun ds Ψ => ∃ (e : Ends2) (b : Int), ds = [.py (dEnds e), I b] ∧ Ψ (.py (dPt (alongF e b)))
theorem sc_along : FnScope ["ends", "by"] ["ends", "by"] (defScope s_along) := ⟨rfl, rfl, rfl, by decide +kernel, rfl, by decide +kernel, by decide +kernel⟩
theorem okv_along : okL ["ends", "by"] (defScope s_along) = true := by decide +kernel
theorem ok_along (T : Tx K mg C) (F : Df K mg "along" s_along ["ends", "by"])  : Fn P w K mg base CX0 "along" 1 ["ends", "by"] (spP c_along) :=
  have nd := sc_along.nd
  fn_mk F sc_along (by first | (rintro ds Ω Ψ ⟨_, _, rfl, _⟩; rfl) | (rintro ds Ω Ψ ⟨_, _, _, rfl, _⟩; rfl) | (rintro ds Ω Ψ ⟨_, _, _, _, rfl, _⟩; rfl) | (rintro ds Ω Ψ ⟨_, _, _, _, _, rfl, _⟩; rfl) | (rintro ds Ω Ψ ⟨_, _, _, _, _, _, rfl, _⟩; rfl)) fun f cdv A outer s H E hr => by
    refine ⟨_, (pss_cons (ps_if (pt_cmpR op_eq (pe_ix (ixt K) (pe_ix (ixt K) (pvA okv_along 0 0) pe_int (fun _ _ => rfl)) pe_int (fun _ _ => rfl)) (pe_ix (ixt K) (pe_ix (ixt K) (pvA okv_along 0 0) pe_int (fun _ _ => rfl)) pe_int (fun _ _ => rfl)) (nomark _)) (pss_one (ps_ret (pe_tup (pa_cons (pe_ix (ixt K) (pe_ix (ixt K) (pvA okv_along 0 0) pe_int (fun _ _ => rfl)) pe_int (fun _ _ => rfl)) (pa_cons (pe_op op_add (pe_ix (ixt K) (pe_ix (ixt K) (pvA okv_along 0 0) pe_int (fun _ _ => rfl)) pe_int (fun _ _ => rfl)) (pvA okv_along 1 1)) pa_nil))))) pss_nil) (pss_one (ps_ret (pe_tup (pa_cons (pe_op op_add (pe_ix (ixt K) (pe_ix (ixt K) (pvA okv_along 0 0) pe_int (fun _ _ => rfl)) pe_int (fun _ _ => rfl)) (pvA okv_along 1 1)) (pa_cons (pe_ix (ixt K) (pe_ix (ixt K) (pvA okv_along 0 0) pe_int (fun _ _ => rfl)) pe_int (fun _ _ => rfl)) pa_nil)))))), ?_⟩
    rintro ds Ω Ψ ⟨rfl, e, b, rfl, q⟩
    refine sw_seq (sw_if (ts_T (ev_eqI (ev_ixT (ev_ixT (ev_var rfl) ev_int rfl) ev_int rfl) (ev_ixT (ev_ixT (ev_var rfl) ev_int rfl) ev_int rfl))) (fun hb => ?_) fun hb => sw_next ?_)
    · have h := of_decide_eq_true hb
      refine sw_ret (ev_tup (ar_cons (ev_ixT (ev_ixT (ev_var rfl) ev_int rfl) ev_int rfl) (ar_cons (ev_i0 (ev_ixT (ev_ixT (ev_var rfl) ev_int rfl) ev_int rfl) (ev_var rfl)) ar_nil)) (ds := [_, _])) ?_
      unfold alongF at q
      rw [if_pos h] at q
      exact q
    · have h := of_decide_eq_false hb
      refine sw_ret (ev_tup (ar_cons (ev_i0 (ev_ixT (ev_ixT (ev_var rfl) ev_int rfl) ev_int rfl) (ev_var rfl)) (ar_cons (ev_ixT (ev_ixT (ev_var rfl) ev_int rfl) ev_int rfl) ar_nil)) (ds := [_, _])) ?_
      unfold alongF at q
      rw [if_neg h] at q
      exact q
def meetF (a b : Obl) : Bool := decide (a.1 < b.1 + b.2.2.1) && (decide (b.1 < a.1 + a.2.2.1) && (decide (a.2.1 < b.2.1 + b.2.2.2) && decide (b.2.1 < a.2.1 + a.2.2.2)))
def c_do_meet : Cp := fun ds Ψ => ∃ a b : Obl, ds = [.py (dOb a), .py (dOb b)] ∧ Ψ (B (meetF a b))
theorem sc_do_meet : FnScope ["one", "other", "x", "y", "w", "h", "u", "v", "wide", "high"] ["one", "other"] (defScope s_do_meet) := ⟨rfl, rfl, rfl, by decide +kernel, rfl, by decide +kernel, by decide +kernel⟩
theorem okv_do_meet : okL ["one", "h", "w", "y", "x", "other", "high", "wide", "v", "u"] (defScope s_do_meet) = true := by decide +kernel
theorem ok_do_meet (T : Tx K mg C) (F : Df K mg "do_meet" s_do_meet ["one", "other"])  : Fn P w K mg base CX0 "do_meet" 1 ["one", "other"] (spP c_do_meet) :=
  have nd := sc_do_meet.nd
  fn_mk F sc_do_meet (by first | (rintro ds Ω Ψ ⟨_, _, rfl, _⟩; rfl) | (rintro ds Ω Ψ ⟨_, _, _, rfl, _⟩; rfl) | (rintro ds Ω Ψ ⟨_, _, _, _, rfl, _⟩; rfl) | (rintro ds Ω Ψ ⟨_, _, _, _, _, rfl, _⟩; rfl) | (rintro ds Ω Ψ ⟨_, _, _, _, _, _, rfl, _⟩; rfl)) fun f cdv A outer s H E hr => by
    refine ⟨_, (pss_cons (ps_asg (pvA okv_do_meet 0 0) (pgt K (n := 4) rfl (pgs_cons (gnA okv_do_meet nd 2 4) (pgs_cons (gnA okv_do_meet nd 3 3) (pgs_cons (gnA okv_do_meet nd 4 2) (pgs_cons (gnA okv_do_meet nd 5 1) pgs_nil)))))) (pss_cons (ps_asg (pvA okv_do_meet 1 5) (pgt K (n := 4) rfl (pgs_cons (gnA okv_do_meet nd 6 9) (pgs_cons (gnA okv_do_meet nd 7 8) (pgs_cons (gnA okv_do_meet nd 8 7) (pgs_cons (gnA okv_do_meet nd 9 6) pgs_nil)))))) (pss_one (ps_ret (pe_and (pe_cmpR op_lt (pvA okv_do_meet 2 4) (pe_op op_add (pvA okv_do_meet 6 9) (pvA okv_do_meet 8 7)) (nomark _)) (pe_and (pe_cmpR op_lt (pvA okv_do_meet 6 9) (pe_op op_add (pvA okv_do_meet 2 4) (pvA okv_do_meet 4 2)) (nomark _)) (pe_and (pe_cmpR op_lt (pvA okv_do_meet 3 3) (pe_op op_add (pvA okv_do_meet 7 8) (pvA okv_do_meet 9 6)) (nomark _)) (pe_one (pe_cmpR op_lt (pvA okv_do_meet 7 8) (pe_op op_add (pvA okv_do_meet 3 3) (pvA okv_do_meet 5 1)) (nomark _)))))))))), ?_⟩
    rintro ds Ω Ψ ⟨rfl, a, b, rfl, q⟩
    refine sw_seq (sw_asgW (EvD.toW (ev_var rfl) (tg_tup rfl (tgs_cons (tg_name (tgs_cons (tg_name (tgs_cons (tg_name (tgs_cons (tg_name (tgs_nil ?_))))))))))))
    try simp only [startD, List.map_cons, List.map_nil, List.cons_append, List.nil_append, List.set_cons_zero, List.set_cons_succ, List.length_cons, List.length_nil, List.replicate_succ, List.replicate_zero, Nat.reduceSub, Nat.reduceAdd]
    refine sw_seq (sw_asgW (EvD.toW (ev_var rfl) (tg_tup rfl (tgs_cons (tg_name (tgs_cons (tg_name (tgs_cons (tg_name (tgs_cons (tg_name (tgs_nil ?_))))))))))))
    try simp only [startD, List.map_cons, List.map_nil, List.cons_append, List.nil_append, List.set_cons_zero, List.set_cons_succ, List.length_cons, List.length_nil, List.replicate_succ, List.replicate_zero, Nat.reduceSub, Nat.reduceAdd]
    refine sw_ret (d := B (meetF a b)) ?_ q
    exact ev_and (ev_iB (ev_var rfl) (ev_i0 (ev_var rfl) (ev_var rfl))) fun _ => (ev_and (ev_iB (ev_var rfl) (ev_i0 (ev_var rfl) (ev_var rfl))) fun _ => (ev_and (ev_iB (ev_var rfl) (ev_i0 (ev_var rfl) (ev_var rfl))) fun _ => (ev_iB (ev_var rfl) (ev_i0 (ev_var rfl) (ev_var rfl)))))
def spotsM (n : Net) : Mono := dictM (n.1.map fun c => (c.1, .py (dPt c.2)))
def c_spots_of : Cp := fun ds Ψ => ∃ n : Net, ds = [.py (dNet n)] ∧ NetR n ∧ Ψ (.ab (spotsM n))
theorem sc_spots_of : FnScope ["net", "found", "c", "x", "y"] ["net"] (defScope s_spots_of) := ⟨rfl, rfl, rfl, by decide +kernel, rfl, by decide +kernel, by decide +kernel⟩
theorem okv_spots_of : okL ["found", "net", "y", "x", "c"] (defScope s_spots_of) = true := by decide +kernel
theorem ok_spots_of (T : Tx K mg C) (F : Df K mg "spots_of" s_spots_of ["net"])  : Fn P w K mg base CX0 "spots_of" 1 ["net"] (spP c_spots_of) :=
  have nd := sc_spots_of.nd
  fn_mk F sc_spots_of (by first | (rintro ds Ω Ψ ⟨_, _, rfl, _⟩; rfl) | (rintro ds Ω Ψ ⟨_, _, _, rfl, _⟩; rfl) | (rintro ds Ω Ψ ⟨_, _, _, _, rfl, _⟩; rfl) | (rintro ds Ω Ψ ⟨_, _, _, _, _, rfl, _⟩; rfl) | (rintro ds Ω Ψ ⟨_, _, _, _, _, _, rfl, _⟩; rfl)) fun f cdv A outer s H E hr => by
    refine ⟨_, (pss_cons (ps_asg pe_dnewK (gnA okv_spots_of nd 1 0)) (pss_cons (ps_for PassesOwn.never rfl (pi_tup (pe_ix (ixt K) (pvA okv_spots_of 0 1) pe_int (fun _ _ => rfl))) (pgt K (n := 3) rfl (pgs_cons (gnA okv_spots_of nd 2 4) (pgs_cons (gnA okv_spots_of nd 3 3) (pgs_cons (gnA okv_spots_of nd 4 2) pgs_nil)))) (pss_one (ps_dput (hu_of hr) (pvA okv_spots_of 1 0) (pvA okv_spots_of 2 4) (pe_tup (pa_cons (pvA okv_spots_of 3 3) (pa_cons (pvA okv_spots_of 4 2) pa_nil))) rfl))) (pss_one (ps_ret (pvA okv_spots_of 1 0))))), ?_⟩
    rintro ds Ω Ψ ⟨rfl, n, rfl, hn, q⟩
    refine sw_seq (sw_setW (ev_ownK fun p => ?_))
    refine sw_seq (sw_forT (ev_ixT (ev_var rfl) ev_int rfl) (fun k Γ Ω => ∃ a b c, Γ = [some (.py (dNet n)), some (.loc p), a, b, c] ∧ Ω = [(p, .dk ((n.1.take k).map fun c => (.inl c.1, .py (dPt c.2))))]) ⟨_, _, _, rfl, rfl⟩ (fun k d Γ' Ω' hd j => ?_) fun Γ' Ω' j => ?_)
    · obtain ⟨a, b, c, rfl, rfl⟩ := j
      rw [List.getElem?_map] at hd
      cases e : n.1[k]? with
      | none => rw [e] at hd; cases hd
      | some c0 =>
        rw [e] at hd
        cases hd
        refine tg_tup rfl (tgs_cons (tg_name (tgs_cons (tg_name (tgs_cons (tg_name (tgs_nil ?_)))))))
        refine sw_dputK (ev_tup (ar_cons (ev_var rfl) (ar_cons (ev_var rfl) ar_nil)) (ds := [_, _])) (ev_var rfl) (ev_var rfl) (j := 0) rfl (fun hm => ?_) ?_ ?_
        · have hnd := hn.nd
          obtain ⟨x, hx, ex⟩ := List.mem_map.mp hm
          obtain ⟨y, hy, rfl⟩ := List.mem_map.mp hx
          obtain ⟨i, hi⟩ := List.getElem?_of_mem hy
          have hik : i < k := by
            have := (List.getElem?_eq_some_iff.mp hi).1
            rw [List.length_take] at this; omega
          rw [List.getElem?_take_of_lt hik] at hi
          have e1 : (keys n)[i]? = some y.1 := by unfold keys; rw [List.getElem?_map, hi]; rfl
          have e2 : (keys n)[k]? = some c0.1 := by unfold keys; rw [List.getElem?_map, e]; rfl
          have e3 : y.1 = c0.1 := Sum.inl.inj ex
          rw [e3] at e1
          exact absurd (L2.nd_ix hnd e1 e2) (by omega)
        · rw [List.length_map, List.length_take]
          have := hn.few; omega
        · refine ⟨_, _, _, rfl, ?_⟩
          rw [take_next e, List.map_append]; rfl
    · obtain ⟨a, b, c, rfl, rfl⟩ := j
      rw [List.length_map, List.take_length]
      refine sw_frzK (i := 1) (j := 0) (kvs := n.1.map fun c => (c.1, .py (dPt c.2))) rfl (by rw [List.map_map]; rfl) ?_
      exact sw_ret (ev_var rfl) q
theorem spots_get {n : Net} {c : Int} (h : c ∈ keys n) : (n.1.map fun c => (c.1, D.py (dPt c.2))).lookup c = some (.py (dPt (spot n c))) := by
  have : ∀ l : List Corner, (l.map fun c => (c.1, D.py (dPt c.2))).lookup c = (l.lookup c).map fun p => D.py (dPt p) := by
    intro l
    induction l with
    | nil => rfl
    | cons a l ih =>
      by_cases e : c = a.1
      · subst e; simp [List.lookup]
      · have : (c == a.1) = false := by simpa using e
        simp only [List.map_cons, List.lookup, this]; exact ih
  rw [this, look_of h]; rfl
theorem ev_spots {Γ : En} {Ω : Om} {ta tb : TE} {n : Net} {c : Int} (ha : EvD ta Γ Ω (.ab (spotsM n))) (hb : EvD tb Γ Ω (I c)) (h : c ∈ keys n) : EvD (tDGet ta tb) Γ Ω (.py (dPt (spot n c))) := ev_dget ha hb (spots_get h)
def c_ends_of : Cp := fun ds Ψ => ∃ (n : Net) (wl : Wall), ds = [.py (dNet n), .py (dW wl)] ∧ (NetR n ∧ wl.1 ∈ keys n ∧ wl.2 ∈ keys n) ∧ Ψ (.py (dEnds (endsF n wl)))
theorem sc_ends_of : FnScope ["net", "wall", "spots"] ["net", "wall"] (defScope s_ends_of) := ⟨rfl, rfl, rfl, by decide +kernel, rfl, by decide +kernel, by decide +kernel⟩
theorem okv_ends_of : okL ["net", "spots", "wall"] (defScope s_ends_of) = true := by decide +kernel
theorem okg_ends_of : okG ["spots_of"] (defScope s_ends_of) = true := by decide +kernel
theorem ok_ends_of (T : Tx K mg C) (F : Df K mg "ends_of" s_ends_of ["net", "wall"]) (g_spots_of : Fn P w K mg base CX0 "spots_of" 1 ["net"] (spP c_spots_of)) : Fn P w K mg base CX0 "ends_of" 2 ["net", "wall"] (spP c_ends_of) :=
  have nd := sc_ends_of.nd
  fn_mk F sc_ends_of (by first | (rintro ds Ω Ψ ⟨_, _, rfl, _⟩; rfl) | (rintro ds Ω Ψ ⟨_, _, _, rfl, _⟩; rfl) | (rintro ds Ω Ψ ⟨_, _, _, _, rfl, _⟩; rfl) | (rintro ds Ω Ψ ⟨_, _, _, _, _, rfl, _⟩; rfl) | (rintro ds Ω Ψ ⟨_, _, _, _, _, _, rfl, _⟩; rfl)) fun f cdv A outer s H E hr => by
    refine ⟨_, (pss_cons (ps_asg (pe_fn g_spots_of hr (by decide) (pa_cons (pvA okv_ends_of 0 0) pa_nil) (hg := glA okg_ends_of 0)) (gnA okv_ends_of nd 2 1)) (pss_one (ps_ret (pe_tup (pa_cons (pe_dget (hu_of hr) (pvA okv_ends_of 2 1) (pe_ix (ixt K) (pvA okv_ends_of 1 2) pe_int (fun _ _ => rfl)) (fun _ _ => rfl)) (pa_cons (pe_dget (hu_of hr) (pvA okv_ends_of 2 1) (pe_ix (ixt K) (pvA okv_ends_of 1 2) pe_int (fun _ _ => rfl)) (fun _ _ => rfl)) pa_nil)))))), ?_⟩
    rintro ds Ω Ψ ⟨rfl, n, wl, rfl, ⟨hn, h1, h2⟩, q⟩
    refine sw_seq (sw_set (ev_fn (ar_cons (ev_var rfl) ar_nil) fun Ψ q => ⟨n, rfl, hn, q⟩) ?_)
    exact sw_ret (ev_tup (ar_cons (ev_spots (ev_var rfl) (ev_ixT (ev_var rfl) ev_int rfl) h1) (ar_cons (ev_spots (ev_var rfl) (ev_ixT (ev_var rfl) ev_int rfl) h2) ar_nil)) (ds := [_, _])) q
/-- an opening on a wall of the net -/
def OpR (n : Net) (o : Opening) : Prop := NetR n ∧ o.2.2.1.1 ∈ keys n ∧ o.2.2.1.2 ∈ keys n
def c_span_of : Cp := fun ds Ψ => ∃ (n : Net) (o : Opening), ds = [.py (dNet n), .py (dO o)] ∧ OpR n o ∧ Ψ (.py (dPt (spanF n o)))
theorem sc_span_of : FnScope ["net", "opening", "name", "kind", "wall", "end", "at", "width", "length"] ["net", "opening"] (defScope s_span_of) := ⟨rfl, rfl, rfl, by decide +kernel, rfl, by decide +kernel, by decide +kernel⟩
theorem okv_span_of : okL ["opening", "width", "at", "end", "wall", "kind", "name", "net", "length"] (defScope s_span_of) = true := by decide +kernel
theorem okg_span_of : okG ["ends_of", "length_of"] (defScope s_span_of) = true := by decide +kernel
theorem ok_span_of (T : Tx K mg C) (F : Df K mg "span_of" s_span_of ["net", "opening"]) (g_ends_of : Fn P w K mg base CX0 "ends_of" 2 ["net", "wall"] (spP c_ends_of)) (g_length_of : Fn P w K mg base CX0 "length_of" 1 ["ends"] (spP c_length_of)) : Fn P w K mg base CX0 "span_of" 3 ["net", "opening"] (spP c_span_of) :=
  have nd := sc_span_of.nd
  fn_mk F sc_span_of (by first | (rintro ds Ω Ψ ⟨_, _, rfl, _⟩; rfl) | (rintro ds Ω Ψ ⟨_, _, _, rfl, _⟩; rfl) | (rintro ds Ω Ψ ⟨_, _, _, _, rfl, _⟩; rfl) | (rintro ds Ω Ψ ⟨_, _, _, _, _, rfl, _⟩; rfl) | (rintro ds Ω Ψ ⟨_, _, _, _, _, _, rfl, _⟩; rfl)) fun f cdv A outer s H E hr => by
    refine ⟨_, (pss_cons (ps_asg (pvA okv_span_of 1 0) (pgt K (n := 6) rfl (pgs_cons (gnA okv_span_of nd 2 6) (pgs_cons (gnA okv_span_of nd 3 5) (pgs_cons (gnA okv_span_of nd 4 4) (pgs_cons (gnA okv_span_of nd 5 3) (pgs_cons (gnA okv_span_of nd 6 2) (pgs_cons (gnA okv_span_of nd 7 1) pgs_nil)))))))) (pss_cons (ps_if (pt_cmpR op_eq (pvA okv_span_of 5 3) (pe_ix (ixt K) (pvA okv_span_of 4 4) pe_int (fun _ _ => rfl)) (nomark _)) (pss_one (ps_ret (pe_tup (pa_cons (pvA okv_span_of 6 2) (pa_cons (pe_op op_add (pvA okv_span_of 6 2) (pvA okv_span_of 7 1)) pa_nil))))) pss_nil) (pss_cons (ps_asg (pe_fn g_length_of hr (by decide) (pa_cons (pe_fn g_ends_of hr (by decide) (pa_cons (pvA okv_span_of 0 7) (pa_cons (pvA okv_span_of 4 4) pa_nil)) (hg := glA okg_span_of 0)) pa_nil) (hg := glA okg_span_of 1)) (gnA okv_span_of nd 8 8)) (pss_one (ps_ret (pe_tup (pa_cons (pe_op op_sub (pe_op op_sub (pvA okv_span_of 8 8) (pvA okv_span_of 6 2)) (pvA okv_span_of 7 1)) (pa_cons (pe_op op_sub (pvA okv_span_of 8 8) (pvA okv_span_of 6 2)) pa_nil)))))))), ?_⟩
    rintro ds Ω Ψ ⟨rfl, n, o, rfl, ⟨hn, h1, h2⟩, q⟩
    refine sw_seq (sw_asgW (EvD.toW (ev_var rfl) (tg_tup rfl (tgs_cons (tg_name (tgs_cons (tg_name (tgs_cons (tg_name (tgs_cons (tg_name (tgs_cons (tg_name (tgs_cons (tg_name (tgs_nil ?_))))))))))))))))
    try simp only [startD, List.map_cons, List.map_nil, List.cons_append, List.nil_append, List.set_cons_zero, List.set_cons_succ, List.length_cons, List.length_nil, List.replicate_succ, List.replicate_zero, Nat.reduceSub, Nat.reduceAdd]
    refine sw_seq (sw_if (ts_T (ev_eqI (ev_var rfl) (ev_ixT (ev_var rfl) ev_int rfl))) (fun hb => ?_) fun hb => sw_next ?_)
    · refine sw_ret (ev_tup (ar_cons (ev_var rfl) (ar_cons (ev_i0 (ev_var rfl) (ev_var rfl)) ar_nil)) (ds := [_, _])) ?_
      unfold spanF at q
      rw [if_pos (of_decide_eq_true hb)] at q
      exact q
    · refine sw_seq (sw_set (ev_fn (ar_cons (ev_fn (ar_cons (ev_var rfl) (ar_cons (ev_var rfl) ar_nil)) fun Ψ q => ⟨n, o.2.2.1, rfl, ⟨hn, h1, h2⟩, q⟩) ar_nil) fun Ψ q => ⟨_, rfl, q⟩) ?_)
      refine sw_ret (ev_tup (ar_cons (ev_i0 (ev_i0 (ev_var rfl) (ev_var rfl)) (ev_var rfl)) (ar_cons (ev_i0 (ev_var rfl) (ev_var rfl)) ar_nil)) (ds := [_, _])) ?_
      unfold spanF at q
      rw [if_neg (of_decide_eq_false hb)] at q
      exact q
/-- x, y, u, v -/
def stretchF (n : Net) (o : Opening) : Obl := ((alongF (endsF n o.2.2.1) (spanF n o).1).1, (alongF (endsF n o.2.2.1) (spanF n o).1).2, (alongF (endsF n o.2.2.1) (spanF n o).2).1, (alongF (endsF n o.2.2.1) (spanF n o).2).2)
def c_stretch : Cp := fun ds Ψ => ∃ (n : Net) (o : Opening), ds = [.py (dNet n), .py (dO o)] ∧ OpR n o ∧ Ψ (.py (dOb (stretchF n o)))
theorem sc_stretch : FnScope ["net", "opening", "ends", "first", "last"] ["net", "opening"] (defScope s_stretch) := ⟨rfl, rfl, rfl, by decide +kernel, rfl, by decide +kernel, by decide +kernel⟩
theorem okv_stretch : okL ["opening", "net", "ends", "last", "first"] (defScope s_stretch) = true := by decide +kernel
theorem okg_stretch : okG ["ends_of", "span_of", "along"] (defScope s_stretch) = true := by decide +kernel
theorem ok_stretch (T : Tx K mg C) (F : Df K mg "stretch" s_stretch ["net", "opening"]) (g_along : Fn P w K mg base CX0 "along" 1 ["ends", "by"] (spP c_along)) (g_ends_of : Fn P w K mg base CX0 "ends_of" 2 ["net", "wall"] (spP c_ends_of)) (g_span_of : Fn P w K mg base CX0 "span_of" 3 ["net", "opening"] (spP c_span_of)) : Fn P w K mg base CX0 "stretch" 4 ["net", "opening"] (spP c_stretch) :=
  have nd := sc_stretch.nd
  fn_mk F sc_stretch (by first | (rintro ds Ω Ψ ⟨_, _, rfl, _⟩; rfl) | (rintro ds Ω Ψ ⟨_, _, _, rfl, _⟩; rfl) | (rintro ds Ω Ψ ⟨_, _, _, _, rfl, _⟩; rfl) | (rintro ds Ω Ψ ⟨_, _, _, _, _, rfl, _⟩; rfl) | (rintro ds Ω Ψ ⟨_, _, _, _, _, _, rfl, _⟩; rfl)) fun f cdv A outer s H E hr => by
    refine ⟨_, (pss_cons (ps_asg (pe_fn g_ends_of hr (by decide) (pa_cons (pvA okv_stretch 0 1) (pa_cons (pe_ix (ixt K) (pvA okv_stretch 1 0) pe_int (fun _ _ => rfl)) pa_nil)) (hg := glA okg_stretch 0)) (gnA okv_stretch nd 2 2)) (pss_cons (ps_asg (pe_fn g_span_of hr (by decide) (pa_cons (pvA okv_stretch 0 1) (pa_cons (pvA okv_stretch 1 0) pa_nil)) (hg := glA okg_stretch 1)) (pgt K (n := 2) rfl (pgs_cons (gnA okv_stretch nd 3 4) (pgs_cons (gnA okv_stretch nd 4 3) pgs_nil)))) (pss_one (ps_ret (pe_op (opc K) (pe_fn g_along hr (by decide) (pa_cons (pvA okv_stretch 2 2) (pa_cons (pvA okv_stretch 3 4) pa_nil)) (hg := glA okg_stretch 2)) (pe_fn g_along hr (by decide) (pa_cons (pvA okv_stretch 2 2) (pa_cons (pvA okv_stretch 4 3) pa_nil)) (hg := glA okg_stretch 2))))))), ?_⟩
    rintro ds Ω Ψ ⟨rfl, n, o, rfl, ho, q⟩
    refine sw_seq (sw_set (ev_fn (ar_cons (ev_var rfl) (ar_cons (ev_ixT (ev_var rfl) ev_int rfl) ar_nil)) fun Ψ q => ⟨n, o.2.2.1, rfl, ho, q⟩) ?_)
    refine sw_seq (sw_asgW (EvD.toW (ev_fn (ar_cons (ev_var rfl) (ar_cons (ev_var rfl) ar_nil)) fun Ψ q => ⟨n, o, rfl, ho, q⟩) (tg_tup rfl (tgs_cons (tg_name (tgs_cons (tg_name (tgs_nil ?_))))))))
    exact sw_ret (ev_catT (ev_fn (ar_cons (ev_var rfl) (ar_cons (ev_var rfl) ar_nil)) fun Ψ q => ⟨_, _, rfl, q⟩) (ev_fn (ar_cons (ev_var rfl) (ar_cons (ev_var rfl) ar_nil)) fun Ψ q => ⟨_, _, rfl, q⟩)) q
def acrossF (e : Ends2) (o : Obl) : Bool := if isUp e then (decide (o.1 < e.1.1) && decide (e.1.1 < o.1 + o.2.2.1)) && (decide (e.1.2 < o.2.1 + o.2.2.2) && decide (o.2.1 < e.2.2))
  else (decide (o.2.1 < e.1.2) && decide (e.1.2 < o.2.1 + o.2.2.2)) && (decide (e.1.1 < o.1 + o.2.2.1) && decide (o.1 < e.2.1))
def c_goes_across : Cp := fun ds Ψ => ∃ (e : Ends2) (o : Obl), ds = [.py (dEnds e), .py (dOb o)] ∧ Ψ (B (acrossF e o))
theorem sc_goes_across : FnScope ["ends", "oblong", "x", "y", "w", "h"] ["ends", "oblong"] (defScope s_goes_across) := ⟨rfl, rfl, rfl, by decide +kernel, rfl, by decide +kernel, by decide +kernel⟩
theorem okv_goes_across : okL ["oblong", "h", "w", "y", "x", "ends"] (defScope s_goes_across) = true := by decide +kernel
theorem okg_goes_across : okG ["is_upright"] (defScope s_goes_across) = true := by decide +kernel
theorem ok_goes_across (T : Tx K mg C) (F : Df K mg "goes_across" s_goes_across ["ends", "oblong"]) (g_is_upright : Fn P w K mg base CX0 "is_upright" 1 ["ends"] (spP c_is_upright)) : Fn P w K mg base CX0 "goes_across" 2 ["ends", "oblong"] (spP c_goes_across) :=
  have nd := sc_goes_across.nd
  fn_mk F sc_goes_across (by first | (rintro ds Ω Ψ ⟨_, _, rfl, _⟩; rfl) | (rintro ds Ω Ψ ⟨_, _, _, rfl, _⟩; rfl) | (rintro ds Ω Ψ ⟨_, _, _, _, rfl, _⟩; rfl) | (rintro ds Ω Ψ ⟨_, _, _, _, _, rfl, _⟩; rfl) | (rintro ds Ω Ψ ⟨_, _, _, _, _, _, rfl, _⟩; rfl)) fun f cdv A outer s H E hr => by
    refine ⟨_, (pss_cons (ps_asg (pvA okv_goes_across 1 0) (pgt K (n := 4) rfl (pgs_cons (gnA okv_goes_across nd 2 4) (pgs_cons (gnA okv_goes_across nd 3 3) (pgs_cons (gnA okv_goes_across nd 4 2) (pgs_cons (gnA okv_goes_across nd 5 1) pgs_nil)))))) (pss_cons (ps_if (pt_val (pe_fn g_is_upright hr (by decide) (pa_cons (pvA okv_goes_across 0 5) pa_nil) (hg := glA okg_goes_across 0))) (pss_one (ps_ret (pe_and (pe_chain op_lt op_lt (pvA okv_goes_across 2 4) (pe_ix (ixt K) (pe_ix (ixt K) (pvA okv_goes_across 0 5) pe_int (fun _ _ => rfl)) pe_int (fun _ _ => rfl)) (pe_op op_add (pvA okv_goes_across 2 4) (pvA okv_goes_across 4 2))) (pe_and (pe_cmpR op_lt (pe_ix (ixt K) (pe_ix (ixt K) (pvA okv_goes_across 0 5) pe_int (fun _ _ => rfl)) pe_int (fun _ _ => rfl)) (pe_op op_add (pvA okv_goes_across 3 3) (pvA okv_goes_across 5 1)) (nomark _)) (pe_one (pe_cmpR op_lt (pvA okv_goes_across 3 3) (pe_ix (ixt K) (pe_ix (ixt K) (pvA okv_goes_across 0 5) pe_int (fun _ _ => rfl)) pe_int (fun _ _ => rfl)) (nomark _))))))) pss_nil) (pss_one (ps_ret (pe_and (pe_chain op_lt op_lt (pvA okv_goes_across 3 3) (pe_ix (ixt K) (pe_ix (ixt K) (pvA okv_goes_across 0 5) pe_int (fun _ _ => rfl)) pe_int (fun _ _ => rfl)) (pe_op op_add (pvA okv_goes_across 3 3) (pvA okv_goes_across 5 1))) (pe_and (pe_cmpR op_lt (pe_ix (ixt K) (pe_ix (ixt K) (pvA okv_goes_across 0 5) pe_int (fun _ _ => rfl)) pe_int (fun _ _ => rfl)) (pe_op op_add (pvA okv_goes_across 2 4) (pvA okv_goes_across 4 2)) (nomark _)) (pe_one (pe_cmpR op_lt (pvA okv_goes_across 2 4) (pe_ix (ixt K) (pe_ix (ixt K) (pvA okv_goes_across 0 5) pe_int (fun _ _ => rfl)) pe_int (fun _ _ => rfl)) (nomark _))))))))), ?_⟩
    rintro ds Ω Ψ ⟨rfl, e, o, rfl, q⟩
    refine sw_seq (sw_asgW (EvD.toW (ev_var rfl) (tg_tup rfl (tgs_cons (tg_name (tgs_cons (tg_name (tgs_cons (tg_name (tgs_cons (tg_name (tgs_nil ?_))))))))))))
    try simp only [startD, List.map_cons, List.map_nil, List.cons_append, List.nil_append, List.set_cons_zero, List.set_cons_succ, List.length_cons, List.length_nil, List.replicate_succ, List.replicate_zero, Nat.reduceSub, Nat.reduceAdd]
    refine sw_seq (sw_if (ts_B (ev_fn (ar_cons (ev_var rfl) ar_nil) fun Ψ q => ⟨e, rfl, q⟩)) (fun hb => ?_) fun hb => sw_next ?_)
    · refine sw_ret (ev_and (ev_chain (ev_var rfl) (ev_ixT (ev_ixT (ev_var rfl) ev_int rfl) ev_int rfl) (ev_i0 (ev_var rfl) (ev_var rfl))) fun _ => (ev_and (ev_iB (ev_ixT (ev_ixT (ev_var rfl) ev_int rfl) ev_int rfl) (ev_i0 (ev_var rfl) (ev_var rfl))) fun _ => (ev_iB (ev_var rfl) (ev_ixT (ev_ixT (ev_var rfl) ev_int rfl) ev_int rfl)))) ?_
      unfold acrossF at q
      rw [if_pos hb] at q
      exact q
    · refine sw_ret (ev_and (ev_chain (ev_var rfl) (ev_ixT (ev_ixT (ev_var rfl) ev_int rfl) ev_int rfl) (ev_i0 (ev_var rfl) (ev_var rfl))) fun _ => (ev_and (ev_iB (ev_ixT (ev_ixT (ev_var rfl) ev_int rfl) ev_int rfl) (ev_i0 (ev_var rfl) (ev_var rfl))) fun _ => (ev_iB (ev_var rfl) (ev_ixT (ev_ixT (ev_var rfl) ev_int rfl) ev_int rfl)))) ?_
      unfold acrossF at q
      rw [if_neg (by rw [hb]; exact Bool.false_ne_true)] at q
      exact q
end
end My
end

section
set_option Elab.async false
set_option linter.all false
set_option maxRecDepth 100000
set_option maxHeartbeats 4000000
namespace My
open PySem L2 G
open PyProof.Rows (envOfC)
section
variable {P : Program} {w : World} {K : PySem.W.Frag} {mg : Str → Option Value} {base : Heap} {C : Addr}
/-! ### doors' places -/
def placesF (n : Net) (o : Opening) : Obl := if isUp (endsF n o.2.2.1) then
    (max 0 ((stretchF n o).1 - o.2.2.2.2.2), (stretchF n o).2.1, (stretchF n o).1 + o.2.2.2.2.2 - max 0 ((stretchF n o).1 - o.2.2.2.2.2), o.2.2.2.2.2)
  else ((stretchF n o).1, max 0 ((stretchF n o).2.1 - o.2.2.2.2.2), o.2.2.2.2.2, (stretchF n o).2.1 + o.2.2.2.2.2 - max 0 ((stretchF n o).2.1 - o.2.2.2.2.2))
def c_places : Cp := fun ds Ψ => ∃ (n : Net) (o : Opening), ds = [.py (dNet n), .py (dO o)] ∧ OpR n o ∧ Ψ (.py (dOb (placesF n o)))
theorem sc_places : FnScope ["net", "opening", "x", "y", "u", "v", "width", "least"] ["net", "opening"] (defScope s_places) := ⟨rfl, rfl, rfl, by decide +kernel, rfl, by decide +kernel, by decide +kernel⟩
theorem okv_places : okL ["opening", "net", "v", "u", "y", "x", "width", "least"] (defScope s_places) = true := by decide +kernel
theorem okg_places : okG ["stretch", "ends_of", "is_upright", "max"] (defScope s_places) = true := by decide +kernel
theorem ok_places (T : Tx K mg C) (F : Df K mg "places" s_places ["net", "opening"]) (g_ends_of : Fn P w K mg base CX0 "ends_of" 2 ["net", "wall"] (spP c_ends_of)) (g_is_upright : Fn P w K mg base CX0 "is_upright" 1 ["ends"] (spP c_is_upright)) (g_stretch : Fn P w K mg base CX0 "stretch" 4 ["net", "opening"] (spP c_stretch)) : Fn P w K mg base CX0 "places" 5 ["net", "opening"] (spP c_places) :=
  have nd := sc_places.nd
  fn_mk F sc_places (by first | (rintro ds Ω Ψ ⟨_, _, rfl, _⟩; rfl) | (rintro ds Ω Ψ ⟨_, _, _, rfl, _⟩; rfl) | (rintro ds Ω Ψ ⟨_, _, _, _, rfl, _⟩; rfl) | (rintro ds Ω Ψ ⟨_, _, _, _, _, rfl, _⟩; rfl) | (rintro ds Ω Ψ ⟨_, _, _, _, _, _, rfl, _⟩; rfl)) fun f cdv A outer s H E hr => by
    refine ⟨_, (pss_cons (ps_asg (pe_fn g_stretch hr (by decide) (pa_cons (pvA okv_places 0 1) (pa_cons (pvA okv_places 1 0) pa_nil)) (hg := glA okg_places 0)) (pgt K (n := 4) rfl (pgs_cons (gnA okv_places nd 2 5) (pgs_cons (gnA okv_places nd 3 4) (pgs_cons (gnA okv_places nd 4 3) (pgs_cons (gnA okv_places nd 5 2) pgs_nil)))))) (pss_cons (ps_asg (pe_ix (ixt K) (pvA okv_places 1 0) pe_int (fun _ _ => rfl)) (gnA okv_places nd 6 6)) (pss_cons (ps_if (pt_val (pe_fn g_is_upright hr (by decide) (pa_cons (pe_fn g_ends_of hr (by decide) (pa_cons (pvA okv_places 0 1) (pa_cons (pe_ix (ixt K) (pvA okv_places 1 0) pe_int (fun _ _ => rfl)) pa_nil)) (hg := glA okg_places 1)) pa_nil) (hg := glA okg_places 2))) (pss_cons (ps_asg (pb_max2 T.b (pa_cons pe_int (pa_cons (pe_op op_sub (pvA okv_places 2 5) (pvA okv_places 6 6)) pa_nil)) (hg := glA okg_places 3)) (gnA okv_places nd 7 7)) (pss_one (ps_ret (pe_tup (pa_cons (pvA okv_places 7 7) (pa_cons (pvA okv_places 3 4) (pa_cons (pe_op op_sub (pe_op op_add (pvA okv_places 2 5) (pvA okv_places 6 6)) (pvA okv_places 7 7)) (pa_cons (pvA okv_places 6 6) pa_nil)))))))) pss_nil) (pss_cons (ps_asg (pb_max2 T.b (pa_cons pe_int (pa_cons (pe_op op_sub (pvA okv_places 3 4) (pvA okv_places 6 6)) pa_nil)) (hg := glA okg_places 3)) (gnA okv_places nd 7 7)) (pss_one (ps_ret (pe_tup (pa_cons (pvA okv_places 2 5) (pa_cons (pvA okv_places 7 7) (pa_cons (pvA okv_places 6 6) (pa_cons (pe_op op_sub (pe_op op_add (pvA okv_places 3 4) (pvA okv_places 6 6)) (pvA okv_places 7 7)) pa_nil))))))))))), ?_⟩
    rintro ds Ω Ψ ⟨rfl, n, o, rfl, ho, q⟩
    refine sw_seq (sw_asgW (EvD.toW (ev_fn (ar_cons (ev_var rfl) (ar_cons (ev_var rfl) ar_nil)) fun Ψ q => ⟨n, o, rfl, ho, q⟩) (tg_tup rfl (tgs_cons (tg_name (tgs_cons (tg_name (tgs_cons (tg_name (tgs_cons (tg_name (tgs_nil ?_))))))))))))
    try simp only [startD, List.map_cons, List.map_nil, List.cons_append, List.nil_append, List.set_cons_zero, List.set_cons_succ, List.length_cons, List.length_nil, List.replicate_succ, List.replicate_zero, Nat.reduceSub, Nat.reduceAdd]
    refine sw_seq (sw_set (ev_ixT (ev_var rfl) ev_int rfl) ?_)
    try simp only [startD, List.map_cons, List.map_nil, List.cons_append, List.nil_append, List.set_cons_zero, List.set_cons_succ, List.length_cons, List.length_nil, List.replicate_succ, List.replicate_zero, Nat.reduceSub, Nat.reduceAdd]
    refine sw_seq (sw_if (ts_B (ev_fn (ar_cons (ev_fn (ar_cons (ev_var rfl) (ar_cons (ev_ixT (ev_var rfl) ev_int rfl) ar_nil)) fun Ψ q => ⟨n, o.2.2.1, rfl, ho, q⟩) ar_nil) fun Ψ q => ⟨_, rfl, q⟩)) (fun hb => ?_) fun hb => sw_next ?_)
    · unfold placesF at q
      rw [if_pos hb] at q
      refine sw_seq (sw_set (ev_max2 ev_int (ev_i0 (ev_var rfl) (ev_var rfl))) ?_)
      try simp only [startD, List.map_cons, List.map_nil, List.cons_append, List.nil_append, List.set_cons_zero, List.set_cons_succ, List.length_cons, List.length_nil, List.replicate_succ, List.replicate_zero, Nat.reduceSub, Nat.reduceAdd]
      exact sw_ret (ev_tup (ar_cons (ev_var rfl) (ar_cons (ev_var rfl) (ar_cons (ev_i0 (ev_i0 (ev_var rfl) (ev_var rfl)) (ev_var rfl)) (ar_cons (ev_var rfl) ar_nil)))) (ds := [_, _, _, _])) q
    · unfold placesF at q
      rw [if_neg (by rw [hb]; exact Bool.false_ne_true)] at q
      refine sw_seq (sw_set (ev_max2 ev_int (ev_i0 (ev_var rfl) (ev_var rfl))) ?_)
      try simp only [startD, List.map_cons, List.map_nil, List.cons_append, List.nil_append, List.set_cons_zero, List.set_cons_succ, List.length_cons, List.length_nil, List.replicate_succ, List.replicate_zero, Nat.reduceSub, Nat.reduceAdd]
      exact sw_ret (ev_tup (ar_cons (ev_var rfl) (ar_cons (ev_var rfl) (ar_cons (ev_var rfl) (ar_cons (ev_i0 (ev_i0 (ev_var rfl) (ev_var rfl)) (ev_var rfl)) ar_nil)))) (ds := [_, _, _, _])) q
/-- openings on walls of the net, few -/
def OpsR (n : Net) (os : List Opening) : Prop := NetR n ∧ (∀ o ∈ os, o.2.2.1.1 ∈ keys n ∧ o.2.2.1.2 ∈ keys n) ∧ os.length ≤ 1000
def isDoor (o : Opening) : Bool := decide (o.2.1 = ("door" : Str))
def allPlacesF (n : Net) (os : List Opening) : List Obl := (os.filter isDoor).map (placesF n)
def c_all_places : Cp := fun ds Ψ => ∃ (n : Net) (os : List Opening), ds = [.py (dNet n), .py (.tuple (os.map dO))] ∧ OpsR n os ∧ Ψ (.py (.list ((allPlacesF n os).map dOb)))
theorem sc_all_places : FnScope ["net", "openings", "opening"] ["net", "openings"] (defScope s_all_places) := ⟨rfl, rfl, rfl, by decide +kernel, rfl, by decide +kernel, by decide +kernel⟩
theorem okv_all_places : okL ["openings"] (defScope s_all_places) = true := by decide +kernel
theorem ok_all_places (T : Tx K mg C) (F : Df K mg "all_places" s_all_places ["net", "openings"]) (g_places : Fn P w K mg base CX0 "places" 5 ["net", "opening"] (spP c_places)) : Fn P w K mg base CX0 "all_places" 6 ["net", "openings"] (spP c_all_places) :=
  have nd := sc_all_places.nd
  fn_mk F sc_all_places (by first | (rintro ds Ω Ψ ⟨_, _, rfl, _⟩; rfl) | (rintro ds Ω Ψ ⟨_, _, _, rfl, _⟩; rfl) | (rintro ds Ω Ψ ⟨_, _, _, _, rfl, _⟩; rfl) | (rintro ds Ω Ψ ⟨_, _, _, _, _, rfl, _⟩; rfl) | (rintro ds Ω Ψ ⟨_, _, _, _, _, _, rfl, _⟩; rfl)) fun f cdv A outer s H E hr => by
    refine ⟨_, (pss_one (ps_ret (pe_lc (own := [("opening", 2)]) rfl nd (pi_tup (pvA okv_all_places 1 0)) (blkOk_by (own := [("opening", 2)]) (N := ["net", "openings", "opening"]) (sc := defScope s_all_places) (by decide +kernel)) (fun _ _ _ _ _ => (gn nd 2)) (fun _ _ _ _ _ => (pts_one (pt_cmpR op_eq (pe_ix (ixt K) (pv 2) pe_int (fun _ _ => rfl)) pe_str (nomark _)))) (fun _ _ _ _ _ => (pe_fn g_places hr (by decide) (pa_cons (pv 0) (pa_cons (pv 2) pa_nil))))))), ?_⟩
    rintro ds Ω Ψ ⟨rfl, n, os, rfl, ⟨hn, ho, hz⟩, q⟩
    refine sw_ret ((ev_lcT os dO isDoor (fun o => dOb (placesF n o)) (ev_var rfl) (to_name) (by omega) fun o ho' => tg_name ⟨rfl, (ts_T (ev_eqS (ev_ixT (ev_var rfl) ev_int rfl) ev_str)), fun _ => (ev_fn (ar_cons (ev_var rfl) (ar_cons (ev_var rfl) ar_nil)) fun Ψ q => ⟨n, o, rfl, ⟨hn, ho o ho'⟩, q⟩)⟩).is ?_) q
    unfold allPlacesF
    rw [List.map_map]
    rfl
/-! ### standing openings -/
def aloneF (n : Net) (o : Opening) : Bool := decide (o.2.2.2.2.1 + o.2.2.2.2.2 ≤ lengthF (endsF n o.2.2.1))
def c_does_stand_alone : Cp := fun ds Ψ => ∃ (n : Net) (o : Opening), ds = [.py (dNet n), .py (dO o)] ∧ OpR n o ∧ Ψ (B (aloneF n o))
theorem sc_does_stand_alone : FnScope ["net", "opening"] ["net", "opening"] (defScope s_does_stand_alone) := ⟨rfl, rfl, rfl, by decide +kernel, rfl, by decide +kernel, by decide +kernel⟩
theorem okv_does_stand_alone : okL ["opening", "net"] (defScope s_does_stand_alone) = true := by decide +kernel
theorem okg_does_stand_alone : okG ["ends_of", "length_of"] (defScope s_does_stand_alone) = true := by decide +kernel
theorem ok_does_stand_alone (T : Tx K mg C) (F : Df K mg "does_stand_alone" s_does_stand_alone ["net", "opening"]) (g_ends_of : Fn P w K mg base CX0 "ends_of" 2 ["net", "wall"] (spP c_ends_of)) (g_length_of : Fn P w K mg base CX0 "length_of" 1 ["ends"] (spP c_length_of)) : Fn P w K mg base CX0 "does_stand_alone" 3 ["net", "opening"] (spP c_does_stand_alone) :=
  have nd := sc_does_stand_alone.nd
  fn_mk F sc_does_stand_alone (by first | (rintro ds Ω Ψ ⟨_, _, rfl, _⟩; rfl) | (rintro ds Ω Ψ ⟨_, _, _, rfl, _⟩; rfl) | (rintro ds Ω Ψ ⟨_, _, _, _, rfl, _⟩; rfl) | (rintro ds Ω Ψ ⟨_, _, _, _, _, rfl, _⟩; rfl) | (rintro ds Ω Ψ ⟨_, _, _, _, _, _, rfl, _⟩; rfl)) fun f cdv A outer s H E hr => by
    refine ⟨_, (pss_one (ps_ret (pe_cmpR op_le (pe_op op_add (pe_ix (ixt K) (pvA okv_does_stand_alone 1 0) pe_int (fun _ _ => rfl)) (pe_ix (ixt K) (pvA okv_does_stand_alone 1 0) pe_int (fun _ _ => rfl))) (pe_fn g_length_of hr (by decide) (pa_cons (pe_fn g_ends_of hr (by decide) (pa_cons (pvA okv_does_stand_alone 0 1) (pa_cons (pe_ix (ixt K) (pvA okv_does_stand_alone 1 0) pe_int (fun _ _ => rfl)) pa_nil)) (hg := glA okg_does_stand_alone 0)) pa_nil) (hg := glA okg_does_stand_alone 1)) (nomark _)))), ?_⟩
    rintro ds Ω Ψ ⟨rfl, n, o, rfl, ho, q⟩
    exact sw_ret (ev_iB (ev_i0 (ev_ixT (ev_var rfl) ev_int rfl) (ev_ixT (ev_var rfl) ev_int rfl)) (ev_fn (ar_cons (ev_fn (ar_cons (ev_var rfl) (ar_cons (ev_ixT (ev_var rfl) ev_int rfl) ar_nil)) fun Ψ q => ⟨n, o.2.2.1, rfl, ho, q⟩) ar_nil) fun Ψ q => ⟨_, rfl, q⟩)) q
theorem shp_pair (i j : Int) : SeqAt.shaped (.tuple [.int i, .int j]) = true := rfl
theorem eqv_pair (i j k l : Int) : PyData.eqv (.tuple [.int i, .int j]) (.tuple [.int k, .int l]) = decide ((i, j) = (k, l)) := by
  have e : PyData.eqv (.tuple [.int i, .int j]) (.tuple [.int k, .int l]) = ((i == k) && ((j == l) && true)) := rfl
  rw [e, Bool.eq_iff_iff]
  simp
def apartF (n : Net) (a b : Opening) : Bool := if a.2.2.1 = b.2.2.1 then decide ((spanF n a).2 ≤ (spanF n b).1) || decide ((spanF n b).2 ≤ (spanF n a).1) else true
def c_are_apart_on : Cp := fun ds Ψ => ∃ (n : Net) (a b : Opening), ds = [.py (dNet n), .py (dO a), .py (dO b)] ∧ (OpR n a ∧ OpR n b) ∧ Ψ (B (apartF n a b))
theorem sc_are_apart_on : FnScope ["net", "one", "other", "first", "second"] ["net", "one", "other"] (defScope s_are_apart_on) := ⟨rfl, rfl, rfl, by decide +kernel, rfl, by decide +kernel, by decide +kernel⟩
theorem okv_are_apart_on : okL ["one", "other", "net", "first", "second"] (defScope s_are_apart_on) = true := by decide +kernel
theorem okg_are_apart_on : okG ["span_of"] (defScope s_are_apart_on) = true := by decide +kernel
theorem ok_are_apart_on (T : Tx K mg C) (F : Df K mg "are_apart_on" s_are_apart_on ["net", "one", "other"]) (g_span_of : Fn P w K mg base CX0 "span_of" 3 ["net", "opening"] (spP c_span_of)) : Fn P w K mg base CX0 "are_apart_on" 4 ["net", "one", "other"] (spP c_are_apart_on) :=
  have nd := sc_are_apart_on.nd
  fn_mk F sc_are_apart_on (by first | (rintro ds Ω Ψ ⟨_, _, rfl, _⟩; rfl) | (rintro ds Ω Ψ ⟨_, _, _, rfl, _⟩; rfl) | (rintro ds Ω Ψ ⟨_, _, _, _, rfl, _⟩; rfl) | (rintro ds Ω Ψ ⟨_, _, _, _, _, rfl, _⟩; rfl) | (rintro ds Ω Ψ ⟨_, _, _, _, _, _, rfl, _⟩; rfl)) fun f cdv A outer s H E hr => by
    refine ⟨_, (pss_cons (ps_if (pt_cmpR (opn K hr.units) (pe_ix (ixt K) (pvA okv_are_apart_on 1 0) pe_int (fun _ _ => rfl)) (pe_ix (ixt K) (pvA okv_are_apart_on 2 1) pe_int (fun _ _ => rfl)) (nomark _)) (pss_one (ps_ret pe_bl)) pss_nil) (pss_cons (ps_par (i := 3) (j := 4) rfl nd rfl rfl (by decide) rfl rfl (pa_cons (pe_fn g_span_of hr (by decide) (pa_cons (pvA okv_are_apart_on 0 2) (pa_cons (pvA okv_are_apart_on 1 0) pa_nil)) (hg := glA okg_are_apart_on 0)) (pa_cons (pe_fn g_span_of hr (by decide) (pa_cons (pvA okv_are_apart_on 0 2) (pa_cons (pvA okv_are_apart_on 2 1) pa_nil)) (hg := glA okg_are_apart_on 0)) pa_nil)) (by rfl)) (pss_one (ps_ret (pe_or (pe_cmpR op_le (pe_ix (ixt K) (pvA okv_are_apart_on 3 3) pe_int (fun _ _ => rfl)) (pe_ix (ixt K) (pvA okv_are_apart_on 4 4) pe_int (fun _ _ => rfl)) (nomark _)) (pe_one (pe_cmpR op_le (pe_ix (ixt K) (pvA okv_are_apart_on 4 4) pe_int (fun _ _ => rfl)) (pe_ix (ixt K) (pvA okv_are_apart_on 3 3) pe_int (fun _ _ => rfl)) (nomark _)))))))), ?_⟩
    rintro ds Ω Ψ ⟨rfl, n, a, b, rfl, ⟨ha, hb⟩, q⟩
    refine sw_seq (sw_if (ts_T (ev_neD (ev_ixT (ev_var rfl) ev_int rfl) (ev_ixT (ev_var rfl) ev_int rfl) (shp_pair _ _) (shp_pair _ _))) (fun h => ?_) fun h => sw_next ?_)
    · rw [eqv_pair] at h
      have h' : ¬ a.2.2.1 = b.2.2.1 := of_decide_eq_false (by simpa only [Bool.not_eq_true'] using h)
      unfold apartF at q
      rw [if_neg h'] at q
      exact sw_ret ev_bl q
    · rw [eqv_pair] at h
      have h' : a.2.2.1 = b.2.2.1 := of_decide_eq_true (by simpa only [Bool.not_eq_false'] using h)
      unfold apartF at q
      rw [if_pos h'] at q
      refine sw_seq (sw_par (ar_cons (ev_fn (ar_cons (ev_var rfl) (ar_cons (ev_var rfl) ar_nil)) fun Ψ q => ⟨n, a, rfl, ha, q⟩) (ar_cons (ev_fn (ar_cons (ev_var rfl) (ar_cons (ev_var rfl) ar_nil)) fun Ψ q => ⟨n, b, rfl, hb, q⟩) ar_nil)) ?_)
      exact sw_ret (ev_or (ev_iB (ev_ixT (ev_var rfl) ev_int rfl) (ev_ixT (ev_var rfl) ev_int rfl)) fun _ => (ev_iB (ev_ixT (ev_var rfl) ev_int rfl) (ev_ixT (ev_var rfl) ev_int rfl))) q
def standF (n : Net) (o : Opening) (os : List Opening) : Bool := aloneF n o && (os.filter fun x => !decide (x.1 = o.1)).all (apartF n o)
def c_does_stand : Cp := fun ds Ψ => ∃ (n : Net) (o : Opening) (os : List Opening), ds = [.py (dNet n), .py (dO o), .py (.tuple (os.map dO))] ∧ (OpR n o ∧ OpsR n os) ∧ Ψ (B (standF n o os))
theorem any_map {α : Type} (f : α → Bool) (l : List α) : (l.map f).any id = l.any f := by rw [List.any_map]; rfl
theorem all_map {α : Type} (f : α → Bool) (l : List α) : (l.map f).all id = l.all f := by rw [List.all_map]; rfl
theorem fil_true {α : Type} (l : List α) : l.filter (fun _ => true) = l := by simp
theorem sc_does_stand : FnScope ["net", "opening", "openings", "others", "other"] ["net", "opening", "openings"] (defScope s_does_stand) := ⟨rfl, rfl, rfl, by decide +kernel, rfl, by decide +kernel, by decide +kernel⟩
theorem okv_does_stand : okL ["openings", "others"] (defScope s_does_stand) = true := by decide +kernel
theorem okg_does_stand : okG ["does_stand_alone", "all"] (defScope s_does_stand) = true := by decide +kernel
theorem ok_does_stand (T : Tx K mg C) (F : Df K mg "does_stand" s_does_stand ["net", "opening", "openings"]) (g_are_apart_on : Fn P w K mg base CX0 "are_apart_on" 4 ["net", "one", "other"] (spP c_are_apart_on)) (g_does_stand_alone : Fn P w K mg base CX0 "does_stand_alone" 3 ["net", "opening"] (spP c_does_stand_alone)) : Fn P w K mg base CX0 "does_stand" 5 ["net", "opening", "openings"] (spP c_does_stand) :=
  have nd := sc_does_stand.nd
  fn_mk F sc_does_stand (by first | (rintro ds Ω Ψ ⟨_, _, rfl, _⟩; rfl) | (rintro ds Ω Ψ ⟨_, _, _, rfl, _⟩; rfl) | (rintro ds Ω Ψ ⟨_, _, _, _, rfl, _⟩; rfl) | (rintro ds Ω Ψ ⟨_, _, _, _, _, rfl, _⟩; rfl) | (rintro ds Ω Ψ ⟨_, _, _, _, _, _, rfl, _⟩; rfl)) fun f cdv A outer s H E hr => by
    refine ⟨_, (pss_cons (ps_setLc (i := 3) (own := [("other", 4)]) rfl nd rfl rfl (sw_true rfl rfl rfl (by decide +kernel)) (pi_tup (pvA okv_does_stand 2 0)) (blkOk_by (own := [("other", 4)]) (N := ["net", "opening", "openings", "others", "other"]) (sc := defScope s_does_stand) (by decide +kernel)) (fun _ _ _ _ _ => (gn nd 4)) (fun _ _ _ _ _ => (pts_one (pt_cmpR op_ne (pe_ix (ixt K) (pv 4) pe_int (fun _ _ => rfl)) (pe_ix (ixt K) (pv 1) pe_int (fun _ _ => rfl)) (nomark _)))) (fun _ _ _ _ _ => (pv 4))) (pss_one (ps_ret (pe_and (pe_fn g_does_stand_alone hr (by decide) (pa_cons (pv 0) (pa_cons (pv 1) pa_nil)) (hg := glA okg_does_stand 0)) (pe_one (pb_all T.b (pa_cons (pe_lc (own := [("other", 4)]) rfl nd (pi_list (pvA okv_does_stand 3 1)) (blkOk_by (own := [("other", 4)]) (N := ["net", "opening", "openings", "others", "other"]) (sc := defScope s_does_stand) (by decide +kernel)) (fun _ _ _ _ _ => (gn nd 4)) (fun _ _ _ _ _ => pts_nil) (fun _ _ _ _ _ => (pe_fn g_are_apart_on hr (by decide) (pa_cons (pv 0) (pa_cons (pv 1) (pa_cons (pv 4) pa_nil)))))) pa_nil) (hg := glA okg_does_stand 1))))))), ?_⟩
    rintro ds Ω Ψ ⟨rfl, n, o, os, rfl, ⟨ho, hn, hos, hz⟩, q⟩
    refine sw_seq (sw_set ((ev_lcT os dO (fun x => !decide (x.1 = o.1)) dO (ev_var rfl) (to_name) (by omega) fun x hx => tg_name ⟨rfl, (ts_T (ev_neS (ev_ixT (ev_var rfl) ev_int rfl) (ev_ixT (ev_var rfl) ev_int rfl))), fun _ => (ev_var rfl)⟩)) ?_)
    refine sw_ret (ev_and (ev_fn (ar_cons (ev_var rfl) (ar_cons (ev_var rfl) ar_nil)) fun Ψ q => ⟨n, o, rfl, ho, q⟩) fun _ => (ev_all (bs := (os.filter fun x => !decide (x.1 = o.1)).map (apartF n o)) ((ev_lcL (os.filter fun x => !decide (x.1 = o.1)) dO (fun _ => true) (fun x => .bool (apartF n o x)) (ev_var rfl) (to_name) ?_ fun x hx => tg_name ⟨rfl, ts_yes, fun _ => (ev_fn (ar_cons (ev_var rfl) (ar_cons (ev_var rfl) (ar_cons (ev_var rfl) ar_nil))) fun Ψ q => ⟨n, o, x, rfl, ⟨ho, hn, hos x ?_⟩, q⟩)⟩).is ?_))) ?_
    · exact Nat.lt_of_le_of_lt (List.length_filter_le _ _) (by omega)
    · rw [fil_true, List.map_map]; rfl
    · rw [all_map]; exact q
    · exact (List.mem_filter.mp hx).1
/-- all stand -/
def AllStand (n : Net) (os : List Opening) : Prop := ∀ o ∈ os, standF n o os = true
def c_first_fallen : Cp := fun ds Ψ => ∃ (n : Net) (os : List Opening), ds = [.py (dNet n), .py (.tuple (os.map dO))] ∧ (OpsR n os ∧ AllStand n os) ∧ Ψ N0
theorem sc_first_fallen : FnScope ["net", "openings", "fallen", "opening"] ["net", "openings"] (defScope s_first_fallen) := ⟨rfl, rfl, rfl, by decide +kernel, rfl, by decide +kernel, by decide +kernel⟩
theorem okv_first_fallen : okL ["fallen"] (defScope s_first_fallen) = true := by decide +kernel
theorem ok_first_fallen (T : Tx K mg C) (F : Df K mg "first_fallen" s_first_fallen ["net", "openings"]) (g_does_stand : Fn P w K mg base CX0 "does_stand" 5 ["net", "opening", "openings"] (spP c_does_stand)) : Fn P w K mg base CX0 "first_fallen" 6 ["net", "openings"] (spP c_first_fallen) :=
  have nd := sc_first_fallen.nd
  fn_mk F sc_first_fallen (by first | (rintro ds Ω Ψ ⟨_, _, rfl, _⟩; rfl) | (rintro ds Ω Ψ ⟨_, _, _, rfl, _⟩; rfl) | (rintro ds Ω Ψ ⟨_, _, _, _, rfl, _⟩; rfl) | (rintro ds Ω Ψ ⟨_, _, _, _, _, rfl, _⟩; rfl) | (rintro ds Ω Ψ ⟨_, _, _, _, _, _, rfl, _⟩; rfl)) fun f cdv A outer s H E hr => by
    refine ⟨_, (pss_cons (ps_setLc (i := 2) (own := [("opening", 3)]) rfl nd rfl rfl (sw_true rfl rfl rfl (by decide +kernel)) (pi_tup (pv 1)) (blkOk_by (own := [("opening", 3)]) (N := ["net", "openings", "fallen", "opening"]) (sc := defScope s_first_fallen) (by decide +kernel)) (fun _ _ _ _ _ => (gn nd 3)) (fun _ _ _ _ _ => (pts_one (pt_not (pt_val (pe_fn g_does_stand hr (by decide) (pa_cons (pv 0) (pa_cons (pv 3) (pa_cons (pv 1) pa_nil)))))))) (fun _ _ _ _ _ => (pe_ix (ixt K) (pv 3) pe_int (fun _ _ => rfl)))) (pss_one (ps_ret (pb_minF T.b hr (pa_cons (pvA okv_first_fallen 2 0) pa_nil))))), ?_⟩
    rintro ds Ω Ψ ⟨rfl, n, os, rfl, ⟨⟨hn, hos, hz⟩, hs⟩, q⟩
    refine sw_seq (sw_set ((ev_lcT os dO (fun x => !standF n x os) (fun o => .str o.1) (ev_var rfl) (to_name) (by omega) fun x hx => tg_name ⟨rfl, (ts_not (ts_B (ev_fn (ar_cons (ev_var rfl) (ar_cons (ev_var rfl) (ar_cons (ev_var rfl) ar_nil))) fun Ψ q => ⟨n, x, os, rfl, ⟨⟨hn, hos x hx⟩, hn, hos, hz⟩, q⟩))), fun _ => (ev_ixT (ev_var rfl) ev_int rfl)⟩).is (e := .py (.list [])) ?_) ?_)
    · have e : os.filter (fun x => !standF n x os) = [] := List.filter_eq_nil_iff.mpr fun x hx => by rw [hs x hx]; simp
      rw [e]; rfl
    · exact sw_ret (ev_minF (ev_var rfl) (fun d hd => by cases hd) (fun d hd => by cases hd) (fun d hd => by cases hd) (by rw [if_pos rfl]) fun h => (h rfl).elim) q
end
end My
end

section
set_option Elab.async false
set_option linter.all false
set_option maxRecDepth 100000
set_option maxHeartbeats 4000000
namespace My
open PySem G
/-! the mirror of rings and rooms -/
def wayF (p q : Pt) : Int := if p.2 = q.2 then 2 * (if q.1 < p.1 then 1 else 0) else 1 + 2 * (if q.2 < p.2 then 1 else 0)
def nbr (n : Net) (c : Int) (w : Wall) : Option (Int × Int) := if w.1 = c then some (wayF (spot n w.1) (spot n w.2), w.2) else if w.2 = c then some (wayF (spot n w.2) (spot n w.1), w.1) else none
def nbrs (n : Net) (c : Int) : List (Int × Int) := n.2.filterMap (nbr n c)
def isSide (n : Net) (s : Wall) : Prop := s ∈ n.2 ∨ (s.2, s.1) ∈ n.2
structure NetL (n : Net) : Prop extends NetR n where
  ne : ∀ w ∈ n.2, w.1 ≠ w.2
  few2 : n.2.length ≤ 100
  ways : ∀ c, ((nbrs n c).map (·.1)).Nodup
  box : ∀ c ∈ keys n, 0 ≤ (spot n c).1 ∧ (spot n c).1 ≤ 1000000 ∧ 0 ≤ (spot n c).2 ∧ (spot n c).2 ≤ 1000000
def turnsF (n : Net) (s : Wall) : List Int → Wall
  | [] => (s.2, s.1)
  | t :: ts => match (nbrs n s.2).lookup ((wayF (spot n s.1) (spot n s.2) + t) % 4) with
    | some v => (s.2, v)
    | none => turnsF n s ts
def nextF (n : Net) (s : Wall) : Wall := turnsF n s [1, 0, 3, 2]
def sidesF (n : Net) : List Wall := (n.2 ++ n.2.map fun w => (w.2, w.1)).mergeSort (PySem.W.dataLe false dW)
def runF (n : Net) (s : Wall) : Nat → Wall → List Wall
  | 0, _ => []
  | k + 1, h => if h = s then [] else h :: runF n s k (nextF n h)
def iterF (n : Net) : Nat → Wall → Wall
  | 0, s => s
  | k + 1, s => iterF n k (nextF n s)
def ringF (n : Net) (s : Wall) : List Int := s.1 :: (runF n s (2 * n.2.length) (nextF n s)).map (·.1)
def sidesR (r : List Int) : List Wall := (List.range r.length).map fun k => (r.getD k 0, r.getD ((k + 1) % r.length) 0)
def seenPut (seen : List Wall) (s : Wall) : List Wall := if s ∈ seen then seen else seen ++ [s]
def ringsStep (n : Net) (a : List Wall × List (List Int)) (s : Wall) : List Wall × List (List Int) := if s ∈ a.1 then a else ((sidesR (ringF n s)).foldl seenPut a.1, a.2 ++ [ringF n s])
def ringsF (n : Net) : List (List Int) := ((sidesF n).foldl (ringsStep n) ([], [])).2
def areaF (n : Net) (r : List Int) : Int := ((sidesR r).foldl (fun t s => t + ((spot n s.1).1 * (spot n s.2).2 - (spot n s.2).1 * (spot n s.1).2)) 0) / 2
abbrev Line := Int × Int × Int × Int × Int
abbrev dLine (l : Line) : PyData := .tuple [.int l.1, .int l.2.1, .int l.2.2.1, .int l.2.2.2.1, .int l.2.2.2.2]
def lineF (n : Net) (w : Wall) : Line := ((endsF n w).1.1, (endsF n w).1.2, (endsF n w).2.2, w.1, w.2)
def linesF (n : Net) : List Line := (n.2.filter fun w => isUp (endsF n w)).map (lineF n)
def westStep (x y : Int) (best : Option (Int × Wall)) (l : Line) : Option (Int × Wall) :=
  if l.1 ≤ x ∧ (l.2.1 ≤ y ∧ y < l.2.2.1) ∧ (∀ b, best = some b → b.1 < l.1) then some (l.1, (l.2.2.2.2, l.2.2.2.1)) else best
def westF (ls : List Line) (x y : Int) : Option Wall := (ls.foldl (westStep x y) none).map (·.2)
def dOpt {α : Type} (f : α → PyData) : Option α → PyData
  | none => .none
  | some a => f a
/-- what a ring's walk needs: it comes back -/
structure NetC (n : Net) : Prop extends NetL n where
  cyc : ∀ s, isSide n s → ∃ k, k < 2 * n.2.length ∧ iterF n (k + 1) s = s
theorem NetL.side_keys {n : Net} (h : NetL n) {s : Wall} (hs : isSide n s) : s.1 ∈ keys n ∧ s.2 ∈ keys n := by
  rcases hs with hs | hs
  · exact h.ends s hs
  · exact (h.ends _ hs).symm
theorem nbr_side {n : Net} {c : Int} {q : Int × Int} (h : q ∈ nbrs n c) : isSide n (c, q.2) := by
  obtain ⟨w, hw, e⟩ := List.mem_filterMap.mp h
  unfold nbr at e
  split at e
  · rename_i h1
    cases e
    left
    rw [← h1]; exact hw
  · split at e
    · rename_i h1
      cases e
      right
      rw [← h1]; exact hw
    · cases e
theorem lookup_mem {α β : Type} [BEq α] [LawfulBEq α] {a : α} {b : β} : ∀ {l : List (α × β)}, l.lookup a = some b → (a, b) ∈ l
  | [], h => by cases h
  | p :: l, h => by
    by_cases e : a = p.1
    · subst e
      simp [List.lookup] at h
      subst h
      exact List.mem_cons_self
    · have e2 : (a == p.1) = false := by simpa using e
      exact List.mem_cons_of_mem _ (lookup_mem (by simpa [List.lookup, e2] using h))
theorem lookup_nd {α β : Type} [BEq α] [LawfulBEq α] {a : α} {b : β} : ∀ {l : List (α × β)}, (l.map (·.1)).Nodup → (a, b) ∈ l → l.lookup a = some b
  | [], _, h => by cases h
  | p :: l, nd, h => by
    rw [List.map_cons, List.nodup_cons] at nd
    rcases List.mem_cons.mp h with e | h
    · subst e; simp [List.lookup]
    · have : a ≠ p.1 := fun e => nd.1 (by rw [← e]; exact List.mem_map_of_mem (f := (·.1)) h)
      have e2 : (a == p.1) = false := by simpa using this
      simp only [List.lookup, e2]
      exact lookup_nd nd.2 h
theorem turns_side {n : Net} {s : Wall} (hs : isSide n s) : ∀ ts : List Int, isSide n (turnsF n s ts)
  | [] => by
    rcases hs with h | h
    · exact .inr h
    · exact .inl h
  | t :: ts => by
    unfold turnsF
    split
    · rename_i v hv
      exact nbr_side (lookup_mem hv)
    · exact turns_side hs ts
theorem next_side {n : Net} {s : Wall} (hs : isSide n s) : isSide n (nextF n s) := turns_side hs _
theorem turns_fst {n : Net} {s : Wall} : ∀ ts : List Int, (turnsF n s ts).1 = s.2
  | [] => rfl
  | t :: ts => by
    unfold turnsF
    split
    · rfl
    · exact turns_fst ts
theorem next_fst {n : Net} {s : Wall} : (nextF n s).1 = s.2 := turns_fst _
theorem run_len {n : Net} {s : Wall} : ∀ (k : Nat) (h : Wall), (runF n s k h).length ≤ k
  | 0, _ => Nat.le_refl _
  | k + 1, h => by
    unfold runF
    split
    · exact Nat.zero_le _
    · exact Nat.succ_le_succ (run_len k _)
theorem ring_len {n : Net} {s : Wall} : (ringF n s).length ≤ 2 * n.2.length + 1 := by
  unfold ringF
  rw [List.length_cons, List.length_map]
  exact Nat.succ_le_succ (run_len _ _)
theorem mem_sides {n : Net} {s : Wall} : s ∈ sidesF n ↔ isSide n s := by
  unfold sidesF isSide
  rw [List.mem_mergeSort, List.mem_append]
  constructor
  · rintro (h | h)
    · exact .inl h
    · obtain ⟨w, hw, rfl⟩ := List.mem_map.mp h
      exact .inr hw
  · rintro (h | h)
    · exact .inl h
    · exact .inr (List.mem_map.mpr ⟨_, h, rfl⟩)
theorem run_side {n : Net} {s : Wall} : ∀ (k : Nat) (h : Wall), isSide n h → ∀ x ∈ runF n s k h, isSide n x
  | 0, _, _, x, hx => by cases hx
  | k + 1, h, hh, x, hx => by
    unfold runF at hx
    split at hx
    · cases hx
    · rcases List.mem_cons.mp hx with e | hx
      · rw [e]; exact hh
      · exact run_side k _ (next_side hh) x hx
theorem ring_keys {n : Net} (hn : NetL n) {s : Wall} (hs : isSide n s) : ∀ c ∈ ringF n s, c ∈ keys n := by
  intro c hc
  unfold ringF at hc
  rcases List.mem_cons.mp hc with e | hc
  · rw [e]; exact (hn.side_keys hs).1
  · obtain ⟨x, hx, rfl⟩ := List.mem_map.mp hc
    exact (hn.side_keys (run_side _ _ (next_side hs) x hx)).1
theorem seen_len {l seen : List Wall} : (l.foldl seenPut seen).length ≤ seen.length + l.length := by
  induction l generalizing seen with
  | nil => simp
  | cons a l ih =>
    rw [List.foldl_cons, List.length_cons]
    have := ih (seen := seenPut seen a)
    have h : (seenPut seen a).length ≤ seen.length + 1 := by
      unfold seenPut
      split
      · omega
      · simp
    omega
theorem sidesR_len {r : List Int} : (sidesR r).length = r.length := by unfold sidesR; simp
theorem rings_len {n : Net} (sides : List Wall) : ((sides.foldl (ringsStep n) ([], [])).1.length ≤ sides.length * (2 * n.2.length + 1)) ∧ (sides.foldl (ringsStep n) ([], [])).2.length ≤ sides.length := by
  have : ∀ (l : List Wall) (a : List Wall × List (List Int)), (l.foldl (ringsStep n) a).1.length ≤ a.1.length + l.length * (2 * n.2.length + 1) ∧ (l.foldl (ringsStep n) a).2.length ≤ a.2.length + l.length := by
    intro l
    induction l with
    | nil => intro a; simp
    | cons s l ih =>
      intro a
      rw [List.foldl_cons, List.length_cons]
      obtain ⟨h1, h2⟩ := ih (ringsStep n a s)
      have h3 : (ringsStep n a s).1.length ≤ a.1.length + (2 * n.2.length + 1) ∧ (ringsStep n a s).2.length ≤ a.2.length + 1 := by
        unfold ringsStep
        split
        · exact ⟨by omega, by omega⟩
        · refine ⟨?_, by simp⟩
          have := @seen_len (sidesR (ringF n s)) a.1
          have := @ring_len n s
          rw [sidesR_len] at *
          show (List.foldl seenPut a.1 (sidesR (ringF n s))).length ≤ _
          omega
      constructor
      · rw [Nat.add_mul, Nat.one_mul]; omega
      · omega
  have := this sides ([], [])
  simpa using this
theorem rings_all {n : Net} {p : List Int → Prop} (h : ∀ s, isSide n s → p (ringF n s)) (sides : List Wall) (hs : ∀ s ∈ sides, isSide n s) : ∀ r ∈ (sides.foldl (ringsStep n) ([], [])).2, p r := by
  have : ∀ (l : List Wall) (a : List Wall × List (List Int)), (∀ s ∈ l, isSide n s) → (∀ r ∈ a.2, p r) → ∀ r ∈ (l.foldl (ringsStep n) a).2, p r := by
    intro l
    induction l with
    | nil => intro a _ h; exact h
    | cons s l ih =>
      intro a hl ha
      rw [List.foldl_cons]
      refine ih _ (fun x hx => hl x (List.mem_cons_of_mem _ hx)) ?_
      unfold ringsStep
      split
      · exact ha
      · intro r hr
        rcases List.mem_append.mp hr with hr | hr
        · exact ha r hr
        · rw [List.mem_singleton.mp hr]; exact h s (hl s List.mem_cons_self)
  exact this sides ([], []) hs (fun r hr => by cases hr)
theorem sidesR_mem {r : List Int} {s : Wall} (h : s ∈ sidesR r) : s.1 ∈ r ∧ s.2 ∈ r := by
  unfold sidesR at h
  obtain ⟨k, hk, rfl⟩ := List.mem_map.mp h
  have hk' := List.mem_range.mp hk
  have h2 : (k + 1) % r.length < r.length := Nat.mod_lt _ (by omega)
  constructor
  · simp [List.getD, hk']
  · simp [List.getD, h2]
/-! ### Found -/
def areasF (n : Net) : List Int := (ringsF n).map (areaF n)
def byPut (d : List (Wall × Nat)) (q : List Int × Nat) : List (Wall × Nat) := (sidesR q.1).foldl (fun d s => putD d s q.2) d
def ringByF (n : Net) : List (Wall × Nat) := (ringsF n).zipIdx.foldl byPut []
def numOf (n : Net) (s : Wall) : Nat := ((ringByF n).lookup s).getD 0
def ptsOf (n : Net) (r : List Int) : List Pt := r.map (spot n)
def minP (n : Net) (r : List Int) : Pt := (ptsOf n r).getD (bestAt ((ptsOf n r).map dPt)) (0, 0)
def westOf (n : Net) (k : Nat) : Option Wall := westF (linesF n) ((minP n ((ringsF n).getD k [])).1 - 1) (minP n ((ringsF n).getD k [])).2
def leftF (n : Net) : Nat → Option Wall → Option Nat
  | _, none => none
  | 0, some _ => none
  | f + 1, some s => if (areasF n).getD (numOf n s) 0 ≤ 0 then leftF n f (westOf n (numOf n s)) else some (numOf n s)
def mesOf (n : Net) : Option Wall → Nat
  | none => 0
  | some s => (spot n s.1).1.toNat + 1
def roomF (n : Net) (o : Option Wall) : Option Nat := leftF n (mesOf n o) o
def posF (n : Net) : List Nat := (List.range (ringsF n).length).filter fun k => decide ((areasF n).getD k 0 > 0)
def rimsF (n : Net) : List Nat := (List.range (ringsF n).length).filter fun k => decide ((areasF n).getD k 0 ≤ 0)
def rimsIn (n : Net) (k : Nat) : List Nat := (rimsF n).filter fun r => decide (roomF n (westOf n r) = some k)
def cellF (n : Net) (x y : Int) : Option Nat := (roomF n (westF (linesF n) x y)).map fun r => (posF n).idxOf r
def crossF (n : Net) (o : Obl) : Bool := n.2.any fun w => if isUp (endsF n w) then (decide (o.1 < (endsF n w).1.1) && decide ((endsF n w).1.1 < o.1 + o.2.2.1)) && (decide ((endsF n w).1.2 < o.2.1 + o.2.2.2) && decide (o.2.1 < (endsF n w).2.2))
  else (decide (o.2.1 < (endsF n w).1.2) && decide ((endsF n w).1.2 < o.2.1 + o.2.2.2)) && (decide ((endsF n w).1.1 < o.1 + o.2.2.1) && decide (o.1 < (endsF n w).2.1))
def roomByF (n : Net) (o : Obl) : Option Nat := if crossF n o then none else cellF n o.1 o.2.1
def dOn (o : Option Nat) : PyData := oI (o.map fun k : Nat => (k : Int))
/-- what Found's walks need -/
structure NetF (n : Net) : Prop extends NetC n where
  by_ : ∀ s, isSide n s → ∃ k, (ringByF n).lookup s = some k ∧ k < (ringsF n).length
  dec : ∀ s t, isSide n s → (areasF n).getD (numOf n s) 0 ≤ 0 → westOf n (numOf n s) = some t → mesOf n (some t) < mesOf n (some s)
theorem west_side {n : Net} {x y : Int} {s : Wall} (h : westF (linesF n) x y = some s) : (s.2, s.1) ∈ n.2 ∧ isUp (endsF n (s.2, s.1)) = true ∧ (spot n s.2).1 ≤ x ∧ (spot n s.2).2 ≤ y ∧ y < (spot n s.1).2 := by
  have : ∀ (ls : List Line) (b : Option (Int × Wall)), (∀ l ∈ ls, l ∈ linesF n) → (∀ q, b = some q → ∃ l ∈ linesF n, q.2 = (l.2.2.2.2, l.2.2.2.1) ∧ q.1 = l.1 ∧ l.1 ≤ x ∧ l.2.1 ≤ y ∧ y < l.2.2.1) → ∀ q, ls.foldl (westStep x y) b = some q → ∃ l ∈ linesF n, q.2 = (l.2.2.2.2, l.2.2.2.1) ∧ q.1 = l.1 ∧ l.1 ≤ x ∧ l.2.1 ≤ y ∧ y < l.2.2.1 := by
    intro ls
    induction ls with
    | nil => intro b _ hb q hq; exact hb q hq
    | cons l ls ih =>
      intro b hl hb q hq
      rw [List.foldl_cons] at hq
      refine ih _ (fun a ha => hl a (List.mem_cons_of_mem _ ha)) ?_ q hq
      intro q hq
      unfold westStep at hq
      split at hq
      · rename_i h
        cases hq
        exact ⟨l, hl l List.mem_cons_self, rfl, rfl, h.1, h.2.1.1, h.2.1.2⟩
      · exact hb q hq
  unfold westF at h
  cases e : (linesF n).foldl (westStep x y) none with
  | none => rw [e] at h; cases h
  | some q =>
    rw [e] at h
    cases h
    obtain ⟨l, hl, h1, h2, h3, h4, h5⟩ := this (linesF n) none (fun _ h => h) (fun q h => by cases h) q e
    unfold linesF at hl
    obtain ⟨w, hw, rfl⟩ := List.mem_map.mp hl
    obtain ⟨hw1, hw2⟩ := List.mem_filter.mp hw
    show (q.2.2, q.2.1) ∈ n.2 ∧ isUp (endsF n (q.2.2, q.2.1)) = true ∧ (spot n q.2.2).1 ≤ x ∧ (spot n q.2.2).2 ≤ y ∧ y < (spot n q.2.1).2
    rw [h1]
    exact ⟨hw1, hw2, h3, h4, h5⟩
theorem west_isSide {n : Net} {x y : Int} {s : Wall} (h : westF (linesF n) x y = some s) : isSide n s := .inr (west_side h).1
theorem westOf_isSide {n : Net} {k : Nat} {s : Wall} (h : westOf n k = some s) : isSide n s := west_isSide h
theorem numOf_lt {n : Net} (h : NetF n) {s : Wall} (hs : isSide n s) : numOf n s < (ringsF n).length := by
  obtain ⟨k, h1, h2⟩ := h.by_ s hs
  unfold numOf
  rw [h1]; exact h2
theorem left_fuel {n : Net} (h : NetF n) : ∀ (f f' : Nat) (o : Option Wall), (∀ s, o = some s → isSide n s) → mesOf n o ≤ f → mesOf n o ≤ f' → leftF n f o = leftF n f' o
  | 0, 0, _, _, _, _ => rfl
  | f, f', none, _, _, _ => by cases f <;> cases f' <;> rfl
  | 0, f' + 1, some s, _, h1, _ => absurd (show (spot n s.1).1.toNat + 1 ≤ 0 from h1) (by omega)
  | f + 1, 0, some s, _, _, h2 => absurd (show (spot n s.1).1.toNat + 1 ≤ 0 from h2) (by omega)
  | f + 1, f' + 1, some s, hs, h1, h2 => by
    unfold leftF
    split
    · rename_i ha
      cases hw : westOf n (numOf n s) with
      | none => cases f <;> cases f' <;> rfl
      | some t =>
        have := h.dec s t (hs s rfl) ha hw
        exact left_fuel h f f' (some t) (fun u hu => by cases hu; exact westOf_isSide hw) (by omega) (by omega)
    · rfl
theorem room_eq {n : Net} (h : NetF n) {s : Wall} (hs : isSide n s) : roomF n (some s) = if (areasF n).getD (numOf n s) 0 ≤ 0 then roomF n (westOf n (numOf n s)) else some (numOf n s) := by
  unfold roomF
  conv => lhs; unfold mesOf leftF
  split
  · rename_i ha
    refine left_fuel h _ _ _ (fun u hu => westOf_isSide hu) ?_ (Nat.le_refl _)
    cases hw : westOf n (numOf n s) with
    | none => exact Nat.zero_le _
    | some t =>
      have := h.dec s t hs ha hw
      have this' : (spot n t.1).1.toNat + 1 < (spot n s.1).1.toNat + 1 := this
      show (spot n t.1).1.toNat + 1 ≤ (spot n s.1).1.toNat
      omega
  · rfl
theorem left_pos {n : Net} (h : NetF n) : ∀ (f : Nat) (o : Option Wall), (∀ s, o = some s → isSide n s) → ∀ k, leftF n f o = some k → k ∈ posF n
  | 0, none, _, k, hk => by cases hk
  | 0, some _, _, k, hk => by cases hk
  | f + 1, none, _, k, hk => by cases hk
  | f + 1, some s, hs, k, hk => by
    unfold leftF at hk
    split at hk
    · exact left_pos h f _ (fun u hu => westOf_isSide hu) k hk
    · rename_i ha
      cases hk
      exact List.mem_filter.mpr ⟨List.mem_range.mpr (numOf_lt h (hs s rfl)), decide_eq_true (by omega)⟩
theorem room_pos {n : Net} (h : NetF n) {o : Option Wall} (ho : ∀ s, o = some s → isSide n s) {k : Nat} (hk : roomF n o = some k) : k ∈ posF n := left_pos h _ o ho k hk
end My
end

section
set_option Elab.async false
set_option linter.all false
set_option maxRecDepth 100000
set_option maxHeartbeats 4000000
namespace My
open PySem L2 G
open PyProof.Rows (envOfC)
section
variable {P : Program} {w : World} {K : PySem.W.Frag} {mg : Str → Option Value} {base : Heap} {C : Addr}
def c_way_from : Cp := fun ds Ψ => ∃ p q : Pt, ds = [.py (dPt p), .py (dPt q)] ∧ Ψ (I (wayF p q))
theorem sc_way_from : FnScope ["one", "other"] ["one", "other"] (defScope s_way_from) := ⟨rfl, rfl, rfl, by decide +kernel, rfl, by decide +kernel, by decide +kernel⟩
theorem okv_way_from : okL ["one", "other"] (defScope s_way_from) = true := by decide +kernel
theorem okg_way_from : okG ["int"] (defScope s_way_from) = true := by decide +kernel
theorem ok_way_from (T : Tx K mg C) (F : Df K mg "way_from" s_way_from ["one", "other"])  : Fn P w K mg base CX0 "way_from" 1 ["one", "other"] (spP c_way_from) :=
  have nd := sc_way_from.nd
  fn_mk F sc_way_from (by first | (rintro ds Ω Ψ ⟨_, _, rfl, _⟩; rfl) | (rintro ds Ω Ψ ⟨_, _, _, rfl, _⟩; rfl) | (rintro ds Ω Ψ ⟨_, _, _, _, rfl, _⟩; rfl) | (rintro ds Ω Ψ ⟨_, _, _, _, _, rfl, _⟩; rfl) | (rintro ds Ω Ψ ⟨_, _, _, _, _, _, rfl, _⟩; rfl)) fun f cdv A outer s H E hr => by
    refine ⟨_, (pss_cons (ps_if (pt_cmpR op_eq (pe_ix (ixt K) (pvA okv_way_from 0 0) pe_int (fun _ _ => rfl)) (pe_ix (ixt K) (pvA okv_way_from 1 1) pe_int (fun _ _ => rfl)) (nomark _)) (pss_one (ps_ret (pe_op op_mul pe_int (pb_int T.b (pa_cons (pe_cmpR op_lt (pe_ix (ixt K) (pvA okv_way_from 1 1) pe_int (fun _ _ => rfl)) (pe_ix (ixt K) (pvA okv_way_from 0 0) pe_int (fun _ _ => rfl)) (nomark _)) pa_nil) (hg := glA okg_way_from 0))))) pss_nil) (pss_one (ps_ret (pe_op op_add pe_int (pe_op op_mul pe_int (pb_int T.b (pa_cons (pe_cmpR op_lt (pe_ix (ixt K) (pvA okv_way_from 1 1) pe_int (fun _ _ => rfl)) (pe_ix (ixt K) (pvA okv_way_from 0 0) pe_int (fun _ _ => rfl)) (nomark _)) pa_nil) (hg := glA okg_way_from 0))))))), ?_⟩
    rintro ds Ω Ψ ⟨rfl, p, q, rfl, h⟩
    refine sw_seq (sw_if (ts_T (ev_eqI (ev_ixT (ev_var rfl) ev_int rfl) (ev_ixT (ev_var rfl) ev_int rfl))) (fun hb => ?_) fun hb => sw_next ?_)
    · refine sw_ret (ev_iC ev_int (ev_intB (ev_iB (ev_ixT (ev_var rfl) ev_int rfl) (ev_ixT (ev_var rfl) ev_int rfl))) (.inl ⟨by decide, by decide⟩)) ?_
      unfold wayF at h
      rw [if_pos (of_decide_eq_true hb)] at h
      simpa using h
    · refine sw_ret (ev_i0 ev_int (ev_iC ev_int (ev_intB (ev_iB (ev_ixT (ev_var rfl) ev_int rfl) (ev_ixT (ev_var rfl) ev_int rfl))) (.inl ⟨by decide, by decide⟩))) ?_
      unfold wayF at h
      rw [if_neg (of_decide_eq_false hb)] at h
      simpa using h
def linkD (n : Net) (c : Int) : D := .ab (dictM ((nbrs n c).map fun q => (q.1, I q.2)))
def linksM (n : Net) : Mono := dictM ((keys n).map fun c => (c, linkD n c))
def c_links_of : Cp := fun ds Ψ => ∃ n : Net, ds = [.py (dNet n)] ∧ NetL n ∧ Ψ (.ab (linksM n))
/-- the corners' dicts under way -/
def own1 (ns : List Int) (ps : List Addr) : List (Key × D) := (ns.zip ps).map fun q => (Sum.inl q.1, .loc q.2)
def stO (ns : List Int) (ps : List Addr) (f : Int → List (Key × D)) : Om := (ns.zip ps).map fun q => (q.2, .dk (f q.1))
theorem own1_snoc {ns : List Int} {ps : List Addr} {a : Int} {c : Addr} (h : ns[ps.length]? = some a) : own1 ns (ps ++ [c]) = own1 ns ps ++ [(Sum.inl a, .loc c)] := by
  unfold own1
  have : ∀ {ns : List Int} {ps : List Addr}, ns[ps.length]? = some a → ns.zip (ps ++ [c]) = ns.zip ps ++ [(a, c)] := by
    intro ns
    induction ns with
    | nil => intro ps h; simp at h
    | cons b ns ih => intro ps h; cases ps with
      | nil => simp at h; simp [h]
      | cons p ps => simp at h; simp [ih h]
  rw [this h, List.map_append]; rfl
theorem zip_at {ns : List Int} {ps : List Addr} {i : Nat} {a : Int} (hl : ps.length = ns.length) (h : ns[i]? = some a) : ∃ p, ps[i]? = some p ∧ (ns.zip ps)[i]? = some (a, p) := by
  have hi := (List.getElem?_eq_some_iff.mp h).1
  refine ⟨ps[i]'(by omega), List.getElem?_eq_getElem (by omega), ?_⟩
  rw [List.getElem?_zip_eq_some]
  exact ⟨h, List.getElem?_eq_getElem (by omega)⟩
theorem atD_own1 {ns : List Int} {ps : List Addr} {i : Nat} {a : Int} {p : Addr} (nd : ns.Nodup) (h : (ns.zip ps)[i]? = some (a, p)) : atD (own1 ns ps) (Sum.inl a) = some (.loc p) := by
  have : ∀ {ns : List Int} {ps : List Addr} {i : Nat}, ns.Nodup → (ns.zip ps)[i]? = some (a, p) → atD (own1 ns ps) (Sum.inl a) = some (.loc p) := by
    intro ns
    induction ns with
    | nil => intro ps i nd h; simp at h
    | cons b ns ih =>
      intro ps i nd h
      cases ps with
      | nil => simp at h
      | cons q ps =>
        cases i with
        | zero =>
          simp at h
          obtain ⟨rfl, rfl⟩ := h
          simp [own1, atD]
        | succ i =>
          simp at h
          have hb : b ≠ a := by
            intro e
            subst e
            have := List.getElem?_zip_eq_some.mp h
            exact (List.nodup_cons.mp nd).1 (List.mem_of_getElem? this.1)
          have := ih (List.nodup_cons.mp nd).2 h
          unfold own1 atD at this ⊢
          rw [List.zip_cons_cons, List.map_cons, List.find?_cons, decide_eq_false (by simpa using hb)]
          exact this
  exact this nd h
theorem stO_set {ns : List Int} {ps : List Addr} {f : Int → List (Key × D)} {i : Nat} {a : Int} {p : Addr} {v : List (Key × D)} (nd : ns.Nodup) (h : (ns.zip ps)[i]? = some (a, p)) : (stO ns ps f).set i (p, .dk v) = stO ns ps (fun c => if c = a then v else f c) := by
  have h1 := (List.getElem?_zip_eq_some.mp h).1
  apply List.ext_getElem?
  intro j
  rw [List.getElem?_set]
  unfold stO
  rw [List.getElem?_map, List.getElem?_map, List.length_map]
  split
  · rename_i e
    subst e
    rw [h, if_pos (List.getElem?_eq_some_iff.mp h).1]
    simp
  · rename_i e
    cases hz : (ns.zip ps)[j]? with
    | none => rfl
    | some q =>
      have h2 := (List.getElem?_zip_eq_some.mp hz).1
      have hne : q.1 ≠ a := fun e' => by rw [e'] at h2; exact e (L2.nd_ix nd h1 h2)
      simp [hne]
def inn (n : Net) (ws : List Wall) (c : Int) : List (Key × D) := (ws.filterMap (nbr n c)).map fun q => (Sum.inl q.1, I q.2)
theorem inn_snoc {n : Net} {ws : List Wall} {a b : Int} (hne : a ≠ b) : inn n (ws ++ [(a, b)]) = fun c => if c = b then inn n ws b ++ [(Sum.inl (wayF (spot n b) (spot n a)), I a)] else if c = a then inn n ws a ++ [(Sum.inl (wayF (spot n a) (spot n b)), I b)] else inn n ws c := by
  funext c
  unfold inn
  rw [List.filterMap_append, List.map_append]
  by_cases e1 : c = b
  · subst e1
    rw [if_pos rfl]
    simp [nbr, hne]
  · rw [if_neg e1]
    by_cases e2 : c = a
    · subst e2
      rw [if_pos rfl]
      simp [nbr]
    · rw [if_neg e2]
      have : nbr n c (a, b) = none := by simp [nbr, Ne.symm e1, Ne.symm e2]
      simp [this]
theorem way_new {n : Net} {k : Nat} {wl : Wall} {c : Int} {q : Int × Int} (hn : NetL n) (hk : n.2[k]? = some wl) (hq : nbr n c wl = some q) : (Sum.inl q.1 : Key) ∉ (inn n (n.2.take k) c).map (·.1) := by
  intro hm
  have hw := hn.ways c
  have e1 : nbrs n c = (n.2.take k).filterMap (nbr n c) ++ (q :: (n.2.drop (k + 1)).filterMap (nbr n c)) := by
    unfold nbrs
    have e : n.2 = n.2.take k ++ wl :: n.2.drop (k + 1) := by
      have := (List.getElem?_eq_some_iff.mp hk)
      obtain ⟨h1, h2⟩ := this
      rw [← h2, List.getElem_cons_drop h1, List.take_append_drop]
    conv => lhs; rw [e]
    rw [List.filterMap_append, List.filterMap_cons, hq]
  rw [e1, List.map_append, List.nodup_append] at hw
  obtain ⟨x, hx, ex⟩ := List.mem_map.mp hm
  unfold inn at hx
  obtain ⟨y, hy, rfl⟩ := List.mem_map.mp hx
  exact hw.2.2 y.1 (List.mem_map_of_mem (f := (·.1)) hy) q.1 (by simp) (Sum.inl.inj ex)
theorem sc_links_of : FnScope ["net", "spots", "found", "c", "a", "b"] ["net"] (defScope s_links_of) := ⟨rfl, rfl, rfl, by decide +kernel, rfl, by decide +kernel, by decide +kernel⟩
theorem okv_links_of : okL ["net", "spots", "found", "c", "b", "a"] (defScope s_links_of) = true := by decide +kernel
theorem okg_links_of : okG ["spots_of", "way_from"] (defScope s_links_of) = true := by decide +kernel
theorem ok_links_of (T : Tx K mg C) (F : Df K mg "links_of" s_links_of ["net"]) (g_spots_of : Fn P w K mg base CX0 "spots_of" 1 ["net"] (spP c_spots_of)) (g_way_from : Fn P w K mg base CX0 "way_from" 1 ["one", "other"] (spP c_way_from)) : Fn P w K mg base CX0 "links_of" 2 ["net"] (spP c_links_of) :=
  have nd := sc_links_of.nd
  fn_mk F sc_links_of (by first | (rintro ds Ω Ψ ⟨_, _, rfl, _⟩; rfl) | (rintro ds Ω Ψ ⟨_, _, _, rfl, _⟩; rfl) | (rintro ds Ω Ψ ⟨_, _, _, _, rfl, _⟩; rfl) | (rintro ds Ω Ψ ⟨_, _, _, _, _, rfl, _⟩; rfl) | (rintro ds Ω Ψ ⟨_, _, _, _, _, _, rfl, _⟩; rfl)) fun f cdv A outer s H E hr => by
    refine ⟨_, (pss_cons (ps_asg (pe_fn g_spots_of hr (by decide) (pa_cons (pvA okv_links_of 0 0) pa_nil) (hg := glA okg_links_of 0)) (gnA okv_links_of nd 1 1)) (pss_cons (ps_asg pe_dnewK (gnA okv_links_of nd 2 2)) (pss_cons (ps_lock (ps_for PassesOwn.never rfl (pi_keys (pvA okv_links_of 1 1)) (gnA okv_links_of nd 3 3) (pss_one (ps_dput (hu_of hr) (pvA okv_links_of 2 2) (pvA okv_links_of 3 3) pe_dnewK rfl)))) (pss_cons (ps_for PassesOwn.never rfl (pi_tup (pe_ix (ixt K) (pvA okv_links_of 0 0) pe_int (fun _ _ => rfl))) (pgt K (n := 2) rfl (pgs_cons (gnA okv_links_of nd 4 5) (pgs_cons (gnA okv_links_of nd 5 4) pgs_nil))) (pss_cons (ps_dput (hu_of hr) (pe_dget (hu_of hr) (pvA okv_links_of 2 2) (pvA okv_links_of 4 5) (fun _ _ => rfl)) (pe_fn g_way_from hr (by decide) (pa_cons (pe_dget (hu_of hr) (pvA okv_links_of 1 1) (pvA okv_links_of 4 5) (fun _ _ => rfl)) (pa_cons (pe_dget (hu_of hr) (pvA okv_links_of 1 1) (pvA okv_links_of 5 4) (fun _ _ => rfl)) pa_nil)) (hg := glA okg_links_of 1)) (pvA okv_links_of 5 4) rfl) (pss_one (ps_dput (hu_of hr) (pe_dget (hu_of hr) (pvA okv_links_of 2 2) (pvA okv_links_of 5 4) (fun _ _ => rfl)) (pe_fn g_way_from hr (by decide) (pa_cons (pe_dget (hu_of hr) (pvA okv_links_of 1 1) (pvA okv_links_of 5 4) (fun _ _ => rfl)) (pa_cons (pe_dget (hu_of hr) (pvA okv_links_of 1 1) (pvA okv_links_of 4 5) (fun _ _ => rfl)) pa_nil)) (hg := glA okg_links_of 1)) (pvA okv_links_of 4 5) rfl)))) (pss_one (ps_ret (pvA okv_links_of 2 2))))))), ?_⟩
    rintro ds Ω Ψ ⟨rfl, n, rfl, hn, q⟩
    have hlk : (keys n).length = n.1.length := List.length_map _
    refine sw_seq (sw_set (ev_fn (ar_cons (ev_var rfl) ar_nil) fun Ψ q => ⟨n, rfl, hn.toNetR, q⟩) ?_)
    refine sw_seq (sw_setW (ev_ownK fun p => ?_))
    refine sw_seq (sw_lockK (i := 1) (kvs := n.1.map fun c => (c.1, .py (dPt c.2))) rfl rfl rfl fun d ws od hk => ?_)
    have hk' : ws.map (·.1) = (keys n).map Sum.inl := by rw [hk, List.map_map, keys, List.map_map]; rfl
    refine sw_forK (ev_var rfl) (j0 := 1) rfl hk' (fun k Γ Ω => ∃ x ps, Γ = [some (.py (dNet n)), some (.loc d), some (.loc p), x, none, none] ∧ ps.length = k ∧ Ω = (p, .dk (own1 (keys n) ps)) :: (d, .raw (.frz od (.dK ws))) :: ps.map fun a => (a, .dk [])) ⟨none, [], rfl, rfl, by simp [own1]⟩ (fun k c Γ' Ω' hd j => ?_) fun Γ' Ω' j => ?_
    · obtain ⟨x, ps, rfl, rfl, rfl⟩ := j
      refine ⟨⟨1, rfl⟩, tg_name ?_⟩
      refine sw_dputKn (fun _ => ev_var rfl) (fun _ => ev_var rfl) (j := 0) rfl (fun hm => ?_) ?_ fun a => ?_
      · obtain ⟨y, hy, ey⟩ := List.mem_map.mp hm
        obtain ⟨z, hz, rfl⟩ := List.mem_map.mp hy
        obtain ⟨i, hi⟩ := List.getElem?_of_mem hz
        obtain ⟨h1, h2⟩ := List.getElem?_zip_eq_some.mp hi
        have e3 : z.1 = c := Sum.inl.inj ey
        rw [e3] at h1
        have := L2.nd_ix hn.nd h1 hd
        have := (List.getElem?_eq_some_iff.mp h2).1
        omega
      · have := hn.few
        unfold own1
        rw [List.length_map, List.length_zip]; omega
      · refine ⟨_, ps ++ [a], rfl, by simp, ?_⟩
        rw [own1_snoc hd, List.map_append]; rfl
    · obtain ⟨x, ps, rfl, hps, rfl⟩ := j
      refine ⟨⟨1, rfl⟩, 1, rfl, rfl, ?_⟩
      show SW _ [some (.py (dNet n)), some (.ab (spotsM n)), some (.loc p), x, none, none] ((p, .dk (own1 (keys n) ps)) :: ps.map fun a => (a, .dk [])) _
      have e0 : (ps.map fun a => (a, Own.dk [])) = stO (keys n) ps (inn n (n.2.take 0)) := by
        unfold stO
        have : ∀ {ns : List Int} {ps : List Addr}, ps.length = ns.length → (ps.map fun a => (a, Own.dk [])) = (ns.zip ps).map fun q => (q.2, .dk (inn n (n.2.take 0) q.1)) := by
          intro ns
          induction ns with
          | nil => intro ps h; cases ps with
            | nil => rfl
            | cons => simp at h
          | cons b ns ih => intro ps h; cases ps with
            | nil => simp at h
            | cons a ps => simp only [List.zip_cons_cons, List.map_cons]; rw [ih (by simpa using h)]; rfl
        exact this hps
      rw [e0]
      refine sw_seq (sw_forT (ev_ixT (ev_var rfl) ev_int rfl) (fun k Γ Ω => ∃ x y z, Γ = [some (.py (dNet n)), some (.ab (spotsM n)), some (.loc p), x, y, z] ∧ Ω = (p, .dk (own1 (keys n) ps)) :: stO (keys n) ps (inn n (n.2.take k))) ⟨_, _, _, rfl, rfl⟩ (fun k d Γ' Ω' hd j => ?_) fun Γ' Ω' j => ?_)
      · obtain ⟨x, y, z, rfl, rfl⟩ := j
        rw [List.getElem?_map] at hd
        cases e : n.2[k]? with
        | none => rw [e] at hd; cases hd
        | some wl =>
          rw [e] at hd
          cases hd
          obtain ⟨a, b⟩ := wl
          have hw : (a, b) ∈ n.2 := List.mem_of_getElem? e
          have hne : a ≠ b := hn.ne _ hw
          obtain ⟨ka, kb⟩ := hn.ends _ hw
          obtain ⟨ia, hia⟩ := List.getElem?_of_mem ka
          obtain ⟨ib, hib⟩ := List.getElem?_of_mem kb
          obtain ⟨pa, hpa, hza⟩ := zip_at hps hia
          obtain ⟨pb, hpb, hzb⟩ := zip_at hps hib
          have hlw : (n.2.take k).length ≤ 1000 := by rw [List.length_take]; have := hn.fewW; omega
          refine tg_tup rfl (tgs_cons (tg_name (tgs_cons (tg_name (tgs_nil ?_)))))
          have hja : ((p, Own.dk (own1 (keys n) ps)) :: stO (keys n) ps (inn n (n.2.take k)))[ia + 1]? = some (pa, .dk (inn n (n.2.take k) a)) := by
            rw [List.getElem?_cons_succ]; unfold stO; rw [List.getElem?_map, hza]; rfl
          refine sw_seq (sw_dputK (ev_var rfl) (ev_dgetO (ev_var rfl) (ev_var rfl) (j := 0) rfl (atD_own1 hn.nd hza)) (ev_fn (ar_cons (ev_spots (ev_var rfl) (ev_var rfl) ka) (ar_cons (ev_spots (ev_var rfl) (ev_var rfl) kb) ar_nil)) fun Ψ q => ⟨_, _, rfl, q⟩) (j := ia + 1) hja (way_new (c := a) (q := (wayF (spot n a) (spot n b), b)) hn e (by simp [nbr])) ?_ ?_)
          · unfold inn
            rw [List.length_map]
            have := List.length_filterMap_le (nbr n a) (n.2.take k)
            omega
          · show SW _ _ ((p, .dk (own1 (keys n) ps)) :: (stO (keys n) ps (inn n (n.2.take k))).set ia _) _
            rw [stO_set hn.nd hza]
            have hjb : ((p, Own.dk (own1 (keys n) ps)) :: stO (keys n) ps (fun c => if c = a then inn n (n.2.take k) a ++ [(Sum.inl (wayF (spot n a) (spot n b)), I b)] else inn n (n.2.take k) c))[ib + 1]? = some (pb, .dk (inn n (n.2.take k) b)) := by
              rw [List.getElem?_cons_succ]; unfold stO; rw [List.getElem?_map, hzb]; simp [Ne.symm hne]
            refine sw_dputK (ev_var rfl) (ev_dgetO (ev_var rfl) (ev_var rfl) (j := 0) rfl (atD_own1 hn.nd hzb)) (ev_fn (ar_cons (ev_spots (ev_var rfl) (ev_var rfl) kb) (ar_cons (ev_spots (ev_var rfl) (ev_var rfl) ka) ar_nil)) fun Ψ q => ⟨_, _, rfl, q⟩) (j := ib + 1) hjb (way_new (c := b) (q := (wayF (spot n b) (spot n a), a)) hn e (by simp [nbr, hne])) ?_ ?_
            · unfold inn
              rw [List.length_map]
              have := List.length_filterMap_le (nbr n b) (n.2.take k)
              omega
            · refine ⟨_, _, _, rfl, ?_⟩
              rw [take_next e, inn_snoc hne]
              show (p, Own.dk (own1 (keys n) ps)) :: (stO (keys n) ps _).set ib _ = _
              rw [stO_set hn.nd hzb]
      · obtain ⟨x, y, z, rfl, rfl⟩ := j
        rw [List.length_map, List.take_length]
        refine sw_frzA (i := 2) (p := p) (linksM n) rfl (fun H0 H e hall => ?_) (sw_ret (ev_var rfl) q)
        obtain ⟨o, hp, us, rfl, hku, hvu⟩ := hall _ (List.mem_cons_self)
        refine ⟨p, us, rfl, hp, ?_, ?_⟩
        · rw [hku]
          unfold own1
          rw [List.map_map, List.map_map]
          have : ∀ {ns : List Int} {ps : List Addr}, ps.length = ns.length → (ns.zip ps).map ((fun x => x.1) ∘ fun q => ((Sum.inl q.1 : Key), D.loc q.2)) = ns.map ((fun q => Sum.inl q.1) ∘ fun c => (c, linkD n c)) := by
            intro ns
            induction ns with
            | nil => intro ps h; rfl
            | cons b ns ih => intro ps h; cases ps with
              | nil => simp at h
              | cons a ps => simp only [List.zip_cons_cons, List.map_cons]; rw [ih (by simpa using h)]; rfl
          exact this hps
        · have main : ∀ {ns : List Int} {ps : List Addr} {vs : List V}, ps.length = ns.length → RqL H0 vs ((own1 ns ps).map (·.2)) → (∀ q ∈ ns.zip ps, ∃ o, H q.2 = some o ∧ OwnOk H0 o (.dk (inn n n.2 q.1))) → RqL H vs ((ns.map fun c => (c, linkD n c)).map (·.2)) := by
            intro ns
            induction ns with
            | nil => intro ps vs h r _; cases ps with
              | nil => cases r; exact .nil
              | cons => simp at h
            | cons b ns ih => intro ps vs h r hq; cases ps with
              | nil => simp at h
              | cons a ps =>
                unfold own1 at r
                simp only [List.zip_cons_cons, List.map_cons] at r ⊢
                cases r with
                | cons r1 r2 =>
                  refine .cons ?_ (ih (by simpa using h) r2 fun q hq' => hq q (by simp [hq']))
                  cases (show _ = V.ref a from r1)
                  obtain ⟨o, h1, ws', rfl, h2, h3⟩ := hq (b, a) (by simp)
                  refine ⟨a, ws', rfl, h1, ?_, ?_⟩
                  · rw [h2]; unfold inn nbrs; rw [List.map_map, List.map_map]; rfl
                  · have h4 := h3.mono e
                    unfold inn at h4
                    rw [List.map_map] at h4 ⊢
                    exact h4
          refine main hps hvu fun q hq => ?_
          exact hall (q.2, .dk (inn n n.2 q.1)) (List.mem_cons_of_mem _ (List.mem_map_of_mem hq))
theorem link_get {n : Net} {c : Int} (h : c ∈ keys n) : ((keys n).map fun c => (c, linkD n c)).lookup c = some (linkD n c) := by
  have : ∀ {l : List Int}, c ∈ l → (l.map fun c => (c, linkD n c)).lookup c = some (linkD n c) := by
    intro l
    induction l with
    | nil => intro h; cases h
    | cons a l ih =>
      intro h
      by_cases e : c = a
      · subst e; simp [List.lookup]
      · have e2 : (c == a) = false := by simpa using e
        simp only [List.map_cons, List.lookup, e2]
        exact ih ((List.mem_cons.mp h).resolve_left e)
  exact this h
theorem ev_link {Γ : En} {Ω : Om} {ta tb : TE} {n : Net} {c : Int} (ha : EvD ta Γ Ω (.ab (linksM n))) (hb : EvD tb Γ Ω (I c)) (h : c ∈ keys n) : EvD (tDGet ta tb) Γ Ω (linkD n c) := ev_dget ha hb (link_get h)
theorem nbr_look {n : Net} {c x : Int} : ((nbrs n c).map fun q => (q.1, I q.2)).lookup x = ((nbrs n c).lookup x).map I := by
  have : ∀ l : List (Int × Int), (l.map fun q => (q.1, I q.2)).lookup x = (l.lookup x).map I := by
    intro l
    induction l with
    | nil => rfl
    | cons a l ih =>
      by_cases e : x = a.1
      · subst e; simp [List.lookup]
      · have e2 : (x == a.1) = false := by simpa using e
        simp only [List.map_cons, List.lookup, e2]; exact ih
  exact this _
/-- a side's way -/
theorem way_in {n : Net} (hn : NetL n) {s : Wall} (hs : isSide n s) : (wayF (spot n s.1) (spot n s.2), s.2) ∈ nbrs n s.1 := by
  rcases hs with h | h
  · exact List.mem_filterMap.mpr ⟨s, h, by simp [nbr]⟩
  · refine List.mem_filterMap.mpr ⟨(s.2, s.1), h, ?_⟩
    have := hn.ne _ h
    simp [nbr, this]
theorem way_only {n : Net} (hn : NetL n) {c : Int} {q : Int × Int} (h : q ∈ nbrs n c) : q.1 = wayF (spot n c) (spot n q.2) := by
  obtain ⟨w, hw, e⟩ := List.mem_filterMap.mp h
  unfold nbr at e
  split at e
  · rename_i h1
    cases e
    rw [← h1]
  · split at e
    · rename_i h1
      cases e
      rw [← h1]
    · cases e
theorem TsD.eq {t : TT} {Γ : En} {Ω : Om} {b c : Bool} (h : TsD t Γ Ω b) (e : b = c) : TsD t Γ Ω c := e ▸ h
theorem atI_nat {α : Type} {l : List α} {i : Nat} (h : i < l.length) : atI l (i : Int) = l[i]? := by
  unfold atI ixN
  rw [if_pos (Int.natCast_nonneg i)]
  simp [h]
theorem atI_zero {α : Type} {x : α} {l : List α} : atI (x :: l) 0 = some x := atI_nat (i := 0) (by simp)
def c_way_of : Cp := fun ds Ψ => ∃ (n : Net) (s : Wall), ds = [.ab (linksM n), .py (dW s)] ∧ (NetL n ∧ isSide n s) ∧ Ψ (I (wayF (spot n s.1) (spot n s.2)))
theorem sc_way_of : FnScope ["links", "side", "way"] ["links", "side"] (defScope s_way_of) := ⟨rfl, rfl, rfl, by decide +kernel, rfl, by decide +kernel, by decide +kernel⟩
theorem ok_way_of (T : Tx K mg C) (F : Df K mg "way_of" s_way_of ["links", "side"])  : Fn P w K mg base CX0 "way_of" 1 ["links", "side"] (spP c_way_of) :=
  have nd := sc_way_of.nd
  fn_mk F sc_way_of (by first | (rintro ds Ω Ψ ⟨_, _, rfl, _⟩; rfl) | (rintro ds Ω Ψ ⟨_, _, _, rfl, _⟩; rfl) | (rintro ds Ω Ψ ⟨_, _, _, _, rfl, _⟩; rfl) | (rintro ds Ω Ψ ⟨_, _, _, _, _, rfl, _⟩; rfl) | (rintro ds Ω Ψ ⟨_, _, _, _, _, _, rfl, _⟩; rfl)) fun f cdv A outer s H E hr => by
    refine ⟨_, (pss_one (ps_ret (pe_ix (ixl K) (pe_lock (pe_lc (own := [("way", 2)]) rfl nd (pi_keys (pe_dget (hu_of hr) (pv 0) (pe_ix (ixt K) (pv 1) pe_int (fun _ _ => rfl)) (fun _ _ => rfl))) (blkOk_by (own := [("way", 2)]) (N := ["links", "side", "way"]) (sc := defScope s_way_of) (by decide +kernel)) (fun _ _ _ _ _ => (gn nd 2)) (fun _ _ _ _ _ => (pts_one (pt_cmpR op_eq (pe_dget (hu_of hr) (pe_dget (hu_of hr) (pv 0) (pe_ix (ixt K) (pv 1) pe_int (fun _ _ => rfl)) (fun _ _ => rfl)) (pv 2) (fun _ _ => rfl)) (pe_ix (ixt K) (pv 1) pe_int (fun _ _ => rfl)) (nomark _)))) (fun _ _ _ _ _ => (pv 2)))) pe_int (fun _ _ => rfl)))), ?_⟩
    rintro ds Ω Ψ ⟨rfl, n, s, rfl, ⟨hn, hs⟩, q⟩
    obtain ⟨k1, k2⟩ := hn.side_keys hs
    have hw : ((nbrs n s.1).filter fun q => decide (q.2 = s.2)).map (·.1) = [wayF (spot n s.1) (spot n s.2)] ∨ 2 ≤ 1 → True := fun _ => trivial
    let p : Int → Bool := fun x => decide ((nbrs n s.1).lookup x = some s.2)
    have hfil : ∃ r, ((nbrs n s.1).map (·.1)).filter p = wayF (spot n s.1) (spot n s.2) :: r := by
      have h1 := way_in hn hs
      have h2 : wayF (spot n s.1) (spot n s.2) ∈ ((nbrs n s.1).map (·.1)).filter p := List.mem_filter.mpr ⟨List.mem_map_of_mem (f := (·.1)) h1, decide_eq_true (lookup_nd (hn.ways _) h1)⟩
      cases e : ((nbrs n s.1).map (·.1)).filter p with
      | nil => rw [e] at h2; cases h2
      | cons a r =>
        have ha : a ∈ ((nbrs n s.1).map (·.1)).filter p := by rw [e]; exact List.mem_cons_self
        have hl := lookup_mem (of_decide_eq_true (List.mem_filter.mp ha).2)
        have := way_only hn hl
        exact ⟨r, by rw [show a = wayF (spot n s.1) (spot n s.2) from this]⟩
    obtain ⟨r, hr'⟩ := hfil
    refine sw_ret (ev_ixL (d := .int (wayF (spot n s.1) (spot n s.2))) (ds := (((nbrs n s.1).map (·.1)).filter p).map PyData.int) (ev_lockE (nb := nbrs n s.1) (Γ' := fun d => [some (.ab (oneM s.1 d)), some (.py (dW s)), none]) (fun σ H0 sl => ?_) rfl fun d od => ?_) ev_int (by rw [hr']; exact atI_zero)) q
    · obtain ⟨v, hv, pl, us, rfl, hp, hk, hvs⟩ := sl.at_ 0 _ rfl
      obtain ⟨x, e1, e2⟩ := (valV_look inl_inj hk hvs s.1).2 (linkD n s.1) (link_get k1)
      obtain ⟨d, rfl, hd⟩ := iiM e2
      refine ⟨d, hd, ?_⟩
      have hne : pl ≠ d := by
        intro e
        subst e
        rw [hp] at hd
        unfold iiD at hd
        have hd' : us = (nbrs n s.1).map fun q => (Sum.inl q.1, V.int q.2) := by injection hd with h; injection h
        rw [hd'] at e1
        have : ∀ l : List (Int × Int), valV (l.map fun q => ((Sum.inl q.1 : Key), V.int q.2)) (Sum.inl s.1) ≠ some (.ref pl) := by
          intro l
          induction l with
          | nil => intro h; cases h
          | cons a l ih =>
            rw [List.map_cons]
            by_cases e : (Sum.inl a.1 : Key) = Sum.inl s.1
            · rw [valV_pos e]; intro h; cases h
            · rw [valV_neg e]; exact ih
        exact this _ e1
      exact sl.del (i := 0) hd trivial hv (e := .ab (oneM s.1 d)) ⟨pl, us, rfl, by rw [G.del_ne hne]; exact hp, e1⟩ (okΓ_of rfl)
    · refine ev_lcK (ns := (nbrs n s.1).map (·.1)) p PyData.int (ev_get1 (ev_var rfl) (ev_ixT (ev_var rfl) ev_int rfl)) (j0 := 0) rfl (by rw [List.map_map, List.map_map]; rfl) to_name ?_ (fun x hx => ?_) ⟨rfl, rfl⟩
      · rw [List.length_map]
        have := List.length_filterMap_le (nbr n s.1) n.2
        have := hn.fewW
        unfold nbrs; omega
      · obtain ⟨y, hy, rfl⟩ := List.mem_map.mp hx
        have hl := lookup_nd (hn.ways _) hy
        refine tg_name ⟨rfl, ?_, fun _ => ev_var rfl⟩
        refine TsD.eq (ts_T (ev_eqI (ev_getR (ev_get1 (ev_var rfl) (ev_ixT (ev_var rfl) ev_int rfl)) (ev_var rfl) (j := 0) rfl hl) (ev_ixT (ev_var rfl) ev_int rfl))) ?_
        show decide (y.2 = s.2) = decide _
        rw [hl]
        simp
def c_next_side : Cp := fun ds Ψ => ∃ (n : Net) (s : Wall), ds = [.ab (linksM n), .py (dW s)] ∧ (NetL n ∧ isSide n s) ∧ Ψ (.py (dW (nextF n s)))
theorem sc_next_side : FnScope ["links", "side", "way", "b", "turn"] ["links", "side"] (defScope s_next_side) := ⟨rfl, rfl, rfl, by decide +kernel, rfl, by decide +kernel, by decide +kernel⟩
theorem okv_next_side : okL ["side", "links", "way", "b", "turn"] (defScope s_next_side) = true := by decide +kernel
theorem okg_next_side : okG ["way_of"] (defScope s_next_side) = true := by decide +kernel
theorem ok_next_side (T : Tx K mg C) (F : Df K mg "next_side" s_next_side ["links", "side"]) (g_way_of : Fn P w K mg base CX0 "way_of" 1 ["links", "side"] (spP c_way_of)) : Fn P w K mg base CX0 "next_side" 2 ["links", "side"] (spP c_next_side) :=
  have nd := sc_next_side.nd
  fn_mk F sc_next_side (by first | (rintro ds Ω Ψ ⟨_, _, rfl, _⟩; rfl) | (rintro ds Ω Ψ ⟨_, _, _, rfl, _⟩; rfl) | (rintro ds Ω Ψ ⟨_, _, _, _, rfl, _⟩; rfl) | (rintro ds Ω Ψ ⟨_, _, _, _, _, rfl, _⟩; rfl) | (rintro ds Ω Ψ ⟨_, _, _, _, _, _, rfl, _⟩; rfl)) fun f cdv A outer s H E hr => by
    refine ⟨_, (pss_cons (ps_asg (pe_fn g_way_of hr (by decide) (pa_cons (pvA okv_next_side 0 1) (pa_cons (pvA okv_next_side 1 0) pa_nil)) (hg := glA okg_next_side 0)) (gnA okv_next_side nd 2 2)) (pss_cons (ps_asg (pe_ix (ixt K) (pvA okv_next_side 1 0) pe_int (fun _ _ => rfl)) (gnA okv_next_side nd 3 3)) (pss_cons (ps_for PassesOwn.never rfl (pi_tup (pe_tup (pa_cons pe_int (pa_cons pe_int (pa_cons pe_int (pa_cons pe_int pa_nil)))))) (gnA okv_next_side nd 4 4) (pss_one (ps_if (pt_cmp (pc_din (hu_of hr) (pe_op op_mod (pe_op op_add (pvA okv_next_side 2 2) (pvA okv_next_side 4 4)) pe_int) (pe_dget (hu_of hr) (pvA okv_next_side 0 1) (pvA okv_next_side 3 3) (fun _ _ => rfl))) rfl) (pss_one (ps_ret (pe_tup (pa_cons (pvA okv_next_side 3 3) (pa_cons (pe_dget (hu_of hr) (pe_dget (hu_of hr) (pvA okv_next_side 0 1) (pvA okv_next_side 3 3) (fun _ _ => rfl)) (pe_op op_mod (pe_op op_add (pvA okv_next_side 2 2) (pvA okv_next_side 4 4)) pe_int) (fun _ _ => rfl)) pa_nil))))) pss_nil))) (pss_one (ps_ret (pe_tup (pa_cons (pvA okv_next_side 3 3) (pa_cons (pe_ix (ixt K) (pvA okv_next_side 1 0) pe_int (fun _ _ => rfl)) pa_nil)))))))), ?_⟩
    rintro ds Ω Ψ ⟨rfl, n, s, rfl, ⟨hn, hs⟩, q⟩
    obtain ⟨k1, k2⟩ := hn.side_keys hs
    refine sw_seq (sw_set (ev_fn (ar_cons (ev_var rfl) (ar_cons (ev_var rfl) ar_nil)) fun Ψ q => ⟨n, s, rfl, ⟨hn, hs⟩, q⟩) ?_)
    refine sw_seq (sw_set (ev_ixT (ev_var rfl) ev_int rfl) ?_)
    refine sw_seq (sw_forT (ds := [.int 1, .int 0, .int 3, .int 2]) (ev_tup (ds := [_, _, _, _]) (ar_cons ev_int (ar_cons ev_int (ar_cons ev_int (ar_cons ev_int ar_nil))))) (fun k Γ Ω => ∃ x, Γ = [some (.ab (linksM n)), some (.py (dW s)), some (I (wayF (spot n s.1) (spot n s.2))), some (I s.2), x] ∧ Ω = [] ∧ nextF n s = turnsF n s ([1, 0, 3, 2].drop k)) ⟨_, rfl, rfl, rfl⟩ (fun k d Γ' Ω' hd j => ?_) fun Γ' Ω' j => ?_)
    · obtain ⟨x, rfl, rfl, ht⟩ := j
      have hd' : ∃ t, ([1, 0, 3, 2] : List Int)[k]? = some t ∧ d = .int t := by
        have : ([.int 1, .int 0, .int 3, .int 2] : List PyData) = ([1, 0, 3, 2] : List Int).map PyData.int := rfl
        rw [this, List.getElem?_map] at hd
        cases e : ([1, 0, 3, 2] : List Int)[k]? with
        | none => rw [e] at hd; cases hd
        | some t => rw [e] at hd; cases hd; exact ⟨t, rfl, rfl⟩
      obtain ⟨t, e, rfl⟩ := hd'
      have ed : ([1, 0, 3, 2] : List Int).drop k = t :: ([1, 0, 3, 2] : List Int).drop (k + 1) := by
        obtain ⟨h1, h2⟩ := List.getElem?_eq_some_iff.mp e
        rw [← h2, List.getElem_cons_drop h1]
      rw [ed] at ht
      unfold turnsF at ht
      refine tg_name (sw_if (ts_B (ev_din (ev_iC (ev_i0 (ev_var rfl) (ev_var rfl)) ev_int (by decide)) (ev_link (ev_var rfl) (ev_var rfl) k2))) (fun hb => ?_) fun hb => sw_next ?_)
      · rw [nbr_look] at hb
        cases hl : (nbrs n s.2).lookup ((wayF (spot n s.1) (spot n s.2) + t) % 4) with
        | none => rw [hl] at hb; cases hb
        | some v =>
          rw [hl] at ht
          refine sw_ret (ev_tup (ds := [.int s.2, .int v]) (ar_cons (ev_var rfl) (ar_cons (ev_dget (ev_link (ev_var rfl) (ev_var rfl) k2) (ev_iC (ev_i0 (ev_var rfl) (ev_var rfl)) ev_int (by decide)) (d := I v) (by rw [nbr_look, hl]; rfl)) ar_nil))) ?_
          rw [ht] at q
          exact q
      · rw [nbr_look] at hb
        cases hl : (nbrs n s.2).lookup ((wayF (spot n s.1) (spot n s.2) + t) % 4) with
        | some v => rw [hl] at hb; cases hb
        | none => rw [hl] at ht; exact ⟨_, rfl, rfl, ht⟩
    · obtain ⟨x, rfl, rfl, ht⟩ := j
      have ht' : nextF n s = (s.2, s.1) := ht
      rw [ht'] at q
      exact sw_ret (ev_tup (ds := [_, _]) (ar_cons (ev_var rfl) (ar_cons (ev_ixT (ev_var rfl) ev_int rfl) ar_nil))) q
end
end My
end

section
set_option Elab.async false
set_option linter.all false
set_option maxRecDepth 100000
set_option maxHeartbeats 4000000
namespace My
open PySem L2 G
open PySem.W (alike)
open PyProof.Rows (envOfC)
section
variable {P : Program} {w : World} {K : PySem.W.Frag} {mg : Str → Option Value} {base : Heap} {C : Addr}
theorem sw_aug {Γ : En} {Ω : Om} {te : TE} {Φ : Po} {i : Nat} {f : Int → Int → Int} {a b : Int} (hi : Γ[i]? = some (some (I a))) (h : EvD te Γ Ω (I b)) (q : Φ.nx (Γ.set i (some (I (f a b)))) Ω) : SW (tAug i te (ipI f)) Γ Ω Φ := fun σ H0 H W s g r => by
  obtain ⟨v, hv, rv⟩ := s.at_ i _ hi
  cases rv
  refine ⟨.int a, hv, h.bind s g fun u H01 H1 s1 g1 c1 r1 => ?_⟩
  cases r1
  exact ⟨a, b, rfl, rfl, r.nx _ _ Ω H01 H1 q (s1.set i (Rp.int _)) g1 c1⟩
/-- an object of one's own is let go -/
theorem sw_dropO {Γ : En} {Ω : Om} {t : TS} {Φ : Po} {j : Nat} {p : Addr} {w : Own} (hj : Ω[j]? = some (p, w)) (q : SW t Γ (Ω.eraseIdx j) Φ) : SW t Γ Ω Φ := fun σ H0 H W s g r => by
  obtain ⟨_, o, hp, _⟩ := g.get hj
  obtain ⟨g1, c1⟩ := g.freeze hj hp
  exact q σ _ H W (s.mono c1.ex) g1 (r.step c1 g1.ex)
def c_sides_of : Cp := fun ds Ψ => ∃ n : Net, ds = [.py (dNet n)] ∧ NetR n ∧ Ψ (.py (.list ((sidesF n).map dW)))
theorem sc_sides_of : FnScope ["net", "a", "b"] ["net"] (defScope s_sides_of) := ⟨rfl, rfl, rfl, by decide +kernel, rfl, by decide +kernel, by decide +kernel⟩
theorem okv_sides_of : okL ["net"] (defScope s_sides_of) = true := by decide +kernel
theorem okg_sides_of : okG ["list", "sorted"] (defScope s_sides_of) = true := by decide +kernel
theorem ok_sides_of (T : Tx K mg C) (F : Df K mg "sides_of" s_sides_of ["net"])  : Fn P w K mg base CX0 "sides_of" 1 ["net"] (spP c_sides_of) :=
  have nd := sc_sides_of.nd
  fn_mk F sc_sides_of (by first | (rintro ds Ω Ψ ⟨_, _, rfl, _⟩; rfl) | (rintro ds Ω Ψ ⟨_, _, _, rfl, _⟩; rfl) | (rintro ds Ω Ψ ⟨_, _, _, _, rfl, _⟩; rfl) | (rintro ds Ω Ψ ⟨_, _, _, _, _, rfl, _⟩; rfl) | (rintro ds Ω Ψ ⟨_, _, _, _, _, _, rfl, _⟩; rfl)) fun f cdv A outer s H E hr => by
    refine ⟨_, (pss_one (ps_ret (pb_sorted T.b hr (pa_cons (pe_op op_cat (pb_list T.b (pa_cons (pe_ix (ixt K) (pvA okv_sides_of 0 0) pe_int (fun _ _ => rfl)) pa_nil) (hg := glA okg_sides_of 0)) (pe_lc (own := [("a", 1), ("b", 2)]) rfl nd (pi_tup (pe_ix (ixt K) (pvA okv_sides_of 0 0) pe_int (fun _ _ => rfl))) (blkOk_by (own := [("a", 1), ("b", 2)]) (N := ["net", "a", "b"]) (sc := defScope s_sides_of) (by decide +kernel)) (fun _ _ _ _ _ => (pgt K (n := 2) rfl (pgs_cons (gn nd 1) (pgs_cons (gn nd 2) pgs_nil)))) (fun _ _ _ _ _ => pts_nil) (fun _ _ _ _ _ => (pe_tup (pa_cons (pv 2) (pa_cons (pv 1) pa_nil)))))) pa_nil) (hg := glA okg_sides_of 1)))), ?_⟩
    rintro ds Ω Ψ ⟨rfl, n, rfl, hn, q⟩
    have hz := hn.fewW
    have e1 : D.py (.list (n.2.map dW ++ (n.2.filter fun _ => true).map (fun w => dW (w.2, w.1)))) = .py (.list ((n.2 ++ n.2.map fun w => (w.2, w.1)).map dW)) := by
      rw [fil_true, List.map_append, List.map_map]; rfl
    refine sw_ret (ev_srtE dW (PySem.W.dataLe false dW) (bs := n.2 ++ n.2.map fun w => (w.2, w.1)) ((ev_catL (ev_listT (ev_ixT (ev_var rfl) ev_int rfl)) (ev_lcT n.2 dW (fun _ => true) (fun w => dW (w.2, w.1)) (ev_ixT (ev_var rfl) ev_int rfl) (to_tup (tos_cons (h2 := (tos_cons (h2 := tos_nil))))) (by omega) fun a ha => (tg_tup rfl (tgs_cons (tg_name (tgs_cons (tg_name (tgs_nil ⟨rfl, ts_yes, fun _ => (ev_tup (ds := [_, _]) (ar_cons (ev_var rfl) (ar_cons (ev_var rfl) ar_nil)))⟩))))))) (by rw [List.length_map, List.length_map, fil_true]; omega)).is e1) (fun a _ b _ => rfl) (fun a _ => ⟨_, _, rfl⟩) (fun a _ => Nat.le_of_ble_eq_true rfl) ?_ (fun a _ b _ => rfl)) q
    rw [List.length_append, List.length_map]; omega
def c_sides_of_ring : Cp := fun ds Ψ => ∃ r : List Int, ds = [.py (.tuple (r.map PyData.int))] ∧ r.length < 100000 ∧ Ψ (.py (.list ((sidesR r).map dW)))
theorem atI_map {l : List Int} {i : Int} {k : Nat} (hi : i = (k : Int)) (hk : k < l.length) : atI (l.map PyData.int) i = some (.int (l.getD k 0)) := by
  subst hi
  rw [atI_nat (by rw [List.length_map]; exact hk), List.getElem?_map, List.getElem?_eq_getElem hk]
  simp [List.getD, hk]
theorem sc_sides_of_ring : FnScope ["ring", "k"] ["ring"] (defScope s_sides_of_ring) := ⟨rfl, rfl, rfl, by decide +kernel, rfl, by decide +kernel, by decide +kernel⟩
theorem okg_sides_of_ring : okG ["len", "range"] (defScope s_sides_of_ring) = true := by decide +kernel
theorem ok_sides_of_ring (T : Tx K mg C) (F : Df K mg "sides_of_ring" s_sides_of_ring ["ring"])  : Fn P w K mg base CX0 "sides_of_ring" 1 ["ring"] (spP c_sides_of_ring) :=
  have nd := sc_sides_of_ring.nd
  fn_mk F sc_sides_of_ring (by first | (rintro ds Ω Ψ ⟨_, _, rfl, _⟩; rfl) | (rintro ds Ω Ψ ⟨_, _, _, rfl, _⟩; rfl) | (rintro ds Ω Ψ ⟨_, _, _, _, rfl, _⟩; rfl) | (rintro ds Ω Ψ ⟨_, _, _, _, _, rfl, _⟩; rfl) | (rintro ds Ω Ψ ⟨_, _, _, _, _, _, rfl, _⟩; rfl)) fun f cdv A outer s H E hr => by
    refine ⟨_, (pss_one (ps_ret (pe_lc (own := [("k", 1)]) rfl nd (pi_range1 (glA okg_sides_of_ring 1) T.b.range (pa_cons (kb_len K T.b (pa_cons (pv 0) pa_nil) (hg := glA okg_sides_of_ring 0)) pa_nil)) (blkOk_by (own := [("k", 1)]) (N := ["ring", "k"]) (sc := defScope s_sides_of_ring) (by decide +kernel)) (fun _ _ _ _ _ => (gn nd 1)) (fun _ _ _ _ _ => pts_nil) (fun _ _ _ _ _ => (pe_tup (pa_cons (pe_ix (ixt K) (pv 0) (pv 1) (fun _ _ => rfl)) (pa_cons (pe_ix (ixt K) (pv 0) (pe_op op_mod (pe_op op_add (pv 1) pe_int) (kb_len K T.b (pa_cons (pv 0) pa_nil))) (fun _ _ => rfl)) pa_nil))))))), ?_⟩
    rintro ds Ω Ψ ⟨rfl, r, rfl, hz, q⟩
    have hl : I ((r.map PyData.int).length : Int) = I ((r.length : Nat) : Int) := by rw [List.length_map]
    refine sw_ret ((ev_lcR (α := Int) r.length (fun _ => true) (fun k => dW (r.getD k 0, r.getD ((k + 1) % r.length) 0)) (ar_cons ((ev_lenT (ev_var rfl)).eq hl) ar_nil) (to_name) hz fun a ha => tg_name ⟨rfl, ts_yes, fun _ => (ev_tup (ds := [_, _]) (ar_cons (ev_ixT (ev_var rfl) (ev_var rfl) (atI_map rfl ha)) (ar_cons (ev_ixT (ev_var rfl) (ev_iC (ev_i0 (ev_var rfl) ev_int) (ev_lenT (ev_var rfl)) ?_) (atI_map (k := (a + 1) % r.length) ?_ ?_)) ar_nil)))⟩).is ?_) q
    · rw [List.length_map]; omega
    · rw [List.length_map]; simp
    · exact Nat.mod_lt _ (by omega)
    · rw [fil_true]; unfold sidesR; rw [List.map_map]; rfl
def c_ring_from : Cp := fun ds Ψ => ∃ (n : Net) (s : Wall), ds = [.ab (linksM n), .py (dW s)] ∧ (NetC n ∧ isSide n s) ∧ Ψ (.py (.tuple ((ringF n s).map PyData.int)))
theorem sc_ring_from : FnScope ["links", "side", "found", "here"] ["links", "side"] (defScope s_ring_from) := ⟨rfl, rfl, rfl, by decide +kernel, rfl, by decide +kernel, by decide +kernel⟩
theorem okv_ring_from : okL ["side", "found", "links", "here"] (defScope s_ring_from) = true := by decide +kernel
theorem okg_ring_from : okG ["next_side", "tuple"] (defScope s_ring_from) = true := by decide +kernel
theorem ok_ring_from (T : Tx K mg C) (F : Df K mg "ring_from" s_ring_from ["links", "side"]) (g_next_side : Fn P w K mg base CX0 "next_side" 2 ["links", "side"] (spP c_next_side)) : Fn P w K mg base CX0 "ring_from" 3 ["links", "side"] (spP c_ring_from) :=
  have nd := sc_ring_from.nd
  fn_mk F sc_ring_from (by first | (rintro ds Ω Ψ ⟨_, _, rfl, _⟩; rfl) | (rintro ds Ω Ψ ⟨_, _, _, rfl, _⟩; rfl) | (rintro ds Ω Ψ ⟨_, _, _, _, rfl, _⟩; rfl) | (rintro ds Ω Ψ ⟨_, _, _, _, _, rfl, _⟩; rfl) | (rintro ds Ω Ψ ⟨_, _, _, _, _, _, rfl, _⟩; rfl)) fun f cdv A outer s H E hr => by
    refine ⟨_, (pss_cons (ps_asg (pe_lst (pa_cons (pe_ix (ixt K) (pvA okv_ring_from 1 0) pe_int (fun _ _ => rfl)) pa_nil)) (gnA okv_ring_from nd 2 1)) (pss_cons (ps_asg (pe_fn g_next_side hr (by decide) (pa_cons (pvA okv_ring_from 0 2) (pa_cons (pvA okv_ring_from 1 0) pa_nil)) (hg := glA okg_ring_from 0)) (gnA okv_ring_from nd 3 3)) (pss_cons (ps_while PassesOwn.never (pt_cmpR (opn K hr.units) (pvA okv_ring_from 3 3) (pvA okv_ring_from 1 0) (nomark _)) (pss_cons (ps_expr (pe_bm PySem.F.plainAttrs_list PySem.F.slot_list_append PySem.F.type_list_append mt_append (pvA okv_ring_from 2 1) (pa_cons (pe_ix (ixt K) (pvA okv_ring_from 3 3) pe_int (fun _ _ => rfl)) pa_nil))) (pss_one (ps_asg (pe_fn g_next_side hr (by decide) (pa_cons (pvA okv_ring_from 0 2) (pa_cons (pvA okv_ring_from 3 3) pa_nil)) (hg := glA okg_ring_from 0)) (gnA okv_ring_from nd 3 3))))) (pss_one (ps_ret (pb_tuple T.b (pa_cons (pvA okv_ring_from 2 1) pa_nil) (hg := glA okg_ring_from 1))))))), ?_⟩
    rintro ds Ω Ψ ⟨rfl, n, s, rfl, ⟨hn, hs⟩, q⟩
    refine sw_seq (sw_setW (ev_ownL (ar_cons (ev_ixT (ev_var rfl) ev_int rfl) ar_nil) (by simp) fun p => ?_))
    refine sw_seq (sw_set (ev_fn (ar_cons (ev_var rfl) (ar_cons (ev_var rfl) ar_nil)) fun Ψ q => ⟨n, s, rfl, ⟨hn.toNetL, hs⟩, q⟩) ?_)
    obtain ⟨k0, hk0, hcyc⟩ := hn.cyc s hs
    have hz := hn.fewW
    refine sw_seq (sw_while (fun m Γ Ω => ∃ (h : Wall) (acc : List Int), isSide n h ∧ (∃ k, k < m ∧ iterF n k h = s) ∧ acc.length + m ≤ 2 * n.2.length + 1 ∧ ringF n s = acc ++ (runF n s m h).map (·.1) ∧
      Γ = [some (.ab (linksM n)), some (.py (dW s)), some (.loc p), some (.py (dW h))] ∧ Ω = [(p, .lst (acc.map fun i => D.py (.int i)))]) (2 * n.2.length) ⟨nextF n s, [s.1], next_side hs, ⟨k0, hk0, hcyc⟩, by simp; omega, rfl, rfl, rfl⟩ ?_)
    rintro m Γ' Ω' ⟨h, acc, hh, ⟨k, hk, hit⟩, hlen, hring, rfl, rfl⟩
    refine TsD.w (ts_T (ev_neD (ev_var rfl) (ev_var rfl) (shp_pair _ _) (shp_pair _ _))) ?_
    rw [eqv_pair]
    obtain ⟨m, rfl⟩ : ∃ m', m = m' + 1 := ⟨m - 1, by omega⟩
    unfold runF at hring
    by_cases e : h = s
    · rw [if_pos e] at hring
      rw [decide_eq_true (show (h.1, h.2) = (s.1, s.2) from e)]
      show SW _ _ _ _
      refine sw_frz (i := 2) (j := 0) (ds := acc.map PyData.int) rfl (by rw [List.map_map]; rfl) ?_
      refine sw_ret (ev_tuple (ev_var rfl)) ?_
      rw [show ringF n s = acc by simpa using hring] at q
      exact q
    · rw [if_neg e] at hring
      rw [decide_eq_false (show ¬ (h.1, h.2) = (s.1, s.2) from e)]
      show SW _ _ _ _
      refine sw_seq (sw_app (ev_var rfl) (ev_ixT (ev_var rfl) ev_int rfl) (j := 0) rfl (by rw [List.length_map]; omega) ?_)
      refine sw_set (ev_fn (ar_cons (ev_var rfl) (ar_cons (ev_var rfl) ar_nil)) fun Ψ q => ⟨n, h, rfl, ⟨hn.toNetL, hh⟩, q⟩) ?_
      obtain ⟨k, rfl⟩ : ∃ k', k = k' + 1 := ⟨k - 1, by
        cases k with
        | zero => exact (e hit).elim
        | succ k => rfl⟩
      refine ⟨m, by omega, nextF n h, acc ++ [h.1], next_side hh, ⟨k, by omega, hit⟩, by simp; omega, by rw [hring]; simp, rfl, ?_⟩
      simp
theorem seen_put {seen : List Wall} {s : Wall} : putD (seen.map fun s => (pairK s, B true)) (pairK s) (B true) = (seenPut seen s).map fun s => (pairK s, B true) := by
  unfold putD seenPut
  have e : ((seen.map fun s => (pairK s, B true)).any fun kv => decide (kv.1 = pairK s)) = decide (s ∈ seen) := by
    rw [Bool.eq_iff_iff, List.any_eq_true]
    constructor
    · rintro ⟨q, hq, e⟩
      obtain ⟨x, hx, rfl⟩ := List.mem_map.mp hq
      rw [pairK_inj _ _ (of_decide_eq_true e)] at hx
      exact decide_eq_true hx
    · intro h
      exact ⟨_, List.mem_map_of_mem (of_decide_eq_true h), decide_eq_true rfl⟩
  rw [e]
  by_cases h : s ∈ seen
  · rw [if_pos (decide_eq_true h), if_pos h, List.map_map]
    refine List.map_congr_left fun x _ => ?_
    show (if pairK x = pairK s then (pairK x, B true) else (pairK x, B true)) = _
    split <;> rfl
  · rw [if_neg (by simpa using h), if_neg h, List.map_append]; rfl
theorem seen_has {seen : List Wall} {s : Wall} : hasT (seen.map fun s => (pairK s, B true)) (pairK s) = decide (s ∈ seen) := by
  rw [Bool.eq_iff_iff, hasT_iff, List.map_map, decide_eq_true_iff]
  constructor
  · intro h
    obtain ⟨x, hx, e⟩ := List.mem_map.mp h
    rw [← pairK_inj _ _ (show pairK x = pairK s from e)]; exact hx
  · intro h
    exact List.mem_map.mpr ⟨s, h, rfl⟩
abbrev dRing (r : List Int) : PyData := .tuple (r.map PyData.int)
def c_rings : Cp := fun ds Ψ => ∃ n : Net, ds = [.py (dNet n)] ∧ NetC n ∧ Ψ (.py (.tuple ((ringsF n).map dRing)))
theorem sc_rings : FnScope ["net", "links", "seen", "found", "side", "ring", "one"] ["net"] (defScope s_rings) := ⟨rfl, rfl, rfl, by decide +kernel, rfl, by decide +kernel, by decide +kernel⟩
theorem okv_rings : okL ["net", "links", "seen", "found", "side", "ring", "one"] (defScope s_rings) = true := by decide +kernel
theorem okg_rings : okG ["links_of", "sides_of", "ring_from", "sides_of_ring", "tuple"] (defScope s_rings) = true := by decide +kernel
theorem ok_rings (T : Tx K mg C) (F : Df K mg "rings" s_rings ["net"]) (g_links_of : Fn P w K mg base CX0 "links_of" 2 ["net"] (spP c_links_of)) (g_ring_from : Fn P w K mg base CX0 "ring_from" 3 ["links", "side"] (spP c_ring_from)) (g_sides_of : Fn P w K mg base CX0 "sides_of" 1 ["net"] (spP c_sides_of)) (g_sides_of_ring : Fn P w K mg base CX0 "sides_of_ring" 1 ["ring"] (spP c_sides_of_ring)) : Fn P w K mg base CX0 "rings" 4 ["net"] (spP c_rings) :=
  have nd := sc_rings.nd
  fn_mk F sc_rings (by first | (rintro ds Ω Ψ ⟨_, _, rfl, _⟩; rfl) | (rintro ds Ω Ψ ⟨_, _, _, rfl, _⟩; rfl) | (rintro ds Ω Ψ ⟨_, _, _, _, rfl, _⟩; rfl) | (rintro ds Ω Ψ ⟨_, _, _, _, _, rfl, _⟩; rfl) | (rintro ds Ω Ψ ⟨_, _, _, _, _, _, rfl, _⟩; rfl)) fun f cdv A outer s H E hr => by
    refine ⟨_, (pss_cons (ps_asg (pe_fn g_links_of hr (by decide) (pa_cons (pvA okv_rings 0 0) pa_nil) (hg := glA okg_rings 0)) (gnA okv_rings nd 1 1)) (pss_cons (ps_asg pe_dnewT (gnA okv_rings nd 2 2)) (pss_cons (ps_asg (pe_lst pa_nil) (gnA okv_rings nd 3 3)) (pss_cons (ps_for PassesOwn.never rfl (pi_list (pe_fn g_sides_of hr (by decide) (pa_cons (pvA okv_rings 0 0) pa_nil) (hg := glA okg_rings 1))) (gnA okv_rings nd 4 4) (pss_one (ps_if (pt_cmp (pc_dnotin (hu_of hr) (pvA okv_rings 4 4) (pvA okv_rings 2 2)) rfl) (pss_cons (ps_asg (pe_fn g_ring_from hr (by decide) (pa_cons (pvA okv_rings 1 1) (pa_cons (pvA okv_rings 4 4) pa_nil)) (hg := glA okg_rings 2)) (gnA okv_rings nd 5 5)) (pss_cons (ps_for PassesOwn.never rfl (pi_list (pe_fn g_sides_of_ring hr (by decide) (pa_cons (pvA okv_rings 5 5) pa_nil) (hg := glA okg_rings 3))) (gnA okv_rings nd 6 6) (pss_one (ps_dput (hu_of hr) (pvA okv_rings 2 2) (pvA okv_rings 6 6) pe_bl rfl))) (pss_one (ps_expr (pe_bm PySem.F.plainAttrs_list PySem.F.slot_list_append PySem.F.type_list_append mt_append (pvA okv_rings 3 3) (pa_cons (pvA okv_rings 5 5) pa_nil)))))) pss_nil))) (pss_one (ps_ret (pb_tuple T.b (pa_cons (pvA okv_rings 3 3) pa_nil) (hg := glA okg_rings 4)))))))), ?_⟩
    rintro ds Ω Ψ ⟨rfl, n, rfl, hn, q⟩
    have few := hn.few2
    have slen : (sidesF n).length = 2 * n.2.length := by unfold sidesF; rw [List.length_mergeSort, List.length_append, List.length_map]; omega
    have bnd : ∀ k, ((((sidesF n).take k).foldl (ringsStep n) ([], [])).1.length ≤ 40200) ∧ (((sidesF n).take k).foldl (ringsStep n) ([], [])).2.length ≤ 200 := by
      intro k
      obtain ⟨h1, h2⟩ := rings_len (n := n) ((sidesF n).take k)
      have h3 : ((sidesF n).take k).length ≤ 200 := by rw [List.length_take]; omega
      have : ((sidesF n).take k).length * (2 * n.2.length + 1) ≤ 200 * 201 := Nat.mul_le_mul h3 (by omega)
      omega
    refine sw_seq (sw_set (ev_fn (ar_cons (ev_var rfl) ar_nil) fun Ψ q => ⟨n, rfl, hn.toNetL, q⟩) ?_)
    refine sw_seq (sw_setW (ev_ownT fun p => ?_))
    refine sw_seq (sw_setW (ev_own0 fun pf => ?_))
    refine sw_seq (sw_forL (ev_fn (ar_cons (ev_var rfl) ar_nil) fun Ψ q => ⟨n, rfl, hn.toNetR, q⟩) (fun k Γ Ω => ∃ x y z st, st = ((sidesF n).take k).foldl (ringsStep n) ([], []) ∧ Γ = [some (.py (dNet n)), some (.ab (linksM n)), some (.loc p), some (.loc pf), x, y, z] ∧
      Ω = [(p, .dt (st.1.map fun s => (pairK s, B true))), (pf, .lst (st.2.map fun r => .py (dRing r)))]) ⟨_, _, _, _, rfl, rfl, rfl⟩ (fun k d Γ' Ω' hd j => ?_) fun Γ' Ω' j => ?_)
    · obtain ⟨x, y, z, st, hst, rfl, rfl⟩ := j
      rw [List.getElem?_map] at hd
      cases e : (sidesF n)[k]? with
      | none => rw [e] at hd; cases hd
      | some s =>
        rw [e] at hd
        cases hd
        have hs : isSide n s := mem_sides.mp (List.mem_of_getElem? e)
        have hnext : ((sidesF n).take (k + 1)).foldl (ringsStep n) ([], []) = ringsStep n st s := by rw [take_next e, List.foldl_append, hst]; rfl
        have hb1 := bnd k
        have hb2 := bnd (k + 1)
        rw [← hst] at hb1
        rw [hnext] at hb2
        refine tg_name (sw_if (ts_B (ev_dntT (ev_var rfl) (ev_var rfl) (j := 0) rfl)) (fun hb => ?_) fun hb => sw_next ?_)
        · rw [seen_has] at hb
          have hs0 : s ∉ st.1 := by simpa using hb
          have hstep : ringsStep n st s = ((sidesR (ringF n s)).foldl seenPut st.1, st.2 ++ [ringF n s]) := by unfold ringsStep; rw [if_neg hs0]
          have hrl : (ringF n s).length ≤ 201 := by have := @ring_len n s; omega
          refine sw_seq (sw_set (ev_fn (ar_cons (ev_var rfl) (ar_cons (ev_var rfl) ar_nil)) fun Ψ q => ⟨n, s, rfl, ⟨hn, hs⟩, q⟩) ?_)
          refine sw_seq (sw_forL (ev_fn (ar_cons (ev_var rfl) ar_nil) fun Ψ q => ⟨_, rfl, by omega, q⟩) (fun i Γ Ω => ∃ z, Γ = [some (.py (dNet n)), some (.ab (linksM n)), some (.loc p), some (.loc pf), some (.py (dW s)), some (.py (dRing (ringF n s))), z] ∧
            Ω = [(p, .dt ((((sidesR (ringF n s)).take i).foldl seenPut st.1).map fun s => (pairK s, B true))), (pf, .lst (st.2.map fun r => .py (dRing r)))]) ⟨_, rfl, rfl⟩ (fun i d Γ' Ω' hd j => ?_) fun Γ' Ω' j => ?_)
          · obtain ⟨z, rfl, rfl⟩ := j
            rw [List.getElem?_map] at hd
            cases e2 : (sidesR (ringF n s))[i]? with
            | none => rw [e2] at hd; cases hd
            | some o =>
              rw [e2] at hd
              cases hd
              refine tg_name (sw_putT ev_bl (ev_var rfl) (ev_var rfl) (j := 0) rfl ?_ ?_)
              · rw [List.length_map]
                have := @seen_len ((sidesR (ringF n s)).take i) st.1
                have : ((sidesR (ringF n s)).take i).length ≤ 201 := by rw [List.length_take, sidesR_len]; omega
                omega
              · refine ⟨_, rfl, ?_⟩
                rw [take_next e2, List.foldl_append]
                show [(p, Own.dt (putD _ (pairK o) (B true))), _] = _
                rw [seen_put]; rfl
          · obtain ⟨z, rfl, rfl⟩ := j
            rw [List.length_map, List.take_length]
            refine sw_app (ev_var rfl) (ev_var rfl) (j := 1) rfl (by rw [List.length_map]; omega) ?_
            refine ⟨_, _, _, _, rfl, rfl, ?_⟩
            rw [hnext, hstep, List.map_append]; rfl
        · rw [seen_has] at hb
          have hs0 : s ∈ st.1 := by simpa using hb
          have hstep : ringsStep n st s = st := by unfold ringsStep; rw [if_pos hs0]
          exact ⟨_, _, _, _, rfl, rfl, by rw [hnext, hstep]⟩
    · obtain ⟨x, y, z, st, hst, rfl, rfl⟩ := j
      rw [List.length_map, List.take_length] at hst
      refine sw_dropO (j := 0) rfl (sw_frz (i := 3) (j := 0) (ds := st.2.map dRing) rfl (by rw [List.map_map]; rfl) ?_)
      refine sw_ret (ev_tuple (ev_var rfl)) ?_
      have : ringsF n = st.2 := by unfold ringsF; rw [hst]
      rw [this] at q
      exact q
def c_area_of : Cp := fun ds Ψ => ∃ (n : Net) (r : List Int), ds = [.py (dNet n), .py (dRing r)] ∧ (NetL n ∧ r.length < 1000 ∧ ∀ c ∈ r, c ∈ keys n) ∧ Ψ (I (areaF n r))
theorem sc_area_of : FnScope ["net", "ring", "spots", "total", "a", "b"] ["net", "ring"] (defScope s_area_of) := ⟨rfl, rfl, rfl, by decide +kernel, rfl, by decide +kernel, by decide +kernel⟩
theorem okv_area_of : okL ["net", "spots", "total", "ring", "b", "a"] (defScope s_area_of) = true := by decide +kernel
theorem okg_area_of : okG ["spots_of", "sides_of_ring"] (defScope s_area_of) = true := by decide +kernel
theorem ok_area_of (T : Tx K mg C) (F : Df K mg "area_of" s_area_of ["net", "ring"]) (g_sides_of_ring : Fn P w K mg base CX0 "sides_of_ring" 1 ["ring"] (spP c_sides_of_ring)) (g_spots_of : Fn P w K mg base CX0 "spots_of" 1 ["net"] (spP c_spots_of)) : Fn P w K mg base CX0 "area_of" 2 ["net", "ring"] (spP c_area_of) :=
  have nd := sc_area_of.nd
  fn_mk F sc_area_of (by first | (rintro ds Ω Ψ ⟨_, _, rfl, _⟩; rfl) | (rintro ds Ω Ψ ⟨_, _, _, rfl, _⟩; rfl) | (rintro ds Ω Ψ ⟨_, _, _, _, rfl, _⟩; rfl) | (rintro ds Ω Ψ ⟨_, _, _, _, _, rfl, _⟩; rfl) | (rintro ds Ω Ψ ⟨_, _, _, _, _, _, rfl, _⟩; rfl)) fun f cdv A outer s H E hr => by
    refine ⟨_, (pss_cons (ps_asg (pe_fn g_spots_of hr (by decide) (pa_cons (pvA okv_area_of 0 0) pa_nil) (hg := glA okg_area_of 0)) (gnA okv_area_of nd 2 1)) (pss_cons (ps_asg pe_int (gnA okv_area_of nd 3 2)) (pss_cons (ps_for PassesOwn.never rfl (pi_list (pe_fn g_sides_of_ring hr (by decide) (pa_cons (pvA okv_area_of 1 3) pa_nil) (hg := glA okg_area_of 1))) (pgt K (n := 2) rfl (pgs_cons (gnA okv_area_of nd 4 5) (pgs_cons (gnA okv_area_of nd 5 4) pgs_nil))) (pss_one (ps_aug (i := 3) nd rfl (.inl rfl) (pe_op op_sub (pe_op op_mul (pe_ix (ixt K) (pe_dget (hu_of hr) (pvA okv_area_of 2 1) (pvA okv_area_of 4 5) (fun _ _ => rfl)) pe_int (fun _ _ => rfl)) (pe_ix (ixt K) (pe_dget (hu_of hr) (pvA okv_area_of 2 1) (pvA okv_area_of 5 4) (fun _ _ => rfl)) pe_int (fun _ _ => rfl))) (pe_op op_mul (pe_ix (ixt K) (pe_dget (hu_of hr) (pvA okv_area_of 2 1) (pvA okv_area_of 5 4) (fun _ _ => rfl)) pe_int (fun _ _ => rfl)) (pe_ix (ixt K) (pe_dget (hu_of hr) (pvA okv_area_of 2 1) (pvA okv_area_of 4 5) (fun _ _ => rfl)) pe_int (fun _ _ => rfl)))) ip_add))) (pss_one (ps_ret (pe_op op_fdiv (pvA okv_area_of 3 2) pe_int)))))), ?_⟩
    rintro ds Ω Ψ ⟨rfl, n, r, rfl, ⟨hn, hz, hr'⟩, q⟩
    have bx : ∀ c ∈ keys n, ∀ j : Int, CMul (spot n c).1 j := fun c hc j => .inl ⟨by have := (hn.box c hc).1; omega, by have := (hn.box c hc).2.1; omega⟩
    refine sw_seq (sw_set (ev_fn (ar_cons (ev_var rfl) ar_nil) fun Ψ q => ⟨n, rfl, hn.toNetR, q⟩) ?_)
    refine sw_seq (sw_set ev_int ?_)
    refine sw_seq (sw_forL (ev_fn (ar_cons (ev_var rfl) ar_nil) fun Ψ q => ⟨r, rfl, by omega, q⟩) (fun k Γ Ω => ∃ x y, Γ = [some (.py (dNet n)), some (.py (dRing r)), some (.ab (spotsM n)), some (I (((sidesR r).take k).foldl (fun t s => t + ((spot n s.1).1 * (spot n s.2).2 - (spot n s.2).1 * (spot n s.1).2)) 0)), x, y] ∧ Ω = []) ⟨_, _, rfl, rfl⟩ (fun k d Γ' Ω' hd j => ?_) fun Γ' Ω' j => ?_)
    · obtain ⟨x, y, rfl, rfl⟩ := j
      rw [List.getElem?_map] at hd
      cases e : (sidesR r)[k]? with
      | none => rw [e] at hd; cases hd
      | some s =>
        rw [e] at hd
        cases hd
        obtain ⟨m1, m2⟩ := sidesR_mem (List.mem_of_getElem? e)
        have k1 := hr' _ m1
        have k2 := hr' _ m2
        refine tg_tup rfl (tgs_cons (tg_name (tgs_cons (tg_name (tgs_nil ?_)))))
        refine sw_aug rfl (ev_i0 (ev_iC (ev_ixT (ev_spots (ev_var rfl) (ev_var rfl) k1) ev_int rfl) (ev_ixT (ev_spots (ev_var rfl) (ev_var rfl) k2) ev_int rfl) (bx _ k1 _)) (ev_iC (ev_ixT (ev_spots (ev_var rfl) (ev_var rfl) k2) ev_int rfl) (ev_ixT (ev_spots (ev_var rfl) (ev_var rfl) k1) ev_int rfl) (bx _ k2 _))) ?_
        exact ⟨_, _, by rw [take_next e, List.foldl_append]; rfl, rfl⟩
    · obtain ⟨x, y, rfl, rfl⟩ := j
      rw [List.length_map, List.take_length]
      exact sw_ret (ev_iC (ev_var rfl) ev_int ⟨by decide, by decide⟩) q
def dOw : Option Wall → PyData := dOpt dW
def c_wall_west : Cp := fun ds Ψ => ∃ (ls : List Line) (x y : Int), ds = [.py (.list (ls.map dLine)), I x, I y] ∧ Ψ (.py (dOw (westF ls x y)))
def dBest : Option (Int × Wall) → PyData := dOpt fun b => .tuple [.int b.1, dW b.2]
theorem sc_wall_west : FnScope ["lines", "x", "y", "best", "place", "low", "high", "a", "b"] ["lines", "x", "y"] (defScope s_wall_west) := ⟨rfl, rfl, rfl, by decide +kernel, rfl, by decide +kernel, by decide +kernel⟩
theorem okv_wall_west : okL ["best", "lines", "b", "a", "high", "low", "place", "x", "y"] (defScope s_wall_west) = true := by decide +kernel
theorem ok_wall_west (T : Tx K mg C) (F : Df K mg "wall_west" s_wall_west ["lines", "x", "y"])  : Fn P w K mg base CX0 "wall_west" 1 ["lines", "x", "y"] (spP c_wall_west) :=
  have nd := sc_wall_west.nd
  fn_mk F sc_wall_west (by first | (rintro ds Ω Ψ ⟨_, _, rfl, _⟩; rfl) | (rintro ds Ω Ψ ⟨_, _, _, rfl, _⟩; rfl) | (rintro ds Ω Ψ ⟨_, _, _, _, rfl, _⟩; rfl) | (rintro ds Ω Ψ ⟨_, _, _, _, _, rfl, _⟩; rfl) | (rintro ds Ω Ψ ⟨_, _, _, _, _, _, rfl, _⟩; rfl)) fun f cdv A outer s H E hr => by
    refine ⟨_, (pss_cons (ps_asg pe_non (gnA okv_wall_west nd 3 0)) (pss_cons (ps_for PassesOwn.never rfl (pi_list (pvA okv_wall_west 0 1)) (pgt K (n := 5) rfl (pgs_cons (gnA okv_wall_west nd 4 6) (pgs_cons (gnA okv_wall_west nd 5 5) (pgs_cons (gnA okv_wall_west nd 6 4) (pgs_cons (gnA okv_wall_west nd 7 3) (pgs_cons (gnA okv_wall_west nd 8 2) pgs_nil)))))) (pss_one (ps_if (PW.pt (pw_and (pt_cmpR op_le (pvA okv_wall_west 4 6) (pvA okv_wall_west 1 7) (nomark _)) (pw_and (pt_chain op_le op_lt (pvA okv_wall_west 5 5) (pvA okv_wall_west 2 8) (pvA okv_wall_west 6 4)) (pw_and1 (PW.pt (pw_or (pt_cmpR op_isn (pvA okv_wall_west 3 0) pe_non (nomark _)) (pw_or1 (pt_cmpR op_gt (pvA okv_wall_west 4 6) (pe_ix (ixt K) (pvA okv_wall_west 3 0) pe_int (fun _ _ => rfl)) (nomark _))))))))) (pss_one (ps_asg (pe_tup (pa_cons (pvA okv_wall_west 4 6) (pa_cons (pe_tup (pa_cons (pvA okv_wall_west 8 2) (pa_cons (pvA okv_wall_west 7 3) pa_nil))) pa_nil))) (gnA okv_wall_west nd 3 0))) pss_nil))) (pss_cons (ps_if (pt_cmpR op_isn (pvA okv_wall_west 3 0) pe_non (nomark _)) (pss_one (ps_ret pe_non)) pss_nil) (pss_one (ps_ret (pe_ix (ixt K) (pvA okv_wall_west 3 0) pe_int (fun _ _ => rfl))))))), ?_⟩
    rintro ds Ω Ψ ⟨rfl, ls, x, y, rfl, q⟩
    refine sw_seq (sw_set ev_non ?_)
    try simp only [startD, List.map_cons, List.map_nil, List.cons_append, List.nil_append, List.set_cons_zero, List.set_cons_succ, List.length_cons, List.length_nil, List.replicate_succ, List.replicate_zero, Nat.reduceSub, Nat.reduceAdd]
    refine sw_seq (sw_forL (ev_var rfl) (fun k Γ Ω => ∃ a b c d e, Γ = [some (.py (.list (ls.map dLine))), some (I x), some (I y), some (.py (dBest ((ls.take k).foldl (westStep x y) none))), a, b, c, d, e] ∧ Ω = []) ⟨_, _, _, _, _, rfl, rfl⟩ (fun k d Γ' Ω' hd j => ?_) fun Γ' Ω' j => ?_)
    · obtain ⟨a0, b0, c0, d0, e0, rfl, rfl⟩ := j
      rw [List.getElem?_map] at hd
      cases e : ls[k]? with
      | none => rw [e] at hd; cases hd
      | some l =>
        rw [e] at hd
        cases hd
        generalize hB : (ls.take k).foldl (westStep x y) none = best
        have hnext : (ls.take (k + 1)).foldl (westStep x y) none = westStep x y best l := by rw [take_next e, List.foldl_append, hB]; rfl
        rw [hnext]
        refine tg_tup rfl (tgs_cons (tg_name (tgs_cons (tg_name (tgs_cons (tg_name (tgs_cons (tg_name (tgs_cons (tg_name (tgs_nil ?_)))))))))))
        cases best with
        | none =>
          refine sw_if (ts_and (ts_T (ev_iB (ev_var rfl) (ev_var rfl))) fun _ => (ts_and (ts_T (ev_chain (ev_var rfl) (ev_var rfl) (ev_var rfl))) fun _ => (ts_or (b := true) (ts_T (ev_isN (ev_var rfl))) fun h => by cases h))) (fun hb => ?_) fun hb => sw_next ?_
          · refine sw_set (ev_tup (ds := [_, _]) (ar_cons (ev_var rfl) (ar_cons (ev_tup (ds := [_, _]) (ar_cons (ev_var rfl) (ar_cons (ev_var rfl) ar_nil))) ar_nil))) ⟨some (I l.1), some (I l.2.1), some (I l.2.2.1), some (I l.2.2.2.1), some (I l.2.2.2.2), ?_, rfl⟩
            have : westStep x y none l = some (l.1, (l.2.2.2.2, l.2.2.2.1)) := by
              unfold westStep
              simp at hb
              rw [if_pos ⟨hb.1, hb.2, fun b h => by cases h⟩]
            rw [this]; rfl
          · refine ⟨some (I l.1), some (I l.2.1), some (I l.2.2.1), some (I l.2.2.2.1), some (I l.2.2.2.2), ?_, rfl⟩
            have : westStep x y none l = none := by
              unfold westStep
              rw [if_neg]
              rintro ⟨h1, h2, _⟩
              simp [h1, h2] at hb
            rw [this]; rfl
        | some b =>
          refine sw_if (ts_and (ts_T (ev_iB (ev_var rfl) (ev_var rfl))) fun _ => (ts_and (ts_T (ev_chain (ev_var rfl) (ev_var rfl) (ev_var rfl))) fun _ => (ts_or (ts_T (ev_isN (ev_var rfl))) fun _ => (ts_T (ev_iB (ev_var rfl) (ev_ixT (ds := [.int b.1, dW b.2]) (ev_var rfl) ev_int rfl)))))) (fun hb => ?_) fun hb => sw_next ?_
          · refine sw_set (ev_tup (ds := [_, _]) (ar_cons (ev_var rfl) (ar_cons (ev_tup (ds := [_, _]) (ar_cons (ev_var rfl) (ar_cons (ev_var rfl) ar_nil))) ar_nil))) ⟨some (I l.1), some (I l.2.1), some (I l.2.2.1), some (I l.2.2.2.1), some (I l.2.2.2.2), ?_, rfl⟩
            have : westStep x y (some b) l = some (l.1, (l.2.2.2.2, l.2.2.2.1)) := by
              unfold westStep
              simp [dBest, dOpt, G.isNon] at hb
              rw [if_pos ⟨hb.1, hb.2.1, fun b' h => by cases h; exact hb.2.2⟩]
            rw [this]; rfl
          · refine ⟨some (I l.1), some (I l.2.1), some (I l.2.2.1), some (I l.2.2.2.1), some (I l.2.2.2.2), ?_, rfl⟩
            have : westStep x y (some b) l = some b := by
              unfold westStep
              rw [if_neg]
              rintro ⟨h1, h2, h3⟩
              have h4 := h3 b rfl
              simp [h1, h2, h4] at hb
            rw [this]; rfl
    · obtain ⟨a0, b0, c0, d0, e0, rfl, rfl⟩ := j
      rw [List.length_map, List.take_length]
      unfold westF at q
      generalize ls.foldl (westStep x y) none = best at q
      cases best with
      | none => exact sw_seq (sw_if (ts_T (ev_isN (ev_var rfl))) (fun hb => sw_ret ev_non q) fun hb => by cases hb)
      | some b => exact sw_seq (sw_if (ts_T (ev_isN (ev_var rfl))) (fun hb => by cases hb) fun hb => sw_next (sw_ret (ev_ixT (ds := [.int b.1, dW b.2]) (ev_var rfl) ev_int rfl) q))
def c_upright_lines : Cp := fun ds Ψ => ∃ n : Net, ds = [.py (dNet n)] ∧ NetR n ∧ Ψ (.py (.list ((linesF n).map dLine)))
theorem sc_upright_lines : FnScope ["net", "found", "wall", "ends"] ["net"] (defScope s_upright_lines) := ⟨rfl, rfl, rfl, by decide +kernel, rfl, by decide +kernel, by decide +kernel⟩
theorem okv_upright_lines : okL ["found", "net", "wall", "ends"] (defScope s_upright_lines) = true := by decide +kernel
theorem okg_upright_lines : okG ["ends_of", "is_upright"] (defScope s_upright_lines) = true := by decide +kernel
theorem ok_upright_lines (T : Tx K mg C) (F : Df K mg "upright_lines" s_upright_lines ["net"]) (g_ends_of : Fn P w K mg base CX0 "ends_of" 2 ["net", "wall"] (spP c_ends_of)) (g_is_upright : Fn P w K mg base CX0 "is_upright" 1 ["ends"] (spP c_is_upright)) : Fn P w K mg base CX0 "upright_lines" 3 ["net"] (spP c_upright_lines) :=
  have nd := sc_upright_lines.nd
  fn_mk F sc_upright_lines (by first | (rintro ds Ω Ψ ⟨_, _, rfl, _⟩; rfl) | (rintro ds Ω Ψ ⟨_, _, _, rfl, _⟩; rfl) | (rintro ds Ω Ψ ⟨_, _, _, _, rfl, _⟩; rfl) | (rintro ds Ω Ψ ⟨_, _, _, _, _, rfl, _⟩; rfl) | (rintro ds Ω Ψ ⟨_, _, _, _, _, _, rfl, _⟩; rfl)) fun f cdv A outer s H E hr => by
    refine ⟨_, (pss_cons (ps_asg (pe_lst pa_nil) (gnA okv_upright_lines nd 1 0)) (pss_cons (ps_for PassesOwn.never rfl (pi_tup (pe_ix (ixt K) (pvA okv_upright_lines 0 1) pe_int (fun _ _ => rfl))) (gnA okv_upright_lines nd 2 2) (pss_cons (ps_asg (pe_fn g_ends_of hr (by decide) (pa_cons (pvA okv_upright_lines 0 1) (pa_cons (pvA okv_upright_lines 2 2) pa_nil)) (hg := glA okg_upright_lines 0)) (gnA okv_upright_lines nd 3 3)) (pss_one (ps_if (pt_val (pe_fn g_is_upright hr (by decide) (pa_cons (pvA okv_upright_lines 3 3) pa_nil) (hg := glA okg_upright_lines 1))) (pss_one (ps_expr (pe_bm PySem.F.plainAttrs_list PySem.F.slot_list_append PySem.F.type_list_append mt_append (pvA okv_upright_lines 1 0) (pa_cons (pe_tup (pa_cons (pe_ix (ixt K) (pe_ix (ixt K) (pvA okv_upright_lines 3 3) pe_int (fun _ _ => rfl)) pe_int (fun _ _ => rfl)) (pa_cons (pe_ix (ixt K) (pe_ix (ixt K) (pvA okv_upright_lines 3 3) pe_int (fun _ _ => rfl)) pe_int (fun _ _ => rfl)) (pa_cons (pe_ix (ixt K) (pe_ix (ixt K) (pvA okv_upright_lines 3 3) pe_int (fun _ _ => rfl)) pe_int (fun _ _ => rfl)) (pa_cons (pe_ix (ixt K) (pvA okv_upright_lines 2 2) pe_int (fun _ _ => rfl)) (pa_cons (pe_ix (ixt K) (pvA okv_upright_lines 2 2) pe_int (fun _ _ => rfl)) pa_nil)))))) pa_nil)))) pss_nil)))) (pss_one (ps_ret (pvA okv_upright_lines 1 0))))), ?_⟩
    rintro ds Ω Ψ ⟨rfl, n, rfl, hn, q⟩
    refine sw_seq (sw_setW (ev_own0 fun p => ?_))
    refine sw_seq (sw_forT (ev_ixT (ev_var rfl) ev_int rfl) (fun k Γ Ω => ∃ a b, Γ = [some (.py (dNet n)), some (.loc p), a, b] ∧ Ω = [(p, .lst ((((n.2.take k).filter fun w => isUp (endsF n w)).map (lineF n)).map fun l => .py (dLine l)))]) ⟨_, _, rfl, rfl⟩ (fun k d Γ' Ω' hd j => ?_) fun Γ' Ω' j => ?_)
    · obtain ⟨a, b, rfl, rfl⟩ := j
      rw [List.getElem?_map] at hd
      cases e : n.2[k]? with
      | none => rw [e] at hd; cases hd
      | some wl =>
        rw [e] at hd
        cases hd
        have hw := hn.ends _ (List.mem_of_getElem? e)
        refine tg_name ?_
        refine sw_seq (sw_set (ev_fn (ar_cons (ev_var rfl) (ar_cons (ev_var rfl) ar_nil)) fun Ψ q => ⟨n, wl, rfl, ⟨hn, hw⟩, q⟩) ?_)
        refine sw_if (ts_B (ev_fn (ar_cons (ev_var rfl) ar_nil) fun Ψ q => ⟨_, rfl, q⟩)) (fun hb => ?_) fun hb => sw_next ?_
        · refine sw_app (ev_var rfl) (ev_tup (ds := [_, _, _, _, _]) (ar_cons (ev_ixT (ev_ixT (ev_var rfl) ev_int rfl) ev_int rfl) (ar_cons (ev_ixT (ev_ixT (ev_var rfl) ev_int rfl) ev_int rfl) (ar_cons (ev_ixT (ev_ixT (ev_var rfl) ev_int rfl) ev_int rfl) (ar_cons (ev_ixT (ev_var rfl) ev_int rfl) (ar_cons (ev_ixT (ev_var rfl) ev_int rfl) ar_nil)))))) (j := 0) rfl ?_ ?_
          · rw [List.length_map, List.length_map]
            have h1 := List.length_filter_le (fun w => isUp (endsF n w)) (n.2.take k)
            have h2 : (n.2.take k).length ≤ 1000 := by rw [List.length_take]; have := hn.fewW; omega
            omega
          · refine ⟨_, _, rfl, ?_⟩
            rw [take_next e, List.filter_append]
            simp [hb, lineF]
        · refine ⟨_, _, rfl, ?_⟩
          rw [take_next e, List.filter_append]
          simp [hb]
    · obtain ⟨a, b, rfl, rfl⟩ := j
      rw [List.length_map, List.take_length]
      refine sw_frz (i := 1) (j := 0) (ds := (linesF n).map dLine) rfl (by unfold linesF; simp [List.map_map] <;> rfl) ?_
      exact sw_ret (ev_var rfl) q
end
end My
end

section
set_option Elab.async false
set_option linter.all false
set_option maxRecDepth 100000
set_option maxHeartbeats 4000000
namespace My
open PySem L2 G
open PySem.W (alike)
open PyProof.Rows (envOfC)
/-- __init__ as it stands behind the top -/
structure Di (K : PySem.W.Frag) (C : Addr) (st : Stmt) (ps : List Str) : Prop where
  ex : ∃ (f : Addr) (fd : FuncData), Fun K "__init__" "Found.__init__" st f fd ∧ Mk K C f ∧ Binds K fd ps []
def foundFs (n : Net) : List (Str × D) := [("spots", .ab (spotsM n)), ("rings", .py (.tuple ((ringsF n).map dRing))), ("areas", .py (.list ((areasF n).map PyData.int))), ("lines", .py (.list ((linesF n).map dLine)))]
def byK (d : List (Wall × Nat)) : List (List Key × D) := d.map fun q => (pairK q.1, I (q.2 : Int))
def byM (n : Net) : Mono := dictT ((ringByF n).map fun q => (q.1, I (q.2 : Int)))
abbrev foundM (C : Addr) (n : Net) : Mono := objM C (foundFs n ++ [(("ring_by" : Str), .ab (byM n))])
def preF : List D → (List (Str × D)) → Str → List (List Key × D) → Prop := fun es fs f kvs => ∃ n, es = [.py (dNet n)] ∧ NetC n ∧ fs = foundFs n ∧ f = "ring_by" ∧ kvs = byK (ringByF n)
structure MkF (P : Program) (w : World) (K : PySem.W.Frag) (mg : Str → Option Value) (base : Heap) (C : Addr) (k : Nat) : Prop where
  ex : ∃ (f : Addr) (fd : FuncData), mg "Found" = some (.ref C) ∧ Mk K C f ∧ Binds K fd ["self", "net"] [] ∧ FnOk P w K mg base CX0 k f fd ["self", "net"] (spG (initC C preF))
section
variable {P : Program} {w : World} {K : PySem.W.Frag} {mg : Str → Option Value} {base : Heap} {C : Addr}
theorem mk_mk {st : Stmt} {N : List Str} {k : Nat} (hC : mg "Found" = some (.ref C)) (F : Di K C st ["self", "net"]) (S : FnScope N ["self", "net"] (defScope st))
    (hbody : ∀ (f : Addr) (cdv : Value) (A : Around) (outer : List Env) (s : Shared) (H : Hp) (E : XK), Room k (A.deeper (envOfC "Found.__init__" (defScope st) s.heap.objs.size f cdv)) →
      ∃ t, PSs (cxOf CX0 P w K mg base N "Found.__init__" (defScope st) f cdv A outer s H E).nox (defBody st) t ∧ ∀ ds Ω Ψ, initC C preF ds Ω Ψ → SW t (startD N ds) Ω { nx := fun _ Ω' => Ψ N0 Ω', rt := Ψ }) : MkF P w K mg base C (k + 1) := by
  obtain ⟨f, fd, h1, h2, h3⟩ := F.ex
  refine ⟨f, fd, hC, h2, h3, h1.ok S (fun vs H Q E h => ?_) fun cdv A outer s H vs Q E hr h => ?_⟩
  · obtain ⟨H0, ds, Ω, Ψ, _, r, c, _⟩ := h
    obtain ⟨x, dx, es, fs, f, kvs, rfl, _, ⟨n, rfl, _⟩, _⟩ := c
    exact (show vs.length = 2 from Paired.length r)
  · obtain ⟨H0, ds, Ω, Ψ, g, r, c, k⟩ := h
    obtain ⟨t, ht, q⟩ := hbody f cdv A outer s H E hr
    exact ⟨t, ht, q ds Ω Ψ c _ H0 H _ (start_sl N r) g ⟨fun σ' Γ' Ω' H0' H' q s' g' c' => k _ _ Ω' H0' H' q g' c' .non, fun v d Ω' H0' H' q r' g' c' => k v d Ω' H0' H' q g' c' r', fun _ _ _ _ _ h => h.elim, fun _ _ _ _ _ h => h.elim⟩⟩
theorem pe_mkF {X : Cx} {k j : Nat} {e : Expr} {es : List Expr} {t : TA} {p pos : Pos} (F : MkF X.prog X.w X.K X.mg X.base C k) (hr : Room j X.A) (hk : k + 1 ≤ j) (ha : PA X (e :: es) t) (hg : Gl X "Found" := by rfl)
    (he : starEach (e :: es) X.env = (false, eval e X.env) :: starEach es X.env := by rfl) (hpl : (backTo pos (starEach es X.env)).any (·.1) = false := by rfl) :
    PE X (.Call (.Name "Found" p) (e :: es) [] pos) (tMake C (spG (initC C preF)) [] E0 t) := by
  obtain ⟨f, fd, h1, h2, h3, h4⟩ := F.ex
  exact pe_make h2 h4 (hr.mono hk) hg h1 h3 .nil pass0 ha (by decide) he hpl
theorem ev_mkF {Γ : En} {Ω : Om} {t : TA} {n : Net} (ha : ArD t Γ Ω [.py (dNet n)]) (hn : NetC n) : EvD (tMake C (spG (initC C preF)) [] E0 t) Γ Ω (.ab (foundM C n)) :=
  ev_mk (fs := foundFs n) (f := "ring_by") (kvs := byK (ringByF n)) (M := byM n) ha ⟨n, rfl, hn, rfl, rfl, rfl⟩ (by
    rintro H0 H o r ⟨ws, rfl, h2, h3⟩ e hp
    unfold byK at h2 h3
    rw [List.map_map] at h2 h3
    refine ⟨r, ws, rfl, hp, ?_, ?_⟩
    · rw [h2, List.map_map]; rfl
    · rw [List.map_map]; exact RqL.mono e h3)
theorem fF (T : Tx K mg C) {Γ : En} {Ω : Om} {ta : TE} {n : Net} {f : Str} {d : D} (ha : EvD ta Γ Ω (.ab (foundM C n))) (hf : f = "spots" ∨ f = "rings" ∨ f = "areas" ∨ f = "lines" ∨ f = "ring_by") (h : (foundFs n ++ [(("ring_by" : Str), D.ab (byM n))]).lookup f = some d) : EvD (tFld K ta f) Γ Ω d := ev_fld T.cl (T.na f hf) ha h
theorem by_put {d : List (Wall × Nat)} {s : Wall} {k : Nat} : putD (byK d) (pairK s) (I (k : Int)) = byK (putD d s k) := by
  unfold putD byK
  have e : ((d.map fun q => (pairK q.1, I (q.2 : Int))).any fun kv => decide (kv.1 = pairK s)) = d.any fun kv => decide (kv.1 = s) := by
    rw [List.any_map]
    congr 1
    funext q
    show decide (pairK q.1 = pairK s) = decide (q.1 = s)
    rw [Bool.eq_iff_iff, decide_eq_true_iff, decide_eq_true_iff]
    exact ⟨fun h => pairK_inj _ _ h, fun h => by rw [h]⟩
  rw [e]
  split
  · rw [List.map_map, List.map_map]
    refine List.map_congr_left fun q _ => ?_
    show (if pairK q.1 = pairK s then (pairK q.1, I (k : Int)) else (pairK q.1, I (q.2 : Int))) = (pairK (if q.1 = s then (q.1, k) else q).1, I (((if q.1 = s then (q.1, k) else q).2 : Nat) : Int))
    by_cases h : q.1 = s
    · rw [if_pos h, if_pos (by rw [h])]
    · rw [if_neg h, if_neg fun e => h (pairK_inj _ _ e)]
  · rw [List.map_append]; rfl
theorem putD_len {κ α : Type} [DecidableEq κ] {d : List (κ × α)} {k : κ} {v : α} : (putD d k v).length ≤ d.length + 1 := by
  unfold putD
  split
  · rw [List.length_map]; omega
  · rw [List.length_append]; simp
theorem byPut_len {d : List (Wall × Nat)} {ss : List Wall} {k : Nat} : (ss.foldl (fun d s => putD d s k) d).length ≤ d.length + ss.length := by
  induction ss generalizing d with
  | nil => simp
  | cons a l ih =>
    rw [List.foldl_cons, List.length_cons]
    have := ih (d := putD d a k)
    have := @putD_len _ _ _ d a k
    omega
theorem ringBy_len {n : Net} (l : List (List Int × Nat)) (h : ∀ q ∈ l, q.1.length ≤ 201) : (l.foldl byPut []).length ≤ l.length * 201 := by
  have : ∀ (l : List (List Int × Nat)) (d : List (Wall × Nat)), (∀ q ∈ l, q.1.length ≤ 201) → (l.foldl byPut d).length ≤ d.length + l.length * 201 := by
    intro l
    induction l with
    | nil => intro d _; simp
    | cons a l ih =>
      intro d h
      rw [List.foldl_cons, List.length_cons]
      have h1 := ih (byPut d a) (fun q hq => h q (List.mem_cons_of_mem _ hq))
      have h2 : (byPut d a).length ≤ d.length + (sidesR a.1).length := byPut_len
      have h3 := h a List.mem_cons_self
      rw [sidesR_len] at h2
      omega
  have := this l [] h
  simpa using this
theorem rings_few {n : Net} (hn : NetL n) : (ringsF n).length ≤ 200 ∧ ∀ r ∈ ringsF n, r.length ≤ 201 ∧ (∀ c ∈ r, c ∈ keys n) ∧ 0 < r.length := by
  have few := hn.few2
  refine ⟨?_, rings_all (fun s hs => ⟨?_, ring_keys hn hs, by unfold ringF; simp⟩) (sidesF n) fun s hs => mem_sides.mp hs⟩
  · have h1 := (rings_len (n := n) (sidesF n)).2
    have h2 : (sidesF n).length = 2 * n.2.length := by unfold sidesF; rw [List.length_mergeSort, List.length_append, List.length_map]; omega
    unfold ringsF
    omega
  · have := @ring_len n s
    omega
theorem sc_Found_init : FnScope ["self", "net", "ring", "number", "side"] ["self", "net"] (defScope s_Found_init) := ⟨rfl, rfl, rfl, by decide +kernel, rfl, by decide +kernel, by decide +kernel⟩
theorem okv_Found_init : okL ["self", "ring", "number", "side"] (defScope s_Found_init) = true := by decide +kernel
theorem okg_Found_init : okG ["spots_of", "rings", "upright_lines", "enumerate", "sides_of_ring"] (defScope s_Found_init) = true := by decide +kernel
theorem ok_Found_init (T : Tx K mg C) (hC : mg "Found" = some (.ref C)) (F : Di K C s_Found_init ["self", "net"]) (g_area_of : Fn P w K mg base CX0 "area_of" 2 ["net", "ring"] (spP c_area_of)) (g_rings : Fn P w K mg base CX0 "rings" 4 ["net"] (spP c_rings)) (g_sides_of_ring : Fn P w K mg base CX0 "sides_of_ring" 1 ["ring"] (spP c_sides_of_ring)) (g_spots_of : Fn P w K mg base CX0 "spots_of" 1 ["net"] (spP c_spots_of)) (g_upright_lines : Fn P w K mg base CX0 "upright_lines" 3 ["net"] (spP c_upright_lines)) : MkF P w K mg base C 5 :=
  have nd := sc_Found_init.nd
  mk_mk hC F sc_Found_init fun f cdv A outer s H E hr => by
    refine ⟨_, (pss_cons (ps_fld (pv 0) (pe_fn g_spots_of hr (by decide) (pa_cons (pv 1) pa_nil) (hg := glA okg_Found_init 0)) rfl) (pss_cons (ps_fld (pv 0) (pe_fn g_rings hr (by decide) (pa_cons (pv 1) pa_nil) (hg := glA okg_Found_init 1)) rfl) (pss_cons (ps_fld (pv 0) (pe_lc (own := [("ring", 2)]) rfl nd (pi_tup (pfl K (pvA okv_Found_init 0 0))) (blkOk_by (own := [("ring", 2)]) (N := ["self", "net", "ring", "number", "side"]) (sc := defScope s_Found_init) (by decide +kernel)) (fun _ _ _ _ _ => (gn nd 2)) (fun _ _ _ _ _ => pts_nil) (fun _ _ _ _ _ => (pe_fn g_area_of hr (by decide) (pa_cons (pv 1) (pa_cons (pv 2) pa_nil))))) rfl) (pss_cons (ps_fld (pv 0) (pe_fn g_upright_lines hr (by decide) (pa_cons (pv 1) pa_nil) (hg := glA okg_Found_init 2)) rfl) (pss_cons (ps_fld (pv 0) pe_dnewT rfl) (pss_one (ps_for PassesOwn.never rfl (pi_enumT (glA okg_Found_init 3) T.b.enumerate (pa_cons (pfl K (pvA okv_Found_init 0 0)) pa_nil)) (pgt K (n := 2) rfl (pgs_cons (gnA okv_Found_init nd 3 2) (pgs_cons (gnA okv_Found_init nd 2 1) pgs_nil))) (pss_one (ps_for PassesOwn.never rfl (pi_list (pe_fn g_sides_of_ring hr (by decide) (pa_cons (pvA okv_Found_init 2 1) pa_nil) (hg := glA okg_Found_init 4))) (gnA okv_Found_init nd 4 3) (pss_one (ps_dput (hu_of hr) (pfl K (pvA okv_Found_init 0 0)) (pvA okv_Found_init 4 3) (pvA okv_Found_init 3 2) rfl))))))))))), ?_⟩
    rintro ds Ω Ψ ⟨x, dx, es, fs, fn, kvs, rfl, rfl, ⟨n, rfl, hn, rfl, rfl, rfl⟩, q⟩
    obtain ⟨rl, rk⟩ := rings_few hn.toNetL
    have xx : ∀ {Γ : En} {Ω1 : Om}, Γ[0]? = some (some (D.loc x)) → ∀ y, EvD (tVar 0) Γ Ω1 (.loc y) → y = x ∨ True := fun _ _ _ => .inr trivial
    refine sw_seq (sw_fldC T.cl (T.na _ (by simp)) (x := x) (ev_var rfl) (EvD.w (ev_fn (ar_cons (ev_var rfl) ar_nil) fun Ψ q => ⟨n, rfl, hn.toNetR, q⟩) ⟨0, dx, _, rfl, by first | (simp; done) | (simp; decide), by simp, ?_⟩))
    refine sw_seq (sw_fldC T.cl (T.na _ (by simp)) (x := x) (ev_var rfl) (EvD.w (ev_fn (ar_cons (ev_var rfl) ar_nil) fun Ψ q => ⟨n, rfl, hn, q⟩) ⟨0, dx, _, rfl, by first | (simp; done) | (simp; decide), by simp, ?_⟩))
    refine sw_seq (sw_fldC T.cl (T.na _ (by simp)) (x := x) (ev_var rfl) (EvD.w ((ev_lcT (ringsF n) dRing (fun _ => true) (fun r => .int (areaF n r)) (ev_fldO T.cl (T.na _ (by simp)) (ev_var rfl) (j := 0) rfl rfl) (to_name) (by omega) fun r hr => tg_name ⟨rfl, ts_yes, fun _ => (ev_fn (ar_cons (ev_var rfl) (ar_cons (ev_var rfl) ar_nil)) fun Ψ q => ⟨n, r, rfl, ⟨hn.toNetL, by have := (rk r hr).1; omega, (rk r hr).2.1⟩, q⟩)⟩).is (e := .py (.list ((areasF n).map PyData.int))) (by rw [fil_true]; unfold areasF; rw [List.map_map]; rfl)) ⟨0, dx, _, rfl, by first | (simp; done) | (simp; decide), by simp, ?_⟩))
    refine sw_seq (sw_fldC T.cl (T.na _ (by simp)) (x := x) (ev_var rfl) (EvD.w (ev_fn (ar_cons (ev_var rfl) ar_nil) fun Ψ q => ⟨n, rfl, hn.toNetR, q⟩) ⟨0, dx, _, rfl, by first | (simp; done) | (simp; decide), by simp, ?_⟩))
    refine sw_seq (sw_fldC T.cl (T.na _ (by simp)) (x := x) (ev_var rfl) (ev_ownT fun r => ⟨0, dx, foundFs n, rfl, by simp [foundFs]; decide, by simp [foundFs], ?_⟩))
    refine sw_forE (ev_fldO T.cl (T.na _ (by simp)) (ev_var rfl) (j := 0) (d := .py (.tuple ((ringsF n).map dRing))) rfl rfl) (fun k Γ Ω => ∃ a b c, Γ = [some (.loc x), some (.py (dNet n)), a, b, c] ∧ Ω = [(x, .ob C dx (foundFs n ++ [(("ring_by" : Str), .loc r)])), (r, .dt (byK (((ringsF n).zipIdx.take k).foldl byPut [])))]) ⟨_, _, _, rfl, rfl⟩ (fun k d Γ' Ω' hd j => ?_) fun Γ' Ω' j => ?_
    · obtain ⟨a, b, c, rfl, rfl⟩ := j
      rw [List.getElem?_map] at hd
      cases e : (ringsF n)[k]? with
      | none => rw [e] at hd; cases hd
      | some ri =>
        rw [e] at hd
        cases hd
        have hz : (ringsF n).zipIdx[k]? = some (ri, k) := by rw [List.getElem?_zipIdx, e]; simp
        have hlen : (((ringsF n).zipIdx.take k).foldl byPut []).length ≤ 200 * 201 := by
          refine Nat.le_trans (ringBy_len (n := n) _ fun q hq => ?_) (Nat.mul_le_mul_right _ ?_)
          · exact (rk _ (List.mem_of_getElem? (List.getElem?_of_mem (List.mem_of_mem_take hq)).choose_spec |> fun h => by
              have := List.fst_mem_of_mem_zipIdx h
              exact this)).1
          · rw [List.length_take, List.length_zipIdx]; omega
        have hri := rk ri (List.mem_of_getElem? e)
        refine tg_tup rfl (tgs_cons (tg_name (tgs_cons (tg_name (tgs_nil ?_)))))
        refine sw_forL (ev_fn (ar_cons (ev_var rfl) ar_nil) fun Ψ q => ⟨ri, rfl, by omega, q⟩) (fun i Γ Ω => ∃ c, Γ = [some (.loc x), some (.py (dNet n)), some (.py (dRing ri)), some (I (k : Int)), c] ∧ Ω = [(x, .ob C dx (foundFs n ++ [(("ring_by" : Str), .loc r)])), (r, .dt (byK (((sidesR ri).take i).foldl (fun d s => putD d s k) (((ringsF n).zipIdx.take k).foldl byPut []))))]) ⟨_, rfl, rfl⟩ (fun i d Γ' Ω' hd j => ?_) fun Γ' Ω' j => ?_
        · obtain ⟨c, rfl, rfl⟩ := j
          rw [List.getElem?_map] at hd
          cases e2 : (sidesR ri)[i]? with
          | none => rw [e2] at hd; cases hd
          | some o =>
            rw [e2] at hd
            cases hd
            refine tg_name (sw_putT (ev_var rfl) (ev_fldO T.cl (T.na _ (by simp)) (ev_var rfl) (j := 0) (d := .loc r) rfl rfl) (ev_var rfl) (j := 1) rfl ?_ ?_)
            · unfold byK
              rw [List.length_map]
              have h1 := @byPut_len (((ringsF n).zipIdx.take k).foldl byPut []) ((sidesR ri).take i) k
              have h2 : ((sidesR ri).take i).length ≤ 201 := by rw [List.length_take, sidesR_len]; omega
              omega
            · refine ⟨_, rfl, ?_⟩
              rw [take_next e2, List.foldl_append, by_put]; rfl
        · obtain ⟨c, rfl, rfl⟩ := j
          rw [List.length_map, List.take_length]
          refine ⟨_, _, _, rfl, ?_⟩
          rw [take_next hz, List.foldl_append]; rfl
    · obtain ⟨a, b, c, rfl, rfl⟩ := j
      rw [List.length_map, ← List.length_zipIdx (i := 0), List.take_length]
      exact q r
end
end My
end

section
set_option Elab.async false
set_option linter.all false
set_option maxRecDepth 100000
set_option maxHeartbeats 4000000
namespace My
open PySem L2 G
open PySem.W (alike)
open PyProof.Rows (envOfC)
section
variable {P : Program} {w : World} {K : PySem.W.Frag} {mg : Str → Option Value} {base : Heap} {C : Addr}
theorem atI_mapD {α : Type} {f : α → PyData} {l : List α} {k : Nat} {a0 : α} (hk : k < l.length) : atI (l.map f) (k : Int) = some (f (l.getD k a0)) := by
  rw [atI_nat (by rw [List.length_map]; exact hk), List.getElem?_map, List.getElem?_eq_getElem hk]
  simp [List.getD, hk]
theorem map_get {α : Type} {f : α → PyData} {l : List α} {k : Nat} {a0 : α} (hk : k < l.length) : (l.map f)[k]? = some (f (l.getD k a0)) := by
  rw [List.getElem?_map, List.getElem?_eq_getElem hk]
  simp [List.getD, hk]
def c_Found_side_west_of (C : Addr) : Cp := fun ds Ψ => ∃ (n : Net) (k : Nat), ds = [.ab (foundM C n), I (k : Int)] ∧ (NetL n ∧ k < (ringsF n).length) ∧ Ψ (.py (dOw (westOf n k)))
theorem sc_Found_side_west_of : FnScope ["self", "number", "x", "y", "c"] ["self", "number"] (defScope s_Found_side_west_of) := ⟨rfl, rfl, rfl, by decide +kernel, rfl, by decide +kernel, by decide +kernel⟩
theorem okv_Found_side_west_of : okL ["number", "y", "x"] (defScope s_Found_side_west_of) = true := by decide +kernel
theorem okg_Found_side_west_of : okG ["min", "wall_west"] (defScope s_Found_side_west_of) = true := by decide +kernel
theorem ok_Found_side_west_of (T : Tx K mg C) (F : Dm K C "side_west_of" "Found.side_west_of" s_Found_side_west_of ["self", "number"]) (g_wall_west : Fn P w K mg base CX0 "wall_west" 1 ["lines", "x", "y"] (spP c_wall_west)) : Mt P w K mg base C "side_west_of" 2 ["self", "number"] (spP (c_Found_side_west_of C)) :=
  have nd := sc_Found_side_west_of.nd
  mt_mk F sc_Found_side_west_of (by first | (rintro ds Ω Ψ ⟨_, _, rfl, _⟩; rfl) | (rintro ds Ω Ψ ⟨_, _, _, rfl, _⟩; rfl) | (rintro ds Ω Ψ ⟨_, _, _, _, rfl, _⟩; rfl) | (rintro ds Ω Ψ ⟨_, _, _, _, _, rfl, _⟩; rfl) | (rintro ds Ω Ψ ⟨_, _, _, _, _, _, rfl, _⟩; rfl)) fun f cdv A outer s H E hr => by
    refine ⟨_, (pss_cons (ps_asg (pb_minP T.b hr (pa_cons (pe_lc (own := [("c", 4)]) rfl nd (pi_tup (pe_ix (ixt K) (pfl K (pv 0)) (pvA okv_Found_side_west_of 1 0) (fun _ _ => rfl))) (blkOk_by (own := [("c", 4)]) (N := ["self", "number", "x", "y", "c"]) (sc := defScope s_Found_side_west_of) (by decide +kernel)) (fun _ _ _ _ _ => (gn nd 4)) (fun _ _ _ _ _ => pts_nil) (fun _ _ _ _ _ => (pe_dget (hu_of hr) (pfl K (pv 0)) (pv 4) (fun _ _ => rfl)))) pa_nil) (hg := glA okg_Found_side_west_of 0)) (pgt K (n := 2) rfl (pgs_cons (gnA okv_Found_side_west_of nd 2 2) (pgs_cons (gnA okv_Found_side_west_of nd 3 1) pgs_nil)))) (pss_one (ps_ret (pe_fn g_wall_west hr (by decide) (pa_cons (pfl K (pv 0)) (pa_cons (pe_op op_sub (pvA okv_Found_side_west_of 2 2) pe_int) (pa_cons (pvA okv_Found_side_west_of 3 1) pa_nil))) (hg := glA okg_Found_side_west_of 1))))), ?_⟩
    rintro ds Ω Ψ ⟨rfl, n, k, rfl, ⟨hn, hk⟩, q⟩
    have hr0 : (ringsF n).getD k [] ∈ ringsF n := by simp [List.getD, hk]
    obtain ⟨rl, rk⟩ := rings_few hn
    obtain ⟨z1, z2, z3⟩ := rk _ hr0
    have hp0 : (ptsOf n ((ringsF n).getD k [])).map dPt ≠ [] := by
      unfold ptsOf
      rw [List.map_map]
      intro e
      rw [List.map_eq_nil_iff] at e
      rw [e] at z3
      exact absurd z3 (by decide)
    have hbest : ((ptsOf n ((ringsF n).getD k [])).map dPt)[bestAt ((ptsOf n ((ringsF n).getD k [])).map dPt)]? = some (dPt (minP n ((ringsF n).getD k []))) := by
      have h1 := bestAt_lt hp0
      rw [List.length_map] at h1
      exact map_get h1
    have alik : ∀ d ∈ (ptsOf n ((ringsF n).getD k [])).map dPt, ∃ p : Pt, d = dPt p := fun d hd => by
      obtain ⟨p, _, rfl⟩ := List.mem_map.mp hd
      exact ⟨p, rfl⟩
    refine sw_seq (sw_asgW (EvD.toW (ev_minD (d := dPt (minP n ((ringsF n).getD k []))) (ds := (ptsOf n ((ringsF n).getD k [])).map dPt) ((ev_lcT ((ringsF n).getD k []) PyData.int (fun _ => true) (fun c => dPt (spot n c)) (ev_ixT (fF T (ev_var rfl) (by simp) (d := .py (.tuple ((ringsF n).map dRing))) rfl) (ev_var rfl) (atI_mapD hk)) (to_name) (by omega) fun c hc => tg_name ⟨rfl, ts_yes, fun _ => (ev_spots (fF T (ev_var rfl) (by simp) (d := .ab (spotsM n)) rfl) (ev_var rfl) (z2 c hc))⟩).is ?_) ?_ ?_ ?_ hbest) (tg_tup rfl (tgs_cons (tg_name (tgs_cons (tg_name (tgs_nil ?_))))))))
    · rw [fil_true]; unfold ptsOf; rw [List.map_map]; rfl
    · intro d hd e he
      obtain ⟨p, rfl⟩ := alik d hd
      obtain ⟨p', rfl⟩ := alik e he
      rfl
    · intro d hd
      obtain ⟨p, rfl⟩ := alik d hd
      intro e; cases e
    · intro d hd
      obtain ⟨p, rfl⟩ := alik d hd
      exact Nat.le_of_ble_eq_true rfl
    · exact sw_ret (ev_fn (ar_cons (fF T (ev_var rfl) (by simp) (d := .py (.list ((linesF n).map dLine))) rfl) (ar_cons (ev_i0 (ev_var rfl) ev_int) (ar_cons (ev_var rfl) ar_nil))) fun Ψ q => ⟨_, _, _, rfl, q⟩) q
theorem by_look {n : Net} (hn : NetF n) {s : Wall} (hs : isSide n s) : ((ringByF n).map fun q => (q.1, I (q.2 : Int))).lookup (s.1, s.2) = some (I (numOf n s : Int)) := by
  obtain ⟨k, h1, h2⟩ := hn.by_ s hs
  have : ∀ l : List (Wall × Nat), (l.map fun q => (q.1, I (q.2 : Int))).lookup s = (l.lookup s).map fun k => I (k : Int) := by
    intro l
    induction l with
    | nil => rfl
    | cons a l ih =>
      by_cases e : s = a.1
      · subst e; simp [List.lookup]
      · have e2 : (s == a.1) = false := by simpa using e
        simp only [List.map_cons, List.lookup, e2]; exact ih
  show (List.lookup s _) = _
  rw [this, h1]
  unfold numOf
  rw [h1]; rfl
def c_Found_room_left (C : Addr) : Cp := fun ds Ψ => ∃ (n : Net) (o : Option Wall), ds = [.ab (foundM C n), .py (dOw o)] ∧ (NetF n ∧ ∀ s, o = some s → isSide n s) ∧ Ψ (.py (dOn (roomF n o)))
theorem sc_Found_room_left : FnScope ["self", "side", "number"] ["self", "side"] (defScope s_Found_room_left) := ⟨rfl, rfl, rfl, by decide +kernel, rfl, by decide +kernel, by decide +kernel⟩
theorem okv_Found_room_left : okL ["side", "self", "number"] (defScope s_Found_room_left) = true := by decide +kernel
theorem ok_Found_room_left (T : Tx K mg C) (F : Dm K C "room_left" "Found.room_left" s_Found_room_left ["self", "side"]) (m_side_west_of : Mt P w K mg base C "side_west_of" 2 ["self", "number"] (spP (c_Found_side_west_of C))) : Mt P w K mg base C "room_left" 3 ["self", "side"] (spP (c_Found_room_left C)) :=
  have nd := sc_Found_room_left.nd
  mt_mk F sc_Found_room_left (by first | (rintro ds Ω Ψ ⟨_, _, rfl, _⟩; rfl) | (rintro ds Ω Ψ ⟨_, _, _, rfl, _⟩; rfl) | (rintro ds Ω Ψ ⟨_, _, _, _, rfl, _⟩; rfl) | (rintro ds Ω Ψ ⟨_, _, _, _, _, rfl, _⟩; rfl) | (rintro ds Ω Ψ ⟨_, _, _, _, _, _, rfl, _⟩; rfl)) fun f cdv A outer s H E hr => by
    refine ⟨_, (pss_cons (ps_if (pt_cmpR op_isn (pvA okv_Found_room_left 1 0) pe_non (nomark _)) (pss_one (ps_ret pe_non)) pss_nil) (pss_cons (ps_asg (pe_dget (hu_of hr) (pfl K (pvA okv_Found_room_left 0 1)) (pvA okv_Found_room_left 1 0) (fun _ _ => rfl)) (gnA okv_Found_room_left nd 2 2)) (pss_cons (ps_while PassesOwn.never (pt_cmpR op_le (pe_ix (ixl K) (pfl K (pvA okv_Found_room_left 0 1)) (pvA okv_Found_room_left 2 2) (fun _ _ => rfl)) pe_int (nomark _)) (pss_cons (ps_asg (pe_mt T.cl m_side_west_of hr (by decide) (pvA okv_Found_room_left 0 1) (pa_cons (pvA okv_Found_room_left 2 2) pa_nil)) (gnA okv_Found_room_left nd 1 0)) (pss_cons (ps_if (pt_cmpR op_isn (pvA okv_Found_room_left 1 0) pe_non (nomark _)) (pss_one (ps_ret pe_non)) pss_nil) (pss_one (ps_asg (pe_dget (hu_of hr) (pfl K (pvA okv_Found_room_left 0 1)) (pvA okv_Found_room_left 1 0) (fun _ _ => rfl)) (gnA okv_Found_room_left nd 2 2)))))) (pss_one (ps_ret (pvA okv_Found_room_left 2 2)))))), ?_⟩
    rintro ds Ω Ψ ⟨rfl, n, o, rfl, ⟨hn, ho⟩, q⟩
    cases o with
    | none => exact sw_seq (sw_if (ts_T (ev_isN (ev_var rfl))) (fun hb => sw_ret ev_non q) fun hb => by cases hb)
    | some s0 =>
      have hs0 := ho s0 rfl
      have al : (areasF n).length = (ringsF n).length := by unfold areasF; rw [List.length_map]
      refine sw_seq (sw_if (ts_T (ev_isN (ev_var rfl))) (fun hb => by cases hb) fun hb => sw_next ?_)
      refine sw_seq (sw_set (ev_dgetT (fF T (ev_var rfl) (by simp) (d := .ab (byM n)) rfl) (ev_var rfl) (by_look hn hs0)) ?_)
      refine sw_seq (sw_while (fun m Γ Ω => ∃ s, isSide n s ∧ m = mesOf n (some s) ∧ roomF n (some s0) = roomF n (some s) ∧ Γ = [some (.ab (foundM C n)), some (.py (dW s)), some (I (numOf n s : Int))] ∧ Ω = []) _ ⟨s0, hs0, rfl, rfl, rfl, rfl⟩ ?_)
      rintro m Γ' Ω' ⟨s, hs, rfl, hrm, rfl, rfl⟩
      have hlt := numOf_lt hn hs
      refine TsD.w (ts_T (ev_iB (ev_ixL (fF T (ev_var rfl) (by simp) (d := .py (.list ((areasF n).map PyData.int))) rfl) (ev_var rfl) (atI_mapD (a0 := 0) (by omega))) ev_int)) ?_
      rw [room_eq hn hs] at hrm
      by_cases ha : (areasF n).getD (numOf n s) 0 ≤ 0
      · rw [if_pos ha] at hrm
        rw [if_pos (decide_eq_true ha)]
        refine sw_seq (sw_set (ev_mt (ev_var rfl) rfl (ar_cons (ev_var rfl) ar_nil) fun Ψ q => ⟨n, _, rfl, ⟨hn.toNetL, hlt⟩, q⟩) ?_)
        cases hw : westOf n (numOf n s) with
        | none =>
          rw [hw] at hrm
          refine sw_seq (sw_if (ts_T (ev_isN (ev_var rfl))) (fun hb => sw_ret ev_non ?_) fun hb => by cases hb)
          rw [hrm] at q
          exact q
        | some t =>
          rw [hw] at hrm
          have ht := westOf_isSide hw
          refine sw_seq (sw_if (ts_T (ev_isN (ev_var rfl))) (fun hb => by cases hb) fun hb => sw_next ?_)
          refine sw_set (ev_dgetT (fF T (ev_var rfl) (by simp) (d := .ab (byM n)) rfl) (ev_var rfl) (by_look hn ht)) ?_
          exact ⟨_, hn.dec s t hs ha hw, t, ht, rfl, hrm, rfl, rfl⟩
      · rw [if_neg ha] at hrm
        rw [if_neg (by simpa using ha)]
        refine sw_ret (ev_var rfl) ?_
        rw [hrm] at q
        exact q
def c_Found_room_of_rim (C : Addr) : Cp := fun ds Ψ => ∃ (n : Net) (k : Nat), ds = [.ab (foundM C n), I (k : Int)] ∧ (NetF n ∧ k < (ringsF n).length) ∧ Ψ (.py (dOn (roomF n (westOf n k))))
theorem sc_Found_room_of_rim : FnScope ["self", "number"] ["self", "number"] (defScope s_Found_room_of_rim) := ⟨rfl, rfl, rfl, by decide +kernel, rfl, by decide +kernel, by decide +kernel⟩
theorem okv_Found_room_of_rim : okL ["self", "number"] (defScope s_Found_room_of_rim) = true := by decide +kernel
theorem ok_Found_room_of_rim (T : Tx K mg C) (F : Dm K C "room_of_rim" "Found.room_of_rim" s_Found_room_of_rim ["self", "number"]) (m_room_left : Mt P w K mg base C "room_left" 3 ["self", "side"] (spP (c_Found_room_left C))) (m_side_west_of : Mt P w K mg base C "side_west_of" 2 ["self", "number"] (spP (c_Found_side_west_of C))) : Mt P w K mg base C "room_of_rim" 4 ["self", "number"] (spP (c_Found_room_of_rim C)) :=
  have nd := sc_Found_room_of_rim.nd
  mt_mk F sc_Found_room_of_rim (by first | (rintro ds Ω Ψ ⟨_, _, rfl, _⟩; rfl) | (rintro ds Ω Ψ ⟨_, _, _, rfl, _⟩; rfl) | (rintro ds Ω Ψ ⟨_, _, _, _, rfl, _⟩; rfl) | (rintro ds Ω Ψ ⟨_, _, _, _, _, rfl, _⟩; rfl) | (rintro ds Ω Ψ ⟨_, _, _, _, _, _, rfl, _⟩; rfl)) fun f cdv A outer s H E hr => by
    refine ⟨_, (pss_one (ps_ret (pe_mt T.cl m_room_left hr (by decide) (pvA okv_Found_room_of_rim 0 0) (pa_cons (pe_mt T.cl m_side_west_of hr (by decide) (pvA okv_Found_room_of_rim 0 0) (pa_cons (pvA okv_Found_room_of_rim 1 1) pa_nil)) pa_nil)))), ?_⟩
    rintro ds Ω Ψ ⟨rfl, n, k, rfl, ⟨hn, hk⟩, q⟩
    exact sw_ret (ev_mt (ev_var rfl) rfl (ar_cons (ev_mt (ev_var rfl) rfl (ar_cons (ev_var rfl) ar_nil) fun Ψ q => ⟨n, k, rfl, ⟨hn.toNetL, hk⟩, q⟩) ar_nil) fun Ψ q => ⟨n, _, rfl, ⟨hn, fun s hs => westOf_isSide hs⟩, q⟩) q
def c_Found_room_of_cell (C : Addr) : Cp := fun ds Ψ => ∃ (n : Net) (x y : Int), ds = [.ab (foundM C n), I x, I y] ∧ NetF n ∧ Ψ (.py (dOn (roomF n (westF (linesF n) x y))))
theorem sc_Found_room_of_cell : FnScope ["self", "x", "y"] ["self", "x", "y"] (defScope s_Found_room_of_cell) := ⟨rfl, rfl, rfl, by decide +kernel, rfl, by decide +kernel, by decide +kernel⟩
theorem okv_Found_room_of_cell : okL ["self", "y", "x"] (defScope s_Found_room_of_cell) = true := by decide +kernel
theorem okg_Found_room_of_cell : okG ["wall_west"] (defScope s_Found_room_of_cell) = true := by decide +kernel
theorem ok_Found_room_of_cell (T : Tx K mg C) (F : Dm K C "room_of_cell" "Found.room_of_cell" s_Found_room_of_cell ["self", "x", "y"]) (m_room_left : Mt P w K mg base C "room_left" 3 ["self", "side"] (spP (c_Found_room_left C))) (g_wall_west : Fn P w K mg base CX0 "wall_west" 1 ["lines", "x", "y"] (spP c_wall_west)) : Mt P w K mg base C "room_of_cell" 4 ["self", "x", "y"] (spP (c_Found_room_of_cell C)) :=
  have nd := sc_Found_room_of_cell.nd
  mt_mk F sc_Found_room_of_cell (by first | (rintro ds Ω Ψ ⟨_, _, rfl, _⟩; rfl) | (rintro ds Ω Ψ ⟨_, _, _, rfl, _⟩; rfl) | (rintro ds Ω Ψ ⟨_, _, _, _, rfl, _⟩; rfl) | (rintro ds Ω Ψ ⟨_, _, _, _, _, rfl, _⟩; rfl) | (rintro ds Ω Ψ ⟨_, _, _, _, _, _, rfl, _⟩; rfl)) fun f cdv A outer s H E hr => by
    refine ⟨_, (pss_one (ps_ret (pe_mt T.cl m_room_left hr (by decide) (pvA okv_Found_room_of_cell 0 0) (pa_cons (pe_fn g_wall_west hr (by decide) (pa_cons (pfl K (pvA okv_Found_room_of_cell 0 0)) (pa_cons (pvA okv_Found_room_of_cell 1 2) (pa_cons (pvA okv_Found_room_of_cell 2 1) pa_nil))) (hg := glA okg_Found_room_of_cell 0)) pa_nil)))), ?_⟩
    rintro ds Ω Ψ ⟨rfl, n, x, y, rfl, hn, q⟩
    exact sw_ret (ev_mt (ev_var rfl) rfl (ar_cons (ev_fn (ar_cons (fF T (ev_var rfl) (by simp) (d := .py (.list ((linesF n).map dLine))) rfl) (ar_cons (ev_var rfl) (ar_cons (ev_var rfl) ar_nil))) fun Ψ q => ⟨_, _, _, rfl, q⟩) ar_nil) fun Ψ q => ⟨n, _, rfl, ⟨hn, fun s hs => west_isSide hs⟩, q⟩) q
abbrev dNats (l : List Nat) : PyData := .list (l.map fun k : Nat => .int (k : Int))
theorem eqO_nat {a : Option Nat} {k : Nat} : decide (a.map (fun k : Nat => (k : Int)) = some (k : Int)) = decide (a = some k) := by
  rw [Bool.eq_iff_iff, decide_eq_true_iff, decide_eq_true_iff]
  cases a with
  | none => simp
  | some b => simp; omega
def c_Found_rims_in (C : Addr) : Cp := fun ds Ψ => ∃ (n : Net) (k : Nat), ds = [.ab (foundM C n), I (k : Int)] ∧ NetF n ∧ Ψ (.py (dNats (rimsIn n k)))
theorem sc_Found_rims_in : FnScope ["self", "room", "rims", "number"] ["self", "room"] (defScope s_Found_rims_in) := ⟨rfl, rfl, rfl, by decide +kernel, rfl, by decide +kernel, by decide +kernel⟩
theorem okv_Found_rims_in : okL ["rims"] (defScope s_Found_rims_in) = true := by decide +kernel
theorem okg_Found_rims_in : okG ["len", "range"] (defScope s_Found_rims_in) = true := by decide +kernel
theorem ok_Found_rims_in (T : Tx K mg C) (F : Dm K C "rims_in" "Found.rims_in" s_Found_rims_in ["self", "room"]) (m_room_of_rim : Mt P w K mg base C "room_of_rim" 4 ["self", "number"] (spP (c_Found_room_of_rim C))) : Mt P w K mg base C "rims_in" 5 ["self", "room"] (spP (c_Found_rims_in C)) :=
  have nd := sc_Found_rims_in.nd
  mt_mk F sc_Found_rims_in (by first | (rintro ds Ω Ψ ⟨_, _, rfl, _⟩; rfl) | (rintro ds Ω Ψ ⟨_, _, _, rfl, _⟩; rfl) | (rintro ds Ω Ψ ⟨_, _, _, _, rfl, _⟩; rfl) | (rintro ds Ω Ψ ⟨_, _, _, _, _, rfl, _⟩; rfl) | (rintro ds Ω Ψ ⟨_, _, _, _, _, _, rfl, _⟩; rfl)) fun f cdv A outer s H E hr => by
    refine ⟨_, (pss_cons (ps_setLc (i := 2) (own := [("number", 3)]) rfl nd rfl rfl (sw_true rfl rfl rfl (by decide +kernel)) (pi_range1 (glA okg_Found_rims_in 1) T.b.range (pa_cons (kb_len K T.b (pa_cons (pfl K (pv 0)) pa_nil) (hg := glA okg_Found_rims_in 0)) pa_nil)) (blkOk_by (own := [("number", 3)]) (N := ["self", "room", "rims", "number"]) (sc := defScope s_Found_rims_in) (by decide +kernel)) (fun _ _ _ _ _ => (gn nd 3)) (fun _ _ _ _ _ => (pts_one (pt_cmpR op_le (pe_ix (ixl K) (pfl K (pv 0)) (pv 3) (fun _ _ => rfl)) pe_int (nomark _)))) (fun _ _ _ _ _ => (pv 3))) (pss_one (ps_ret (pe_lc (own := [("number", 3)]) rfl nd (pi_list (pvA okv_Found_rims_in 2 0)) (blkOk_by (own := [("number", 3)]) (N := ["self", "room", "rims", "number"]) (sc := defScope s_Found_rims_in) (by decide +kernel)) (fun _ _ _ _ _ => (gn nd 3)) (fun _ _ _ _ _ => (pts_one (pt_cmpR op_eq (pe_mt T.cl m_room_of_rim hr (by decide) (pv 0) (pa_cons (pv 3) pa_nil)) (pv 1) (nomark _)))) (fun _ _ _ _ _ => (pv 3)))))), ?_⟩
    rintro ds Ω Ψ ⟨rfl, n, k, rfl, hn, q⟩
    obtain ⟨rl, rk⟩ := rings_few hn.toNetL
    have al : (areasF n).length = (ringsF n).length := by unfold areasF; rw [List.length_map]
    have hl : I (((ringsF n).map dRing).length : Int) = I (((ringsF n).length : Nat) : Int) := by rw [List.length_map]
    refine sw_seq (sw_set (ev_lcR (α := Int) (ringsF n).length (fun k => decide ((areasF n).getD k 0 ≤ 0)) (fun k : Nat => .int (k : Int)) (ar_cons ((ev_lenT (fF T (ev_var rfl) (by simp) (d := .py (.tuple ((ringsF n).map dRing))) rfl)).eq hl) ar_nil) (to_name) (by omega) fun a ha => tg_name ⟨rfl, (ts_T (ev_iB (ev_ixL (fF T (ev_var rfl) (by simp) (d := .py (.list ((areasF n).map PyData.int))) rfl) (ev_var rfl) (atI_mapD (a0 := 0) (by omega))) ev_int)), fun _ => (ev_var rfl)⟩) ?_)
    have hrl : (rimsF n).length ≤ 200 := Nat.le_trans (List.length_filter_le _ _) (by rw [List.length_range]; exact rl)
    refine sw_ret (ev_lcL (rimsF n) (fun k : Nat => .int (k : Int)) (fun r => decide (roomF n (westOf n r) = some k)) (fun k : Nat => .int (k : Int)) (ev_var rfl) (to_name) (by omega) fun r hr => tg_name ⟨rfl, TsD.eq (ts_T (ev_eqO (b := some (k : Int)) (ev_mt (ev_var rfl) rfl (ar_cons (ev_var rfl) ar_nil) fun Ψ q => ⟨n, r, rfl, ⟨hn, List.mem_range.mp (List.mem_filter.mp hr).1⟩, q⟩) (ev_var rfl))) eqO_nat, fun _ => (ev_var rfl)⟩) q
def roomD (n : Net) (k : Nat) : PyData := .tuple [dRing ((ringsF n).getD k []), .tuple ((rimsIn n k).map fun r => dRing ((ringsF n).getD r [])), .int ((areasF n).getD k 0 + ((rimsIn n k).map fun r => (areasF n).getD r 0).sum)]
def c_Found_room (C : Addr) : Cp := fun ds Ψ => ∃ (n : Net) (k : Nat), ds = [.ab (foundM C n), I (k : Int)] ∧ (NetF n ∧ k < (ringsF n).length) ∧ Ψ (.py (roomD n k))
theorem sc_Found_room : FnScope ["self", "number", "rims", "area", "rim"] ["self", "number"] (defScope s_Found_room) := ⟨rfl, rfl, rfl, by decide +kernel, rfl, by decide +kernel, by decide +kernel⟩
theorem okv_Found_room : okL ["number", "rims", "area"] (defScope s_Found_room) = true := by decide +kernel
theorem okg_Found_room : okG ["sum", "tuple"] (defScope s_Found_room) = true := by decide +kernel
theorem ok_Found_room (T : Tx K mg C) (F : Dm K C "room" "Found.room" s_Found_room ["self", "number"]) (m_rims_in : Mt P w K mg base C "rims_in" 5 ["self", "room"] (spP (c_Found_rims_in C))) : Mt P w K mg base C "room" 6 ["self", "number"] (spP (c_Found_room C)) :=
  have nd := sc_Found_room.nd
  mt_mk F sc_Found_room (by first | (rintro ds Ω Ψ ⟨_, _, rfl, _⟩; rfl) | (rintro ds Ω Ψ ⟨_, _, _, rfl, _⟩; rfl) | (rintro ds Ω Ψ ⟨_, _, _, _, rfl, _⟩; rfl) | (rintro ds Ω Ψ ⟨_, _, _, _, _, rfl, _⟩; rfl) | (rintro ds Ω Ψ ⟨_, _, _, _, _, _, rfl, _⟩; rfl)) fun f cdv A outer s H E hr => by
    refine ⟨_, (pss_cons (ps_asg (pe_mt T.cl m_rims_in hr (by decide) (pv 0) (pa_cons (pvA okv_Found_room 1 0) pa_nil)) (gnA okv_Found_room nd 2 1)) (pss_cons (ps_asg (pe_op op_add (pe_ix (ixl K) (pfl K (pv 0)) (pvA okv_Found_room 1 0) (fun _ _ => rfl)) (pb_sum T.b (pa_cons (pe_lc (own := [("rim", 4)]) rfl nd (pi_list (pvA okv_Found_room 2 1)) (blkOk_by (own := [("rim", 4)]) (N := ["self", "number", "rims", "area", "rim"]) (sc := defScope s_Found_room) (by decide +kernel)) (fun _ _ _ _ _ => (gn nd 4)) (fun _ _ _ _ _ => pts_nil) (fun _ _ _ _ _ => (pe_ix (ixl K) (pfl K (pv 0)) (pv 4) (fun _ _ => rfl)))) pa_nil) (hg := glA okg_Found_room 0))) (gnA okv_Found_room nd 3 2)) (pss_one (ps_ret (pe_tup (pa_cons (pe_ix (ixt K) (pfl K (pv 0)) (pvA okv_Found_room 1 0) (fun _ _ => rfl)) (pa_cons (pb_tuple T.b (pa_cons (pe_lc (own := [("rim", 4)]) rfl nd (pi_list (pvA okv_Found_room 2 1)) (blkOk_by (own := [("rim", 4)]) (N := ["self", "number", "rims", "area", "rim"]) (sc := defScope s_Found_room) (by decide +kernel)) (fun _ _ _ _ _ => (gn nd 4)) (fun _ _ _ _ _ => pts_nil) (fun _ _ _ _ _ => (pe_ix (ixt K) (pfl K (pv 0)) (pv 4) (fun _ _ => rfl)))) pa_nil) (hg := glA okg_Found_room 1)) (pa_cons (pvA okv_Found_room 3 2) pa_nil)))))))), ?_⟩
    rintro ds Ω Ψ ⟨rfl, n, k, rfl, ⟨hn, hk⟩, q⟩
    obtain ⟨rl, rk⟩ := rings_few hn.toNetL
    have al : (areasF n).length = (ringsF n).length := by unfold areasF; rw [List.length_map]
    have hrl : (rimsIn n k).length ≤ 200 := Nat.le_trans (List.length_filter_le _ _) (Nat.le_trans (List.length_filter_le _ _) (by rw [List.length_range]; exact rl))
    have hri : ∀ r ∈ rimsIn n k, r < (ringsF n).length := fun r hr => List.mem_range.mp (List.mem_filter.mp (List.mem_filter.mp hr).1).1
    refine sw_seq (sw_set (ev_mt (ev_var rfl) rfl (ar_cons (ev_var rfl) ar_nil) fun Ψ q => ⟨n, k, rfl, hn, q⟩) ?_)
    refine sw_seq (sw_set (ev_i0 (ev_ixL (fF T (ev_var rfl) (by simp) (d := .py (.list ((areasF n).map PyData.int))) rfl) (ev_var rfl) (atI_mapD (a0 := 0) (by omega))) (ev_sum (ns := (rimsIn n k).map fun r => (areasF n).getD r 0) ((ev_lcL (rimsIn n k) (fun k : Nat => .int (k : Int)) (fun _ => true) (fun r => .int ((areasF n).getD r 0)) (ev_var rfl) (to_name) (by omega) fun r hr => tg_name ⟨rfl, ts_yes, fun _ => (ev_ixL (fF T (ev_var rfl) (by simp) (d := .py (.list ((areasF n).map PyData.int))) rfl) (ev_var rfl) (atI_mapD (a0 := 0) (by have := hri r hr; omega)))⟩).is (by rw [fil_true, List.map_map]; rfl)))) ?_)
    refine sw_ret (ev_tup (ds := [_, _, _]) (ar_cons (ev_ixT (fF T (ev_var rfl) (by simp) (d := .py (.tuple ((ringsF n).map dRing))) rfl) (ev_var rfl) (atI_mapD (a0 := []) hk)) (ar_cons (ev_tuple (ev_lcL (rimsIn n k) (fun k : Nat => .int (k : Int)) (fun _ => true) (fun r => dRing ((ringsF n).getD r [])) (ev_var rfl) (to_name) (by omega) fun r hr => tg_name ⟨rfl, ts_yes, fun _ => (ev_ixT (fF T (ev_var rfl) (by simp) (d := .py (.tuple ((ringsF n).map dRing))) rfl) (ev_var rfl) (atI_mapD (a0 := []) (hri r hr)))⟩)) (ar_cons (ev_var rfl) ar_nil)))) ?_
    rw [fil_true]
    exact q
def c_Found_room_rings (C : Addr) : Cp := fun ds Ψ => ∃ n : Net, ds = [.ab (foundM C n)] ∧ NetL n ∧ Ψ (.py (dNats (posF n)))
theorem sc_Found_room_rings : FnScope ["self", "number"] ["self"] (defScope s_Found_room_rings) := ⟨rfl, rfl, rfl, by decide +kernel, rfl, by decide +kernel, by decide +kernel⟩
theorem okg_Found_room_rings : okG ["len", "range"] (defScope s_Found_room_rings) = true := by decide +kernel
theorem ok_Found_room_rings (T : Tx K mg C) (F : Dm K C "room_rings" "Found.room_rings" s_Found_room_rings ["self"])  : Mt P w K mg base C "room_rings" 1 ["self"] (spP (c_Found_room_rings C)) :=
  have nd := sc_Found_room_rings.nd
  mt_mk F sc_Found_room_rings (by first | (rintro ds Ω Ψ ⟨_, _, rfl, _⟩; rfl) | (rintro ds Ω Ψ ⟨_, _, _, rfl, _⟩; rfl) | (rintro ds Ω Ψ ⟨_, _, _, _, rfl, _⟩; rfl) | (rintro ds Ω Ψ ⟨_, _, _, _, _, rfl, _⟩; rfl) | (rintro ds Ω Ψ ⟨_, _, _, _, _, _, rfl, _⟩; rfl)) fun f cdv A outer s H E hr => by
    refine ⟨_, (pss_one (ps_ret (pe_lc (own := [("number", 1)]) rfl nd (pi_range1 (glA okg_Found_room_rings 1) T.b.range (pa_cons (kb_len K T.b (pa_cons (pfl K (pv 0)) pa_nil) (hg := glA okg_Found_room_rings 0)) pa_nil)) (blkOk_by (own := [("number", 1)]) (N := ["self", "number"]) (sc := defScope s_Found_room_rings) (by decide +kernel)) (fun _ _ _ _ _ => (gn nd 1)) (fun _ _ _ _ _ => (pts_one (pt_cmpR op_gt (pe_ix (ixl K) (pfl K (pv 0)) (pv 1) (fun _ _ => rfl)) pe_int (nomark _)))) (fun _ _ _ _ _ => (pv 1))))), ?_⟩
    rintro ds Ω Ψ ⟨rfl, n, rfl, hn, q⟩
    obtain ⟨rl, rk⟩ := rings_few hn
    have al : (areasF n).length = (ringsF n).length := by unfold areasF; rw [List.length_map]
    have hl : I (((ringsF n).map dRing).length : Int) = I (((ringsF n).length : Nat) : Int) := by rw [List.length_map]
    exact sw_ret (ev_lcR (α := Int) (ringsF n).length (fun k => decide ((areasF n).getD k 0 > 0)) (fun k : Nat => .int (k : Int)) (ar_cons ((ev_lenT (fF T (ev_var rfl) (by simp) (d := .py (.tuple ((ringsF n).map dRing))) rfl)).eq hl) ar_nil) (to_name) (by omega) fun a ha => tg_name ⟨rfl, (ts_T (ev_iB (ev_ixL (fF T (ev_var rfl) (by simp) (d := .py (.list ((areasF n).map PyData.int))) rfl) (ev_var rfl) (atI_mapD (a0 := 0) (by omega))) ev_int)), fun _ => (ev_var rfl)⟩) q
theorem pos_len {n : Net} (hn : NetL n) : (posF n).length ≤ 200 := Nat.le_trans (List.length_filter_le _ _) (by rw [List.length_range]; exact (rings_few hn).1)
def c_rooms : Cp := fun ds Ψ => ∃ n : Net, ds = [.py (dNet n)] ∧ NetF n ∧ Ψ (.py (.tuple ((posF n).map (roomD n))))
theorem sc_rooms : FnScope ["net", "found", "number"] ["net"] (defScope s_rooms) := ⟨rfl, rfl, rfl, by decide +kernel, rfl, by decide +kernel, by decide +kernel⟩
theorem okv_rooms : okL ["net"] (defScope s_rooms) = true := by decide +kernel
theorem okg_rooms : okG ["Found", "tuple"] (defScope s_rooms) = true := by decide +kernel
theorem ok_rooms (T : Tx K mg C) (F : Df K mg "rooms" s_rooms ["net"]) (g_Found : MkF P w K mg base C 5) (m_room : Mt P w K mg base C "room" 6 ["self", "number"] (spP (c_Found_room C))) (m_room_rings : Mt P w K mg base C "room_rings" 1 ["self"] (spP (c_Found_room_rings C))) : Fn P w K mg base CX0 "rooms" 7 ["net"] (spP c_rooms) :=
  have nd := sc_rooms.nd
  fn_mk F sc_rooms (by first | (rintro ds Ω Ψ ⟨_, _, rfl, _⟩; rfl) | (rintro ds Ω Ψ ⟨_, _, _, rfl, _⟩; rfl) | (rintro ds Ω Ψ ⟨_, _, _, _, rfl, _⟩; rfl) | (rintro ds Ω Ψ ⟨_, _, _, _, _, rfl, _⟩; rfl) | (rintro ds Ω Ψ ⟨_, _, _, _, _, _, rfl, _⟩; rfl)) fun f cdv A outer s H E hr => by
    refine ⟨_, (pss_cons (ps_asg (pe_mkF g_Found hr (by decide) (pa_cons (pvA okv_rooms 0 0) pa_nil) (hg := glA okg_rooms 0)) (gn nd 1)) (pss_one (ps_ret (pb_tuple T.b (pa_cons (pe_lc (own := [("number", 2)]) rfl nd (pi_list (pe_mt0 T.cl m_room_rings hr (by decide) (pv 1))) (blkOk_by (own := [("number", 2)]) (N := ["net", "found", "number"]) (sc := defScope s_rooms) (by decide +kernel)) (fun _ _ _ _ _ => (gn nd 2)) (fun _ _ _ _ _ => pts_nil) (fun _ _ _ _ _ => (pe_mt T.cl m_room hr (by decide) (pv 1) (pa_cons (pv 2) pa_nil)))) pa_nil) (hg := glA okg_rooms 1))))), ?_⟩
    rintro ds Ω Ψ ⟨rfl, n, rfl, hn, q⟩
    have pl := pos_len hn.toNetL
    refine sw_seq (sw_set (ev_mkF (ar_cons (ev_var rfl) ar_nil) hn.toNetC) ?_)
    refine sw_ret (ev_tuple ((ev_lcL (posF n) (fun k : Nat => .int (k : Int)) (fun _ => true) (roomD n) (ev_mt (ev_var rfl) rfl ar_nil fun Ψ q => ⟨n, rfl, hn.toNetL, q⟩) (to_name) (by omega) fun k hk => tg_name ⟨rfl, ts_yes, fun _ => (ev_mt (ev_var rfl) rfl (ar_cons (ev_var rfl) ar_nil) fun Ψ q => ⟨n, k, rfl, ⟨hn, List.mem_range.mp (List.mem_filter.mp hk).1⟩, q⟩)⟩).is (by rw [fil_true]))) q
theorem ev_index {Γ : En} {Ω : Om} {to te : TE} {ns : List Nat} {k : Nat} (ho : EvD to Γ Ω (.py (dNats ns))) (h : EvD te Γ Ω (I (k : Int))) (hk : k ∈ ns) : EvD (tBM K "list" (rIndex K) to (tCons te tNil)) Γ Ω (I ((ns.idxOf k : Nat) : Int)) := fun Q q σ H0 H R s g kk =>
  ho.bind s g fun v H01 H1 s1 g1 c1 r1 => by
    cases r1 with
    | lst h1 rr =>
      rename_i a xs
      refine ⟨.inl ⟨rfl, xs, SqL.of (g1.ex _ _ h1)⟩, h.bind s1 g1 fun u H02 H2 s2 g2 c2 r2 => ?_⟩
      cases r2
      have e1 : ns.map (fun k : Nat => PyData.int (k : Int)) = (ns.map fun k : Nat => (k : Int)).map PyData.int := by rw [List.map_map]; rfl
      have rr' : RpL H01 xs ((ns.map fun k : Nat => (k : Int)).map PyData.int) := e1 ▸ rr
      have ex := RpL.ints rr'
      subst ex
      have hj : ns.idxOf k < ns.length := List.idxOf_lt_length_of_mem hk
      refine ⟨a, _, .int k, ns.idxOf k, .int k, rfl, rfl, SqL.of (g2.ex _ _ (c2.ex _ _ h1)), rfl, ?_, ?_, ?_, fun m z hm hz => ?_, kk _ _ Ω H02 H2 q g2 (c1.trans c2 g1.ex) (Rp.int _)⟩
      · rw [List.all_eq_true]
        intro x hx
        obtain ⟨y, _, rfl⟩ := List.mem_map.mp hx
        rfl
      · rw [List.getElem?_map, List.getElem?_map, List.getElem?_eq_getElem hj]
        simp
      · simp [eqV]
      · rw [List.getElem?_map, List.getElem?_map] at hz
        have hml : m < ns.length := by omega
        rw [List.getElem?_eq_getElem hml] at hz
        cases hz
        have hne : ns[m] ≠ k := fun e => by
          have := List.not_of_lt_findIdx (p := (· == k)) (xs := ns) (i := m) hm
          simp [e] at this
        show eqV (V.int _) (V.int _) = false
        simp [eqV]
        omega
def c_cell_of (C : Addr) : Cp := fun ds Ψ => ∃ (n : Net) (x y : Int), ds = [.ab (foundM C n), I x, I y] ∧ NetF n ∧ Ψ (.py (dOn (cellF n x y)))
theorem sc_cell_of : FnScope ["found", "x", "y", "ring"] ["found", "x", "y"] (defScope s_cell_of) := ⟨rfl, rfl, rfl, by decide +kernel, rfl, by decide +kernel, by decide +kernel⟩
theorem okv_cell_of : okL ["found", "y", "x", "ring"] (defScope s_cell_of) = true := by decide +kernel
theorem ok_cell_of (T : Tx K mg C) (F : Df K mg "cell_of" s_cell_of ["found", "x", "y"]) (m_room_of_cell : Mt P w K mg base C "room_of_cell" 4 ["self", "x", "y"] (spP (c_Found_room_of_cell C))) (m_room_rings : Mt P w K mg base C "room_rings" 1 ["self"] (spP (c_Found_room_rings C))) : Fn P w K mg base CX0 "cell_of" 5 ["found", "x", "y"] (spP (c_cell_of C)) :=
  have nd := sc_cell_of.nd
  fn_mk F sc_cell_of (by first | (rintro ds Ω Ψ ⟨_, _, rfl, _⟩; rfl) | (rintro ds Ω Ψ ⟨_, _, _, rfl, _⟩; rfl) | (rintro ds Ω Ψ ⟨_, _, _, _, rfl, _⟩; rfl) | (rintro ds Ω Ψ ⟨_, _, _, _, _, rfl, _⟩; rfl) | (rintro ds Ω Ψ ⟨_, _, _, _, _, _, rfl, _⟩; rfl)) fun f cdv A outer s H E hr => by
    refine ⟨_, (pss_cons (ps_asg (pe_mt T.cl m_room_of_cell hr (by decide) (pvA okv_cell_of 0 0) (pa_cons (pvA okv_cell_of 1 2) (pa_cons (pvA okv_cell_of 2 1) pa_nil))) (gnA okv_cell_of nd 3 3)) (pss_cons (ps_if (pt_cmpR op_isn (pvA okv_cell_of 3 3) pe_non (nomark _)) (pss_one (ps_ret pe_non)) pss_nil) (pss_one (ps_ret (pe_bm PySem.F.plainAttrs_list PySem.F.slot_list_index PySem.F.type_list_index mt_index (pe_mt0 T.cl m_room_rings hr (by decide) (pvA okv_cell_of 0 0)) (pa_cons (pvA okv_cell_of 3 3) pa_nil)))))), ?_⟩
    rintro ds Ω Ψ ⟨rfl, n, x, y, rfl, hn, q⟩
    refine sw_seq (sw_set (ev_mt (ev_var rfl) rfl (ar_cons (ev_var rfl) (ar_cons (ev_var rfl) ar_nil)) fun Ψ q => ⟨n, x, y, rfl, hn, q⟩) ?_)
    unfold cellF at q
    have hp := fun k => room_pos hn (o := westF (linesF n) x y) (fun s hs => west_isSide hs) (k := k)
    cases e : roomF n (westF (linesF n) x y) with
    | none =>
      rw [e] at q
      exact sw_seq (sw_if (ts_T (ev_isN (ev_var rfl))) (fun hb => sw_ret ev_non q) fun hb => by cases hb)
    | some k =>
      rw [e] at q
      refine sw_seq (sw_if (ts_T (ev_isN (ev_var rfl))) (fun hb => by cases hb) fun hb => sw_next ?_)
      exact sw_ret (ev_index (ev_mt (ev_var rfl) rfl ar_nil fun Ψ q => ⟨n, rfl, hn.toNetL, q⟩) (ev_var rfl) (hp k e)) q
def c_cell_at : Cp := fun ds Ψ => ∃ (n : Net) (x y : Int), ds = [.py (dNet n), I x, I y] ∧ NetF n ∧ Ψ (.py (dOn (cellF n x y)))
theorem sc_cell_at : FnScope ["net", "x", "y"] ["net", "x", "y"] (defScope s_cell_at) := ⟨rfl, rfl, rfl, by decide +kernel, rfl, by decide +kernel, by decide +kernel⟩
theorem okv_cell_at : okL ["y", "x", "net"] (defScope s_cell_at) = true := by decide +kernel
theorem okg_cell_at : okG ["Found", "cell_of"] (defScope s_cell_at) = true := by decide +kernel
theorem ok_cell_at (T : Tx K mg C) (F : Df K mg "cell_at" s_cell_at ["net", "x", "y"]) (g_Found : MkF P w K mg base C 5) (g_cell_of : Fn P w K mg base CX0 "cell_of" 5 ["found", "x", "y"] (spP (c_cell_of C))) : Fn P w K mg base CX0 "cell_at" 7 ["net", "x", "y"] (spP c_cell_at) :=
  have nd := sc_cell_at.nd
  fn_mk F sc_cell_at (by first | (rintro ds Ω Ψ ⟨_, _, rfl, _⟩; rfl) | (rintro ds Ω Ψ ⟨_, _, _, rfl, _⟩; rfl) | (rintro ds Ω Ψ ⟨_, _, _, _, rfl, _⟩; rfl) | (rintro ds Ω Ψ ⟨_, _, _, _, _, rfl, _⟩; rfl) | (rintro ds Ω Ψ ⟨_, _, _, _, _, _, rfl, _⟩; rfl)) fun f cdv A outer s H E hr => by
    refine ⟨_, (pss_one (ps_ret (pe_fn g_cell_of hr (by decide) (pa_cons (pe_mkF g_Found hr (by decide) (pa_cons (pvA okv_cell_at 0 2) pa_nil) (hg := glA okg_cell_at 0)) (pa_cons (pvA okv_cell_at 1 1) (pa_cons (pvA okv_cell_at 2 0) pa_nil))) (hg := glA okg_cell_at 1)))), ?_⟩
    rintro ds Ω Ψ ⟨rfl, n, x, y, rfl, hn, q⟩
    exact sw_ret (ev_fn (ar_cons (ev_mkF (ar_cons (ev_var rfl) ar_nil) hn.toNetC) (ar_cons (ev_var rfl) (ar_cons (ev_var rfl) ar_nil))) fun Ψ q => ⟨n, x, y, rfl, hn, q⟩) q
theorem cross_eq {n : Net} {o : Obl} : crossF n o = (n.2.map fun w => acrossF (endsF n w) o).any id := by
  rw [List.any_map]; rfl
def c_room_by (C : Addr) : Cp := fun ds Ψ => ∃ (n : Net) (o : Obl), ds = [.py (dNet n), .ab (foundM C n), .py (dOb o)] ∧ NetF n ∧ Ψ (.py (dOn (roomByF n o)))
theorem sc_room_by : FnScope ["net", "found", "oblong", "wall"] ["net", "found", "oblong"] (defScope s_room_by) := ⟨rfl, rfl, rfl, by decide +kernel, rfl, by decide +kernel, by decide +kernel⟩
theorem okv_room_by : okL ["found"] (defScope s_room_by) = true := by decide +kernel
theorem okg_room_by : okG ["any", "cell_of"] (defScope s_room_by) = true := by decide +kernel
theorem ok_room_by (T : Tx K mg C) (F : Df K mg "room_by" s_room_by ["net", "found", "oblong"]) (g_cell_of : Fn P w K mg base CX0 "cell_of" 5 ["found", "x", "y"] (spP (c_cell_of C))) (g_ends_of : Fn P w K mg base CX0 "ends_of" 2 ["net", "wall"] (spP c_ends_of)) (g_goes_across : Fn P w K mg base CX0 "goes_across" 2 ["ends", "oblong"] (spP c_goes_across)) : Fn P w K mg base CX0 "room_by" 6 ["net", "found", "oblong"] (spP (c_room_by C)) :=
  have nd := sc_room_by.nd
  fn_mk F sc_room_by (by first | (rintro ds Ω Ψ ⟨_, _, rfl, _⟩; rfl) | (rintro ds Ω Ψ ⟨_, _, _, rfl, _⟩; rfl) | (rintro ds Ω Ψ ⟨_, _, _, _, rfl, _⟩; rfl) | (rintro ds Ω Ψ ⟨_, _, _, _, _, rfl, _⟩; rfl) | (rintro ds Ω Ψ ⟨_, _, _, _, _, _, rfl, _⟩; rfl)) fun f cdv A outer s H E hr => by
    refine ⟨_, (pss_cons (ps_if (pt_val (kb_any K T.b (pa_cons (pe_lc (own := [("wall", 3)]) rfl nd (pi_tup (pe_ix (ixt K) (pv 0) pe_int (fun _ _ => rfl))) (blkOk_by (own := [("wall", 3)]) (N := ["net", "found", "oblong", "wall"]) (sc := defScope s_room_by) (by decide +kernel)) (fun _ _ _ _ _ => (gn nd 3)) (fun _ _ _ _ _ => pts_nil) (fun _ _ _ _ _ => (pe_fn g_goes_across hr (by decide) (pa_cons (pe_fn g_ends_of hr (by decide) (pa_cons (pv 0) (pa_cons (pv 3) pa_nil))) (pa_cons (pv 2) pa_nil))))) pa_nil) (hg := glA okg_room_by 0))) (pss_one (ps_ret pe_non)) pss_nil) (pss_one (ps_ret (pe_fn g_cell_of hr (by decide) (pa_cons (pvA okv_room_by 1 0) (pa_cons (pe_ix (ixt K) (pv 2) pe_int (fun _ _ => rfl)) (pa_cons (pe_ix (ixt K) (pv 2) pe_int (fun _ _ => rfl)) pa_nil))) (hg := glA okg_room_by 1))))), ?_⟩
    rintro ds Ω Ψ ⟨rfl, n, o, rfl, hn, q⟩
    have few := hn.few2
    refine sw_seq (sw_if (ts_B (ev_any (bs := n.2.map fun w => acrossF (endsF n w) o) ((ev_lcT n.2 dW (fun _ => true) (fun w => .bool (acrossF (endsF n w) o)) (ev_ixT (ev_var rfl) ev_int rfl) (to_name) (by omega) fun a ha => tg_name ⟨rfl, ts_yes, fun _ => (ev_fn (ar_cons (ev_fn (ar_cons (ev_var rfl) (ar_cons (ev_var rfl) ar_nil)) fun Ψ q => ⟨n, a, rfl, ⟨hn.toNetR, hn.ends a ha⟩, q⟩) (ar_cons (ev_var rfl) ar_nil)) fun Ψ q => ⟨_, _, rfl, q⟩)⟩).is (by rw [fil_true, List.map_map]; rfl)))) (fun hb => ?_) fun hb => sw_next ?_)
    · unfold roomByF at q
      rw [if_pos (by rw [cross_eq]; exact hb)] at q
      exact sw_ret ev_non q
    · unfold roomByF at q
      rw [if_neg (by rw [cross_eq, hb]; exact Bool.false_ne_true)] at q
      exact sw_ret (ev_fn (ar_cons (ev_var rfl) (ar_cons (ev_ixT (ev_var rfl) ev_int rfl) (ar_cons (ev_ixT (ev_var rfl) ev_int rfl) ar_nil))) fun Ψ q => ⟨n, _, _, rfl, hn, q⟩) q
def c_room_of : Cp := fun ds Ψ => ∃ (n : Net) (t : Thing), ds = [.py (dNet n), .py (dT t)] ∧ NetF n ∧ Ψ (.py (dOn (roomByF n t.2)))
theorem sc_room_of : FnScope ["net", "thing"] ["net", "thing"] (defScope s_room_of) := ⟨rfl, rfl, rfl, by decide +kernel, rfl, by decide +kernel, by decide +kernel⟩
theorem okv_room_of : okL ["thing", "net"] (defScope s_room_of) = true := by decide +kernel
theorem okg_room_of : okG ["Found", "room_by"] (defScope s_room_of) = true := by decide +kernel
theorem ok_room_of (T : Tx K mg C) (F : Df K mg "room_of" s_room_of ["net", "thing"]) (g_Found : MkF P w K mg base C 5) (g_room_by : Fn P w K mg base CX0 "room_by" 6 ["net", "found", "oblong"] (spP (c_room_by C))) : Fn P w K mg base CX0 "room_of" 7 ["net", "thing"] (spP c_room_of) :=
  have nd := sc_room_of.nd
  fn_mk F sc_room_of (by first | (rintro ds Ω Ψ ⟨_, _, rfl, _⟩; rfl) | (rintro ds Ω Ψ ⟨_, _, _, rfl, _⟩; rfl) | (rintro ds Ω Ψ ⟨_, _, _, _, rfl, _⟩; rfl) | (rintro ds Ω Ψ ⟨_, _, _, _, _, rfl, _⟩; rfl) | (rintro ds Ω Ψ ⟨_, _, _, _, _, _, rfl, _⟩; rfl)) fun f cdv A outer s H E hr => by
    refine ⟨_, (pss_one (ps_ret (pe_fn g_room_by hr (by decide) (pa_cons (pvA okv_room_of 0 1) (pa_cons (pe_mkF g_Found hr (by decide) (pa_cons (pvA okv_room_of 0 1) pa_nil) (hg := glA okg_room_of 0)) (pa_cons (pe_slice (slt K) (pvA okv_room_of 1 0) (po_some pe_int) po_none) pa_nil))) (hg := glA okg_room_of 1)))), ?_⟩
    rintro ds Ω Ψ ⟨rfl, n, t, rfl, hn, q⟩
    exact sw_ret (ev_fn (ar_cons (ev_var rfl) (ar_cons (ev_mkF (ar_cons (ev_var rfl) ar_nil) hn.toNetC) (ar_cons (ev_slT (ev_var rfl) po_c po_n) ar_nil))) fun Ψ q => ⟨n, t.2, rfl, hn, q⟩) q
end
end My
end

section
set_option Elab.async false
set_option linter.all false
set_option maxRecDepth 100000
set_option maxHeartbeats 4000000
namespace My
open PySem G
/-! the mirror of plans -/
def axF (h : Hold) (p : Pt) : Int := if h.2.1 = ("x" : Str) then p.1 else p.2
def holdF (n : Net) (h : Hold) : Bool := decide (h.2.2.2.2.1 ≤ axF h (spot n h.2.2.2.1) - axF h (spot n h.2.2.1)) && decide (axF h (spot n h.2.2.2.1) - axF h (spot n h.2.2.1) ≤ h.2.2.2.2.2)
def HoldR (n : Net) (h : Hold) : Prop := (h.2.1 = ("x" : Str) ∨ h.2.1 = ("y" : Str)) ∧ h.2.2.1 ∈ keys n ∧ h.2.2.2.1 ∈ keys n
/-- a plan that the defs can read -/
structure PlanR (p : Plan) : Prop where
  net : NetF p.1
  few : p.1.1.length ≤ 30
  ops : OpsR p.1 p.2.2.1
  fewO : p.2.2.1.length ≤ 15
  fewT : p.2.2.2.length ≤ 10
def obsF (p : Plan) : List Obl := p.2.2.2.map (·.2) ++ allPlacesF p.1 p.2.2.1
def insU (x : Int) : List Int → List Int
  | [] => [x]
  | y :: ys => if x < y then x :: y :: ys else if x = y then y :: ys else y :: insU x ys
def rawEnds (p : Plan) (up : Bool) : List Int := (p.1.1.map fun c => if up then c.2.2 else c.2.1) ++ (obsF p).map fun o => if up then o.2.1 + o.2.2.2 else o.1 + o.2.2.1
def endsOf (p : Plan) (up : Bool) : List Int := (rawEnds p up).foldr insU []
theorem mem_insU {x z : Int} : ∀ {l : List Int}, z ∈ insU x l ↔ z = x ∨ z ∈ l
  | [] => by simp [insU]
  | y :: ys => by
    unfold insU
    split
    · simp
    · split
      · rename_i h; subst h; simp
      · simp only [List.mem_cons, mem_insU (l := ys)]
        constructor
        · rintro (h | h | h)
          · exact .inr (.inl h)
          · exact .inl h
          · exact .inr (.inr h)
        · rintro (h | h | h)
          · exact .inr (.inl h)
          · exact .inl h
          · exact .inr (.inr h)
theorem insU_pw {x : Int} : ∀ {l : List Int}, l.Pairwise (· < ·) → (insU x l).Pairwise (· < ·)
  | [], _ => by simp [insU]
  | y :: ys, h => by
    unfold insU
    rw [List.pairwise_cons] at h
    split
    · rename_i hx
      refine List.pairwise_cons.mpr ⟨fun z hz => ?_, List.pairwise_cons.mpr h⟩
      rcases List.mem_cons.mp hz with e | hz
      · omega
      · have := h.1 z hz; omega
    · split
      · exact List.pairwise_cons.mpr h
      · refine List.pairwise_cons.mpr ⟨fun z hz => ?_, insU_pw h.2⟩
        rcases mem_insU.mp hz with e | hz
        · omega
        · exact h.1 z hz
theorem ends_pw {l : List Int} : (l.foldr insU []).Pairwise (· < ·) := by
  induction l with
  | nil => exact .nil
  | cons a l ih => exact insU_pw ih
theorem ends_mem {l : List Int} {z : Int} : z ∈ l.foldr insU [] ↔ z ∈ l := by
  induction l with
  | nil => simp
  | cons a l ih => rw [List.foldr_cons, mem_insU, ih, List.mem_cons]
theorem pw_unique : ∀ {a b : List Int}, a.Pairwise (· < ·) → b.Pairwise (· < ·) → (∀ z, z ∈ a ↔ z ∈ b) → a = b
  | [], [], _, _, _ => rfl
  | [], y :: ys, _, _, h => by have := (h y).mpr List.mem_cons_self; cases this
  | x :: xs, [], _, _, h => by have := (h x).mp List.mem_cons_self; cases this
  | x :: xs, y :: ys, ha, hb, h => by
    rw [List.pairwise_cons] at ha hb
    have e : x = y := by
      rcases List.mem_cons.mp ((h x).mp List.mem_cons_self) with e | e
      · exact e
      · rcases List.mem_cons.mp ((h y).mpr List.mem_cons_self) with e' | e'
        · exact e'.symm
        · have h1 := hb.1 x e
          have h2 := ha.1 y e'
          omega
    subst e
    refine congrArg _ (pw_unique ha.2 hb.2 fun z => ?_)
    constructor
    · intro hz
      rcases List.mem_cons.mp ((h z).mp (List.mem_cons_of_mem _ hz)) with e | e
      · have := ha.1 z hz; omega
      · exact e
    · intro hz
      rcases List.mem_cons.mp ((h z).mpr (List.mem_cons_of_mem _ hz)) with e | e
      · have := hb.1 z hz; omega
      · exact e
def barW (n : Net) (y w h : Int) (wl : Wall) : Option (Int × Int) := if isUp (endsF n wl) then
    (if (endsF n wl).1.2 < y + h ∧ y < (endsF n wl).2.2 then some ((endsF n wl).1.1 - w, (endsF n wl).1.1) else none)
  else if y < (endsF n wl).1.2 ∧ (endsF n wl).1.2 < y + h then some ((endsF n wl).1.1 - w, (endsF n wl).2.1) else none
def barO (y w h : Int) (o : Obl) : Option (Int × Int) := if y < o.2.1 + o.2.2.2 ∧ o.2.1 < y + h then some (o.1 - w, o.1 + o.2.2.1) else none
def barF (p : Plan) (y w h : Int) : List (Int × Int) := p.1.2.filterMap (barW p.1 y w h) ++ (obsF p).filterMap (barO y w h)
def isBar (l : List (Int × Int)) (x : Int) : Bool := l.any fun s => decide (s.1 < x) && decide (x < s.2)
def goodF (p : Plan) (room : Nat) (w h : Int) (y x : Int) : Bool := !isBar (barF p y w h) x && decide (cellF p.1 x y = some room)
def rowF (p : Plan) (room : Nat) (w h : Int) (y : Int) (xs : List Int) : Option Pt := (xs.find? (goodF p room w h y)).map fun x => (x, y)
def colF (p : Plan) (room : Nat) (w h : Int) (ys : List Int) : Option Pt := ys.findSome? fun y => rowF p room w h y (endsOf p false)
def fitF (p : Plan) (room : Nat) (w h : Int) : Option Pt := colF p room w h (endsOf p true)
def okThing (n : Net) (os : List Opening) (ts : List Thing) (t : Thing) : Bool := (roomByF n t.2).isSome && !((allPlacesF n os ++ (ts.filter fun o => !decide (o.1 = t.1)).map (·.2)).any (meetF t.2))
def badF (n : Net) (os : List Opening) (ts : List Thing) : List Str := (ts.filter fun t => !okThing n os ts t).map (·.1)
def misD (bad : List Str) : PyData := if bad.map PyData.str = [] then .none else (bad.map PyData.str).getD (bestAt (bad.map PyData.str)) .none
def putTs (ts : List Thing) (t : Thing) : List Thing := (ts.filter (fun o => !decide (o.1 = t.1)) ++ [t]).mergeSort (PySem.W.dataLe false dT)
end My
end

section
set_option Elab.async false
set_option linter.all false
set_option maxRecDepth 100000
set_option maxHeartbeats 4000000
namespace My
open PySem L2 G
open PySem.W (alike)
open PyProof.Rows (envOfC)
section
variable {P : Program} {w : World} {K : PySem.W.Frag} {mg : Str → Option Value} {base : Heap} {C : Addr}
def c_is_whole : Cp := fun ds Ψ => ∃ i lo hi : Int, ds = [I i, I lo, I hi] ∧ Ψ (B (decide (lo ≤ i) && decide (i ≤ hi)))
theorem sc_is_whole : FnScope ["thing", "least", "most"] ["thing", "least", "most"] (defScope s_is_whole) := ⟨rfl, rfl, rfl, by decide +kernel, rfl, by decide +kernel, by decide +kernel⟩
theorem okv_is_whole : okL ["thing", "least", "most"] (defScope s_is_whole) = true := by decide +kernel
theorem okg_is_whole : okG ["int", "isinstance", "bool"] (defScope s_is_whole) = true := by decide +kernel
theorem ok_is_whole (T : Tx K mg C) (F : Df K mg "is_whole" s_is_whole ["thing", "least", "most"])  : Fn P w K mg base CX0 "is_whole" 1 ["thing", "least", "most"] (spP c_is_whole) :=
  have nd := sc_is_whole.nd
  fn_mk F sc_is_whole (by first | (rintro ds Ω Ψ ⟨_, _, rfl, _⟩; rfl) | (rintro ds Ω Ψ ⟨_, _, _, rfl, _⟩; rfl) | (rintro ds Ω Ψ ⟨_, _, _, _, rfl, _⟩; rfl) | (rintro ds Ω Ψ ⟨_, _, _, _, _, rfl, _⟩; rfl) | (rintro ds Ω Ψ ⟨_, _, _, _, _, _, rfl, _⟩; rfl)) fun f cdv A outer s H E hr => by
    refine ⟨_, (pss_one (ps_ret (pe_and (pb_isi T.b (pa_cons (pvA okv_is_whole 0 0) (pa_cons (pg_int T.b (hg := glA okg_is_whole 0)) pa_nil)) (hg := glA okg_is_whole 1)) (pe_and (pe_not (pb_isi T.b (pa_cons (pvA okv_is_whole 0 0) (pa_cons (pg_bool T.b (hg := glA okg_is_whole 2)) pa_nil)) (hg := glA okg_is_whole 1))) (pe_one (pe_chain op_le op_le (pvA okv_is_whole 1 1) (pvA okv_is_whole 0 0) (pvA okv_is_whole 2 2))))))), ?_⟩
    rintro ds Ω Ψ ⟨rfl, i, lo, hi, rfl, q⟩
    exact sw_ret ((ev_and (ev_isi (b := true) (ev_var rfl) (show kitB "int" "int" = some true by decide +kernel)) fun _ => (ev_and (ev_not (ev_isi (b := false) (ev_var rfl) (show kitB "int" "bool" = some false by decide +kernel))) fun _ => (ev_chain (ev_var rfl) (ev_var rfl) (ev_var rfl))))) q
def boxed (p : Pt) : Bool := (decide (0 ≤ p.1) && decide (p.1 ≤ 1000000)) && (decide (0 ≤ p.2) && decide (p.2 ≤ 1000000))
def c_is_spot : Cp := fun ds Ψ => ∃ p : Pt, ds = [.py (dPt p)] ∧ Ψ (B (boxed p))
theorem sc_is_spot : FnScope ["thing"] ["thing"] (defScope s_is_spot) := ⟨rfl, rfl, rfl, by decide +kernel, rfl, by decide +kernel, by decide +kernel⟩
theorem okv_is_spot : okL ["thing"] (defScope s_is_spot) = true := by decide +kernel
theorem okg_is_spot : okG ["tuple", "isinstance", "len", "FARTHEST", "is_whole"] (defScope s_is_spot) = true := by decide +kernel
theorem ok_is_spot (T : Tx K mg C) (F : Df K mg "is_spot" s_is_spot ["thing"]) (g_is_whole : Fn P w K mg base CX0 "is_whole" 1 ["thing", "least", "most"] (spP c_is_whole)) : Fn P w K mg base CX0 "is_spot" 2 ["thing"] (spP c_is_spot) :=
  have nd := sc_is_spot.nd
  fn_mk F sc_is_spot (by first | (rintro ds Ω Ψ ⟨_, _, rfl, _⟩; rfl) | (rintro ds Ω Ψ ⟨_, _, _, rfl, _⟩; rfl) | (rintro ds Ω Ψ ⟨_, _, _, _, rfl, _⟩; rfl) | (rintro ds Ω Ψ ⟨_, _, _, _, _, rfl, _⟩; rfl) | (rintro ds Ω Ψ ⟨_, _, _, _, _, _, rfl, _⟩; rfl)) fun f cdv A outer s H E hr => by
    refine ⟨_, (pss_cons (ps_if (PW.pt (pw_or (pt_not (pt_val (pb_isi T.b (pa_cons (pvA okv_is_spot 0 0) (pa_cons (pg_tuple T.b (hg := glA okg_is_spot 0)) pa_nil)) (hg := glA okg_is_spot 1)))) (pw_or1 (pt_cmpR op_ne (kb_len K T.b (pa_cons (pvA okv_is_spot 0 0) pa_nil) (hg := glA okg_is_spot 2)) pe_int (nomark _))))) (pss_one (ps_ret pe_bl)) pss_nil) (pss_one (ps_ret (pe_and (pe_fn g_is_whole hr (by decide) (pa_cons (pe_ix (ixt K) (pvA okv_is_spot 0 0) pe_int (fun _ _ => rfl)) (pa_cons pe_int (pa_cons (pe_gi T.FARTHEST (hg := glA okg_is_spot 3)) pa_nil))) (hg := glA okg_is_spot 4)) (pe_one (pe_fn g_is_whole hr (by decide) (pa_cons (pe_ix (ixt K) (pvA okv_is_spot 0 0) pe_int (fun _ _ => rfl)) (pa_cons pe_int (pa_cons (pe_gi T.FARTHEST (hg := glA okg_is_spot 3)) pa_nil))) (hg := glA okg_is_spot 4))))))), ?_⟩
    rintro ds Ω Ψ ⟨rfl, p, rfl, q⟩
    refine sw_seq (sw_if (ts_or (ts_not (ts_B (ev_isi (b := true) (ev_var rfl) (show kitB "tuple" "tuple" = some true by decide +kernel)))) fun _ => (ts_T (ev_neI (ev_lenT (ev_var rfl)) ev_int))) (fun hb => by simp at hb) fun hb => sw_next ?_)
    exact sw_ret (ev_and (ev_fn (ar_cons (ev_ixT (ev_var rfl) ev_int rfl) (ar_cons ev_int (ar_cons ev_int ar_nil))) fun Ψ q => ⟨_, _, _, rfl, q⟩) fun _ => (ev_fn (ar_cons (ev_ixT (ev_var rfl) ev_int rfl) (ar_cons ev_int (ar_cons ev_int ar_nil))) fun Ψ q => ⟨_, _, _, rfl, q⟩)) q
def c_is_name : Cp := fun ds Ψ => ∃ u : Unit, ds = [S "newthing"] ∧ True ∧ Ψ (B true)
theorem nt_len : ((("newthing" : Str).length : Nat) : Int) = 8 := by decide +kernel
theorem nt_all : ((((("newthing" : Str).cps.toList.filter fun _ => true).map fun c => decide (c ∈ ("abcdefghijklmnopqrstuvwxyz" : Str).cps.toList))).all id) = true := by decide +kernel
theorem sc_is_name : FnScope ["thing", "sign"] ["thing"] (defScope s_is_name) := ⟨rfl, rfl, rfl, by decide +kernel, rfl, by decide +kernel, by decide +kernel⟩
theorem okv_is_name : okL ["thing"] (defScope s_is_name) = true := by decide +kernel
theorem okg_is_name : okG ["str", "isinstance", "len", "all"] (defScope s_is_name) = true := by decide +kernel
theorem ok_is_name (T : Tx K mg C) (F : Df K mg "is_name" s_is_name ["thing"])  : Fn P w K mg base CX0 "is_name" 1 ["thing"] (spP c_is_name) :=
  have nd := sc_is_name.nd
  fn_mk F sc_is_name (by first | (rintro ds Ω Ψ ⟨_, _, rfl, _⟩; rfl) | (rintro ds Ω Ψ ⟨_, _, _, rfl, _⟩; rfl) | (rintro ds Ω Ψ ⟨_, _, _, _, rfl, _⟩; rfl) | (rintro ds Ω Ψ ⟨_, _, _, _, _, rfl, _⟩; rfl) | (rintro ds Ω Ψ ⟨_, _, _, _, _, _, rfl, _⟩; rfl)) fun f cdv A outer s H E hr => by
    refine ⟨_, (pss_cons (ps_if (PW.pt (pw_or (pt_not (pt_val (pb_isi T.b (pa_cons (pvA okv_is_name 0 0) (pa_cons (pg_str T.b (hg := glA okg_is_name 0)) pa_nil)) (hg := glA okg_is_name 1)))) (pw_or1 (pt_not (pt_chain op_le op_le pe_int (pb_lenS T.b (pa_cons (pvA okv_is_name 0 0) pa_nil) (hg := glA okg_is_name 2)) pe_int))))) (pss_one (ps_ret pe_bl)) pss_nil) (pss_one (ps_ret (pb_all T.b (pa_cons (pe_lc (own := [("sign", 1)]) rfl nd (pi_str (pvA okv_is_name 0 0)) (blkOk_by (own := [("sign", 1)]) (N := ["thing", "sign"]) (sc := defScope s_is_name) (by decide +kernel)) (fun _ _ _ _ _ => (gn nd 1)) (fun _ _ _ _ _ => pts_nil) (fun _ _ _ _ _ => (pe_cmpR op_inS (pv 1) pe_str rfl))) pa_nil) (hg := glA okg_is_name 3))))), ?_⟩
    rintro ds Ω Ψ ⟨rfl, _, rfl, _, q⟩
    refine sw_seq (sw_if (ts_or (ts_not (ts_B (ev_isi (b := true) (ev_var rfl) (by decide +kernel)))) fun _ => (ts_not (ts_T (ev_chain ev_int (ev_lenS (ev_var rfl) (by decide +kernel)) ev_int)))) (fun hb => ?_) fun hb => sw_next ?_)
    · rw [nt_len] at hb; simp at hb
    · refine sw_ret ((ev_all (bs := ((("newthing" : Str).cps.toList.filter fun _ => true).map fun c => decide (c ∈ ("abcdefghijklmnopqrstuvwxyz" : Str).cps.toList))) ((ev_lcS (fun _ => true) (fun c => .bool (decide (c ∈ ("abcdefghijklmnopqrstuvwxyz" : Str).cps.toList))) (ev_var rfl) (to_name) (by decide +kernel) fun c hc => tg_name ⟨rfl, ts_yes, fun _ => (ev_inS (ev_var rfl) ev_str)⟩).is (by rw [List.map_map]; rfl))).eq (by rw [nt_all])) q
abbrev newT (o : Obl) : Thing := ("newthing", o)
def fairO (o : Obl) : Prop := boxed (o.1, o.2.1) = true ∧ (1 ≤ o.2.2.1 ∧ o.2.2.1 ≤ 1000000) ∧ (1 ≤ o.2.2.2 ∧ o.2.2.2 ≤ 1000000)
def c_is_thing : Cp := fun ds Ψ => ∃ o : Obl, ds = [.py (dT (newT o))] ∧ fairO o ∧ Ψ (B true)
theorem sc_is_thing : FnScope ["thing"] ["thing"] (defScope s_is_thing) := ⟨rfl, rfl, rfl, by decide +kernel, rfl, by decide +kernel, by decide +kernel⟩
theorem okv_is_thing : okL ["thing"] (defScope s_is_thing) = true := by decide +kernel
theorem okg_is_thing : okG ["tuple", "isinstance", "len", "is_name", "is_spot", "FARTHEST", "is_whole"] (defScope s_is_thing) = true := by decide +kernel
theorem ok_is_thing (T : Tx K mg C) (F : Df K mg "is_thing" s_is_thing ["thing"]) (g_is_name : Fn P w K mg base CX0 "is_name" 1 ["thing"] (spP c_is_name)) (g_is_spot : Fn P w K mg base CX0 "is_spot" 2 ["thing"] (spP c_is_spot)) (g_is_whole : Fn P w K mg base CX0 "is_whole" 1 ["thing", "least", "most"] (spP c_is_whole)) : Fn P w K mg base CX0 "is_thing" 3 ["thing"] (spP c_is_thing) :=
  have nd := sc_is_thing.nd
  fn_mk F sc_is_thing (by first | (rintro ds Ω Ψ ⟨_, _, rfl, _⟩; rfl) | (rintro ds Ω Ψ ⟨_, _, _, rfl, _⟩; rfl) | (rintro ds Ω Ψ ⟨_, _, _, _, rfl, _⟩; rfl) | (rintro ds Ω Ψ ⟨_, _, _, _, _, rfl, _⟩; rfl) | (rintro ds Ω Ψ ⟨_, _, _, _, _, _, rfl, _⟩; rfl)) fun f cdv A outer s H E hr => by
    refine ⟨_, (pss_cons (ps_if (PW.pt (pw_or (pt_not (pt_val (pb_isi T.b (pa_cons (pvA okv_is_thing 0 0) (pa_cons (pg_tuple T.b (hg := glA okg_is_thing 0)) pa_nil)) (hg := glA okg_is_thing 1)))) (pw_or (pt_cmpR op_ne (kb_len K T.b (pa_cons (pvA okv_is_thing 0 0) pa_nil) (hg := glA okg_is_thing 2)) pe_int (nomark _)) (pw_or (pt_not (pt_val (pe_fn g_is_name hr (by decide) (pa_cons (pe_ix (ixt K) (pvA okv_is_thing 0 0) pe_int (fun _ _ => rfl)) pa_nil) (hg := glA okg_is_thing 3)))) (pw_or1 (pt_not (pt_val (pe_fn g_is_spot hr (by decide) (pa_cons (pe_slice (slt K) (pvA okv_is_thing 0 0) (po_some pe_int) (po_some pe_int)) pa_nil) (hg := glA okg_is_thing 4))))))))) (pss_one (ps_ret pe_bl)) pss_nil) (pss_one (ps_ret (pe_and (pe_fn g_is_whole hr (by decide) (pa_cons (pe_ix (ixt K) (pvA okv_is_thing 0 0) pe_int (fun _ _ => rfl)) (pa_cons pe_int (pa_cons (pe_gi T.FARTHEST (hg := glA okg_is_thing 5)) pa_nil))) (hg := glA okg_is_thing 6)) (pe_one (pe_fn g_is_whole hr (by decide) (pa_cons (pe_ix (ixt K) (pvA okv_is_thing 0 0) pe_int (fun _ _ => rfl)) (pa_cons pe_int (pa_cons (pe_gi T.FARTHEST (hg := glA okg_is_thing 5)) pa_nil))) (hg := glA okg_is_thing 6))))))), ?_⟩
    rintro ds Ω Ψ ⟨rfl, o, rfl, ⟨h1, h2, h3⟩, q⟩
    refine sw_seq (sw_if (ts_or (ts_not (ts_B (ev_isi (b := true) (ev_var rfl) (show kitB "tuple" "tuple" = some true by decide +kernel)))) fun _ => (ts_or (ts_T (ev_neI (ev_lenT (ev_var rfl)) ev_int)) fun _ => (ts_or (ts_not (ts_B (ev_fn (d := B true) (ar_cons (ev_ixT (ev_var rfl) ev_int rfl) ar_nil) fun Ψ q => ⟨(), rfl, trivial, q⟩))) fun _ => (ts_not (ts_B (ev_fn (d := B (boxed (o.1, o.2.1))) (ar_cons (ev_slT (ev_var rfl) po_c po_c) ar_nil) fun Ψ q => ⟨_, rfl, q⟩)))))) (fun hb => ?_) fun hb => sw_next ?_)
    · rw [h1] at hb; simp at hb
    · refine sw_ret (ev_and (ev_fn (ar_cons (ev_ixT (ev_var rfl) ev_int rfl) (ar_cons ev_int (ar_cons ev_int ar_nil))) fun Ψ q => ⟨_, _, _, rfl, q⟩) fun _ => (ev_fn (ar_cons (ev_ixT (ev_var rfl) ev_int rfl) (ar_cons ev_int (ar_cons ev_int ar_nil))) fun Ψ q => ⟨_, _, _, rfl, q⟩)) ?_
      have e : ((decide (1 ≤ o.2.2.1) && decide (o.2.2.1 ≤ 1000000)) && (decide (1 ≤ o.2.2.2) && decide (o.2.2.2 ≤ 1000000))) = true := by simp [h2, h3]
      exact (congrArg (fun b => Ψ (B b) []) e).mpr q
def c_in_place : Cp := fun ds Ψ => ∃ (ts : List Thing) (t : Thing), ds = [.py (.tuple (ts.map dT)), .py (dT t)] ∧ ts.length ≤ 1000 ∧ Ψ (.py (.tuple ((putTs ts t).map dT)))
theorem sc_in_place : FnScope ["things", "thing", "one"] ["things", "thing"] (defScope s_in_place) := ⟨rfl, rfl, rfl, by decide +kernel, rfl, by decide +kernel, by decide +kernel⟩
theorem okv_in_place : okL ["things"] (defScope s_in_place) = true := by decide +kernel
theorem okg_in_place : okG ["sorted", "tuple"] (defScope s_in_place) = true := by decide +kernel
theorem ok_in_place (T : Tx K mg C) (F : Df K mg "in_place" s_in_place ["things", "thing"])  : Fn P w K mg base CX0 "in_place" 1 ["things", "thing"] (spP c_in_place) :=
  have nd := sc_in_place.nd
  fn_mk F sc_in_place (by first | (rintro ds Ω Ψ ⟨_, _, rfl, _⟩; rfl) | (rintro ds Ω Ψ ⟨_, _, _, rfl, _⟩; rfl) | (rintro ds Ω Ψ ⟨_, _, _, _, rfl, _⟩; rfl) | (rintro ds Ω Ψ ⟨_, _, _, _, _, rfl, _⟩; rfl) | (rintro ds Ω Ψ ⟨_, _, _, _, _, _, rfl, _⟩; rfl)) fun f cdv A outer s H E hr => by
    refine ⟨_, (pss_one (ps_ret (pb_tuple T.b (pa_cons (pb_sorted T.b hr (pa_cons (pe_op op_cat (pe_lc (own := [("one", 2)]) rfl nd (pi_tup (pvA okv_in_place 0 0)) (blkOk_by (own := [("one", 2)]) (N := ["things", "thing", "one"]) (sc := defScope s_in_place) (by decide +kernel)) (fun _ _ _ _ _ => (gn nd 2)) (fun _ _ _ _ _ => (pts_one (pt_cmpR op_ne (pe_ix (ixt K) (pv 2) pe_int (fun _ _ => rfl)) (pe_ix (ixt K) (pv 1) pe_int (fun _ _ => rfl)) (nomark _)))) (fun _ _ _ _ _ => (pv 2))) (pe_lst (pa_cons (pv 1) pa_nil))) pa_nil) (hg := glA okg_in_place 0)) pa_nil) (hg := glA okg_in_place 1)))), ?_⟩
    rintro ds Ω Ψ ⟨rfl, ts, t, rfl, hz, q⟩
    have hfl : (ts.filter fun o => !decide (o.1 = t.1)).length ≤ 1000 := Nat.le_trans (List.length_filter_le _ _) hz
    refine sw_ret (ev_tuple (ev_srtE dT (PySem.W.dataLe false dT) (bs := ts.filter (fun o => !decide (o.1 = t.1)) ++ [t]) ((ev_catL (ev_lcT ts dT (fun o => !decide (o.1 = t.1)) dT (ev_var rfl) (to_name) (by omega) fun a ha => tg_name ⟨rfl, (ts_T (ev_neS (ev_ixT (ev_var rfl) ev_int rfl) (ev_ixT (ev_var rfl) ev_int rfl))), fun _ => (ev_var rfl)⟩) (ev_lst (ds := [_]) (ar_cons (ev_var rfl) ar_nil)) (by rw [List.length_map]; simp only [List.length_cons, List.length_nil]; omega)).is (by rw [List.map_append]; rfl)) (fun a _ b _ => rfl) (fun a _ => ⟨_, _, rfl⟩) (fun a _ => Nat.le_of_ble_eq_true rfl) ?_ (fun a _ b _ => rfl))) q
    rw [List.length_append]; simp only [List.length_cons, List.length_nil]; omega
def c_first_misfit : Cp := fun ds Ψ => ∃ (n : Net) (os : List Opening) (ts : List Thing), ds = [.py (dNet n), .py (.tuple (os.map dO)), .py (.tuple (ts.map dT))] ∧ (NetF n ∧ OpsR n os ∧ ts.length ≤ 1000) ∧ Ψ (.py (misD (badF n os ts)))
theorem isNon_on (o : Option Nat) : G.isNon (dOn o) = !o.isSome := by cases o <;> rfl
theorem sc_first_misfit : FnScope ["net", "openings", "things", "found", "doors", "bad", "thing", "others", "other"] ["net", "openings", "things"] (defScope s_first_misfit) := ⟨rfl, rfl, rfl, by decide +kernel, rfl, by decide +kernel, by decide +kernel⟩
theorem okv_first_misfit : okL ["net", "found", "openings", "doors", "bad", "things", "others"] (defScope s_first_misfit) = true := by decide +kernel
theorem okg_first_misfit : okG ["Found", "all_places", "room_by", "any"] (defScope s_first_misfit) = true := by decide +kernel
theorem ok_first_misfit (T : Tx K mg C) (F : Df K mg "first_misfit" s_first_misfit ["net", "openings", "things"]) (g_Found : MkF P w K mg base C 5) (g_all_places : Fn P w K mg base CX0 "all_places" 6 ["net", "openings"] (spP c_all_places)) (g_do_meet : Fn P w K mg base CX0 "do_meet" 1 ["one", "other"] (spP c_do_meet)) (g_room_by : Fn P w K mg base CX0 "room_by" 6 ["net", "found", "oblong"] (spP (c_room_by C))) : Fn P w K mg base CX0 "first_misfit" 7 ["net", "openings", "things"] (spP c_first_misfit) :=
  have nd := sc_first_misfit.nd
  fn_mk F sc_first_misfit (by first | (rintro ds Ω Ψ ⟨_, _, rfl, _⟩; rfl) | (rintro ds Ω Ψ ⟨_, _, _, rfl, _⟩; rfl) | (rintro ds Ω Ψ ⟨_, _, _, _, rfl, _⟩; rfl) | (rintro ds Ω Ψ ⟨_, _, _, _, _, rfl, _⟩; rfl) | (rintro ds Ω Ψ ⟨_, _, _, _, _, _, rfl, _⟩; rfl)) fun f cdv A outer s H E hr => by
    refine ⟨_, (pss_cons (ps_asg (pe_mkF g_Found hr (by decide) (pa_cons (pvA okv_first_misfit 0 0) pa_nil) (hg := glA okg_first_misfit 0)) (gnA okv_first_misfit nd 3 1)) (pss_cons (ps_asg (pe_fn g_all_places hr (by decide) (pa_cons (pvA okv_first_misfit 0 0) (pa_cons (pvA okv_first_misfit 1 2) pa_nil)) (hg := glA okg_first_misfit 1)) (gnA okv_first_misfit nd 4 3)) (pss_cons (ps_asg (pe_lst pa_nil) (gnA okv_first_misfit nd 5 4)) (pss_cons (ps_for PassesOwn.never rfl (pi_tup (pvA okv_first_misfit 2 5)) (gn nd 6) (pss_cons (ps_asg (pe_op op_cat (pvA okv_first_misfit 4 3) (pe_lc (own := [("other", 8)]) rfl nd (pi_tup (pvA okv_first_misfit 2 5)) (blkOk_by (own := [("other", 8)]) (N := ["net", "openings", "things", "found", "doors", "bad", "thing", "others", "other"]) (sc := defScope s_first_misfit) (by decide +kernel)) (fun _ _ _ _ _ => (gn nd 8)) (fun _ _ _ _ _ => (pts_one (pt_cmpR op_ne (pe_ix (ixt K) (pv 8) pe_int (fun _ _ => rfl)) (pe_ix (ixt K) (pv 6) pe_int (fun _ _ => rfl)) (nomark _)))) (fun _ _ _ _ _ => (pe_slice (slt K) (pv 8) (po_some pe_int) po_none)))) (gnA okv_first_misfit nd 7 6)) (pss_one (ps_if (PW.pt (pw_or (pt_cmpR op_isn (pe_fn g_room_by hr (by decide) (pa_cons (pvA okv_first_misfit 0 0) (pa_cons (pvA okv_first_misfit 3 1) (pa_cons (pe_slice (slt K) (pv 6) (po_some pe_int) po_none) pa_nil))) (hg := glA okg_first_misfit 2)) pe_non (nomark _)) (pw_or1 (pt_val (kb_any K T.b (pa_cons (pe_lc (own := [("other", 8)]) rfl nd (pi_list (pvA okv_first_misfit 7 6)) (blkOk_by (own := [("other", 8)]) (N := ["net", "openings", "things", "found", "doors", "bad", "thing", "others", "other"]) (sc := defScope s_first_misfit) (by decide +kernel)) (fun _ _ _ _ _ => (gn nd 8)) (fun _ _ _ _ _ => pts_nil) (fun _ _ _ _ _ => (pe_fn g_do_meet hr (by decide) (pa_cons (pe_slice (slt K) (pv 6) (po_some pe_int) po_none) (pa_cons (pv 8) pa_nil))))) pa_nil) (hg := glA okg_first_misfit 3)))))) (pss_one (ps_expr (pe_bm PySem.F.plainAttrs_list PySem.F.slot_list_append PySem.F.type_list_append mt_append (pvA okv_first_misfit 5 4) (pa_cons (pe_ix (ixt K) (pv 6) pe_int (fun _ _ => rfl)) pa_nil)))) pss_nil)))) (pss_one (ps_ret (pb_minF T.b hr (pa_cons (pvA okv_first_misfit 5 4) pa_nil)))))))), ?_⟩
    rintro ds Ω Ψ ⟨rfl, n, os, ts, rfl, ⟨hn, ho, hz⟩, q⟩
    have hpl : (allPlacesF n os).length ≤ 1000 := by unfold allPlacesF; rw [List.length_map]; exact Nat.le_trans (List.length_filter_le _ _) ho.2.2
    refine sw_seq (sw_set (ev_mkF (ar_cons (ev_var rfl) ar_nil) hn.toNetC) ?_)
    try simp only [startD, List.map_cons, List.map_nil, List.cons_append, List.nil_append, List.set_cons_zero, List.set_cons_succ, List.length_cons, List.length_nil, List.replicate_succ, List.replicate_zero, Nat.reduceSub, Nat.reduceAdd]
    refine sw_seq (sw_set (ev_fn (ar_cons (ev_var rfl) (ar_cons (ev_var rfl) ar_nil)) fun Ψ q => ⟨n, os, rfl, ho, q⟩) ?_)
    try simp only [startD, List.map_cons, List.map_nil, List.cons_append, List.nil_append, List.set_cons_zero, List.set_cons_succ, List.length_cons, List.length_nil, List.replicate_succ, List.replicate_zero, Nat.reduceSub, Nat.reduceAdd]
    refine sw_seq (sw_setW (ev_own0 fun p => ?_))
    try simp only [startD, List.map_cons, List.map_nil, List.cons_append, List.nil_append, List.set_cons_zero, List.set_cons_succ, List.length_cons, List.length_nil, List.replicate_succ, List.replicate_zero, Nat.reduceSub, Nat.reduceAdd]
    refine sw_seq (sw_forT (ev_var rfl) (fun k Γ Ω => ∃ a b c, Γ = [some (.py (dNet n)), some (.py (.tuple (os.map dO))), some (.py (.tuple (ts.map dT))), some (.ab (foundM C n)), some (.py (.list ((allPlacesF n os).map dOb))), some (.loc p), a, b, c] ∧ Ω = [(p, .lst (((ts.take k).filter fun t => !okThing n os ts t).map fun t => .py (.str t.1)))]) ⟨_, _, _, rfl, rfl⟩ (fun k d Γ' Ω' hd j => ?_) fun Γ' Ω' j => ?_)
    · obtain ⟨a, b, c, rfl, rfl⟩ := j
      rw [List.getElem?_map] at hd
      cases e : ts[k]? with
      | none => rw [e] at hd; cases hd
      | some t =>
        rw [e] at hd
        cases hd
        have hfl : (ts.filter fun o => !decide (o.1 = t.1)).length ≤ 1000 := Nat.le_trans (List.length_filter_le _ _) hz
        refine tg_name ?_
        refine sw_seq (sw_set ((ev_catL (ev_var rfl) (ev_lcT ts dT (fun o => !decide (o.1 = t.1)) (fun o => dOb o.2) (ev_var rfl) (to_name) (by omega) fun a ha => tg_name ⟨rfl, (ts_T (ev_neS (ev_ixT (ev_var rfl) ev_int rfl) (ev_ixT (ev_var rfl) ev_int rfl))), fun _ => EvD.eq (ev_slT (ev_var rfl) po_c po_n) rfl⟩) (by rw [List.length_map, List.length_map]; omega)).is (e := .py (.list ((allPlacesF n os ++ (ts.filter fun o => !decide (o.1 = t.1)).map (·.2)).map dOb))) (by rw [List.map_append, List.map_map]; rfl)) ?_)
        try simp only [startD, List.map_cons, List.map_nil, List.cons_append, List.nil_append, List.set_cons_zero, List.set_cons_succ, List.length_cons, List.length_nil, List.replicate_succ, List.replicate_zero, Nat.reduceSub, Nat.reduceAdd]
        have hall : (allPlacesF n os ++ (ts.filter fun o => !decide (o.1 = t.1)).map (·.2)).length ≤ 2000 := by rw [List.length_append, List.length_map]; omega
        refine sw_if (b := !okThing n os ts t) (TsD.eq (ts_or (ts_T (ev_isN (ev_fn (ar_cons (ev_var rfl) (ar_cons (ev_var rfl) (ar_cons (ev_slT (ev_var rfl) po_c po_n) ar_nil))) fun Ψ q => ⟨n, t.2, rfl, hn, q⟩))) fun _ => (ts_B (ev_any (bs := (allPlacesF n os ++ (ts.filter fun o => !decide (o.1 = t.1)).map (·.2)).map (meetF t.2)) ((ev_lcL (allPlacesF n os ++ (ts.filter fun o => !decide (o.1 = t.1)).map (·.2)) dOb (fun _ => true) (fun o => .bool (meetF t.2 o)) (ev_var rfl) (to_name) (by omega) fun o ho => tg_name ⟨rfl, ts_yes, fun _ => (ev_fn (ar_cons (ev_slT (ev_var rfl) po_c po_n) (ar_cons (ev_var rfl) ar_nil)) fun Ψ q => ⟨t.2, o, rfl, q⟩)⟩).is (by rw [fil_true, List.map_map]; rfl))))) ?_) (fun hb => ?_) fun hb => sw_next ?_
        · unfold okThing
          rw [isNon_on, any_map]
          simp
        · refine sw_app (ev_var rfl) (ev_ixT (ev_var rfl) ev_int rfl) (j := 0) rfl ?_ ⟨_, _, _, rfl, ?_⟩
          · rw [List.length_map]
            have := List.length_filter_le (fun t => !okThing n os ts t) (ts.take k)
            have : (ts.take k).length ≤ 1000 := by rw [List.length_take]; omega
            omega
          · rw [take_next e, List.filter_append]
            simp [hb]
        · refine ⟨_, _, _, rfl, ?_⟩
          rw [take_next e, List.filter_append]
          simp [hb]
    · obtain ⟨a, b, c, rfl, rfl⟩ := j
      rw [List.length_map, List.take_length]
      refine sw_frz (i := 5) (j := 0) (ds := (badF n os ts).map PyData.str) rfl (by unfold badF; rw [List.map_map, List.map_map]; rfl) ?_
      refine sw_ret (ev_minF (ev_var rfl) (fun d hd e he => ?_) (fun d hd => ?_) (fun d hd => ?_) rfl fun h => bestAt_lt h) q
      · obtain ⟨x, _, rfl⟩ := List.mem_map.mp hd
        obtain ⟨y, _, rfl⟩ := List.mem_map.mp he
        rfl
      · obtain ⟨x, _, rfl⟩ := List.mem_map.mp hd
        intro h; cases h
      · obtain ⟨x, _, rfl⟩ := List.mem_map.mp hd
        exact Nat.le_of_ble_eq_true rfl
def c_oblongs_of : Cp := fun ds Ψ => ∃ p : Plan, ds = [.py (dPlan p)] ∧ PlanR p ∧ Ψ (.py (.list ((obsF p).map dOb)))
theorem obs_len {p : Plan} (h : PlanR p) : (obsF p).length ≤ 25 := by
  unfold obsF allPlacesF
  rw [List.length_append, List.length_map, List.length_map]
  have := h.fewT
  have := h.fewO
  have := List.length_filter_le isDoor p.2.2.1
  omega
theorem sc_oblongs_of : FnScope ["plan", "net", "holds", "openings", "things", "thing"] ["plan"] (defScope s_oblongs_of) := ⟨rfl, rfl, rfl, by decide +kernel, rfl, by decide +kernel, by decide +kernel⟩
theorem okv_oblongs_of : okL ["plan", "things", "openings", "holds", "net"] (defScope s_oblongs_of) = true := by decide +kernel
theorem okg_oblongs_of : okG ["all_places"] (defScope s_oblongs_of) = true := by decide +kernel
theorem ok_oblongs_of (T : Tx K mg C) (F : Df K mg "oblongs_of" s_oblongs_of ["plan"]) (g_all_places : Fn P w K mg base CX0 "all_places" 6 ["net", "openings"] (spP c_all_places)) : Fn P w K mg base CX0 "oblongs_of" 7 ["plan"] (spP c_oblongs_of) :=
  have nd := sc_oblongs_of.nd
  fn_mk F sc_oblongs_of (by first | (rintro ds Ω Ψ ⟨_, _, rfl, _⟩; rfl) | (rintro ds Ω Ψ ⟨_, _, _, rfl, _⟩; rfl) | (rintro ds Ω Ψ ⟨_, _, _, _, rfl, _⟩; rfl) | (rintro ds Ω Ψ ⟨_, _, _, _, _, rfl, _⟩; rfl) | (rintro ds Ω Ψ ⟨_, _, _, _, _, _, rfl, _⟩; rfl)) fun f cdv A outer s H E hr => by
    refine ⟨_, (pss_cons (ps_asg (pvA okv_oblongs_of 0 0) (pgt K (n := 4) rfl (pgs_cons (gnA okv_oblongs_of nd 1 4) (pgs_cons (gnA okv_oblongs_of nd 2 3) (pgs_cons (gnA okv_oblongs_of nd 3 2) (pgs_cons (gnA okv_oblongs_of nd 4 1) pgs_nil)))))) (pss_one (ps_ret (pe_op op_cat (pe_lc (own := [("thing", 5)]) rfl nd (pi_tup (pvA okv_oblongs_of 4 1)) (blkOk_by (own := [("thing", 5)]) (N := ["plan", "net", "holds", "openings", "things", "thing"]) (sc := defScope s_oblongs_of) (by decide +kernel)) (fun _ _ _ _ _ => (gn nd 5)) (fun _ _ _ _ _ => pts_nil) (fun _ _ _ _ _ => (pe_slice (slt K) (pv 5) (po_some pe_int) po_none))) (pe_fn g_all_places hr (by decide) (pa_cons (pvA okv_oblongs_of 1 4) (pa_cons (pvA okv_oblongs_of 3 2) pa_nil)) (hg := glA okg_oblongs_of 0)))))), ?_⟩
    rintro ds Ω Ψ ⟨rfl, p, rfl, hp, q⟩
    have h1 := hp.fewT
    have h2 := hp.fewO
    have h3 := List.length_filter_le isDoor p.2.2.1
    refine sw_seq (sw_asgW (EvD.toW (ev_var rfl) (tg_tup rfl (tgs_cons (tg_name (tgs_cons (tg_name (tgs_cons (tg_name (tgs_cons (tg_name (tgs_nil ?_))))))))))))
    refine sw_ret ((ev_catL (ev_lcT p.2.2.2 dT (fun _ => true) (fun t => dOb t.2) (ev_var rfl) (to_name) (by omega) fun a ha => tg_name ⟨rfl, ts_yes, fun _ => EvD.eq (ev_slT (ev_var rfl) po_c po_n) rfl⟩) (ev_fn (ar_cons (ev_var rfl) (ar_cons (ev_var rfl) ar_nil)) fun Ψ q => ⟨p.1, p.2.2.1, rfl, hp.ops, q⟩) ?_).is ?_) q
    · unfold allPlacesF
      rw [fil_true]
      simp only [List.length_map]
      omega
    · unfold obsF
      rw [fil_true, List.map_append, List.map_map]; rfl
def c_ends_along : Cp := fun ds Ψ => ∃ (p : Plan) (up : Bool), ds = [.py (dPlan p), I (if up then 1 else 0)] ∧ PlanR p ∧ Ψ (.py (.list ((endsOf p up).map PyData.int)))
theorem sc_ends_along : FnScope ["plan", "axis", "found", "corner", "oblong"] ["plan", "axis"] (defScope s_ends_along) := ⟨rfl, rfl, rfl, by decide +kernel, rfl, by decide +kernel, by decide +kernel⟩
theorem okv_ends_along : okL ["plan", "found"] (defScope s_ends_along) = true := by decide +kernel
theorem okg_ends_along : okG ["oblongs_of", "set"] (defScope s_ends_along) = true := by decide +kernel
theorem ok_ends_along (T : Tx K mg C) (F : Df K mg "ends_along" s_ends_along ["plan", "axis"]) (g_oblongs_of : Fn P w K mg base CX0 "oblongs_of" 7 ["plan"] (spP c_oblongs_of)) : Fn P w K mg base CX0 "ends_along" 8 ["plan", "axis"] (spP c_ends_along) :=
  have nd := sc_ends_along.nd
  fn_mk F sc_ends_along (by first | (rintro ds Ω Ψ ⟨_, _, rfl, _⟩; rfl) | (rintro ds Ω Ψ ⟨_, _, _, rfl, _⟩; rfl) | (rintro ds Ω Ψ ⟨_, _, _, _, rfl, _⟩; rfl) | (rintro ds Ω Ψ ⟨_, _, _, _, _, rfl, _⟩; rfl) | (rintro ds Ω Ψ ⟨_, _, _, _, _, _, rfl, _⟩; rfl)) fun f cdv A outer s H E hr => by
    refine ⟨_, (pss_cons (ps_setLc (i := 2) (own := [("corner", 3)]) rfl nd rfl rfl (sw_true rfl rfl rfl (by decide +kernel)) (pi_tup (pe_ix (ixt K) (pe_ix (ixt K) (pvA okv_ends_along 0 0) pe_int (fun _ _ => rfl)) pe_int (fun _ _ => rfl))) (blkOk_by (own := [("corner", 3)]) (N := ["plan", "axis", "found", "corner", "oblong"]) (sc := defScope s_ends_along) (by decide +kernel)) (fun _ _ _ _ _ => (gn nd 3)) (fun _ _ _ _ _ => pts_nil) (fun _ _ _ _ _ => (pe_ix (ixt K) (pv 3) (pe_op op_add pe_int (pv 1)) (fun _ _ => rfl)))) (pss_cons (ps_expr (pe_bm PySem.F.plainAttrs_list PySem.F.slot_list_extend PySem.F.type_list_extend mt_extend (pvA okv_ends_along 2 1) (pa_cons (pe_lc (own := [("oblong", 4)]) rfl nd (pi_list (pe_fn g_oblongs_of hr (by decide) (pa_cons (pvA okv_ends_along 0 0) pa_nil) (hg := glA okg_ends_along 0))) (blkOk_by (own := [("oblong", 4)]) (N := ["plan", "axis", "found", "corner", "oblong"]) (sc := defScope s_ends_along) (by decide +kernel)) (fun _ _ _ _ _ => (gn nd 4)) (fun _ _ _ _ _ => pts_nil) (fun _ _ _ _ _ => (pe_op op_add (pe_ix (ixt K) (pv 4) (pv 1) (fun _ _ => rfl)) (pe_ix (ixt K) (pv 4) (pe_op op_add pe_int (pv 1)) (fun _ _ => rfl))))) pa_nil))) (pss_one (ps_ret (pb_sortedSet T.b (pa_cons (pb_set T.b (pa_cons (pvA okv_ends_along 2 1) pa_nil) (hg := glA okg_ends_along 1)) pa_nil)))))), ?_⟩
    rintro ds Ω Ψ ⟨rfl, p, up, rfl, hp, q⟩
    have h1 := hp.few
    have h2 := obs_len hp
    have fin : ∀ ns' : List Int, ns'.Pairwise (· < ·) → (∀ k, k ∈ ns' ↔ k ∈ rawEnds p up) → Ψ (.py (.list (ns'.map PyData.int))) [] := fun ns' hs hm => by
      have : ns' = endsOf p up := pw_unique hs ends_pw fun z => by rw [hm z, endsOf, ends_mem]
      rw [this]; exact q
    have hlen : (rawEnds p up).length < 64 := by unfold rawEnds; rw [List.length_append, List.length_map, List.length_map]; omega
    refine sw_seq (sw_setW (ev_lcTO p.1.1 dC (fun _ => true) (fun c => .int (if up then c.2.2 else c.2.1)) (ev_ixT (ev_ixT (ev_var rfl) ev_int rfl) ev_int rfl) (to_name) (by omega) (fun c hc => tg_name ⟨rfl, ts_yes, fun _ => (ev_ixT (ev_var rfl) (ev_i0 ev_int (ev_var rfl)) (by cases up <;> rfl))⟩) fun l => ?_))
    rw [fil_true]
    refine sw_seq (sw_ext (ev_var rfl) (ev_lcL (obsF p) dOb (fun _ => true) (fun o => .int (if up then o.2.1 + o.2.2.2 else o.1 + o.2.2.1)) (ev_fn (ar_cons (ev_var rfl) ar_nil) fun Ψ q => ⟨p, rfl, hp, q⟩) (to_name) (by omega) fun o ho => tg_name ⟨rfl, ts_yes, fun _ => EvD.eq (ev_i0 (i := if up then o.2.1 else o.1) (j := if up then o.2.2.2 else o.2.2.1) (ev_ixT (ev_var rfl) (ev_var rfl) (by cases up <;> rfl)) (ev_ixT (ev_var rfl) (ev_i0 ev_int (ev_var rfl)) (by cases up <;> rfl))) (by cases up <;> rfl)⟩) (j := 0) rfl (by rw [fil_true]; simp only [List.length_map]; omega) ?_)
    rw [fil_true]
    refine sw_frz (i := 2) (j := 0) (ds := (rawEnds p up).map PyData.int) rfl ?_ (sw_retW (ev_sset (ev_var rfl) hlen fin))
    unfold rawEnds
    simp only [List.map_append, List.map_map]
    rfl
def c_barred : Cp := fun ds Ψ => ∃ (p : Plan) (y w h : Int), ds = [.py (dPlan p), I y, I w, I h] ∧ PlanR p ∧ Ψ (.py (.list ((barF p y w h).map dPt)))
theorem sc_barred : FnScope ["plan", "y", "w", "h", "found", "wall", "ends", "u", "v", "wide", "high"] ["plan", "y", "w", "h"] (defScope s_barred) := ⟨rfl, rfl, rfl, by decide +kernel, rfl, by decide +kernel, by decide +kernel⟩
theorem okv_barred : okL ["found", "plan", "wall", "ends", "y", "h", "w", "high", "wide", "v", "u"] (defScope s_barred) = true := by decide +kernel
theorem okg_barred : okG ["ends_of", "is_upright", "oblongs_of"] (defScope s_barred) = true := by decide +kernel
theorem ok_barred (T : Tx K mg C) (F : Df K mg "barred" s_barred ["plan", "y", "w", "h"]) (g_ends_of : Fn P w K mg base CX0 "ends_of" 2 ["net", "wall"] (spP c_ends_of)) (g_is_upright : Fn P w K mg base CX0 "is_upright" 1 ["ends"] (spP c_is_upright)) (g_oblongs_of : Fn P w K mg base CX0 "oblongs_of" 7 ["plan"] (spP c_oblongs_of)) : Fn P w K mg base CX0 "barred" 8 ["plan", "y", "w", "h"] (spP c_barred) :=
  have nd := sc_barred.nd
  fn_mk F sc_barred (by first | (rintro ds Ω Ψ ⟨_, _, rfl, _⟩; rfl) | (rintro ds Ω Ψ ⟨_, _, _, rfl, _⟩; rfl) | (rintro ds Ω Ψ ⟨_, _, _, _, rfl, _⟩; rfl) | (rintro ds Ω Ψ ⟨_, _, _, _, _, rfl, _⟩; rfl) | (rintro ds Ω Ψ ⟨_, _, _, _, _, _, rfl, _⟩; rfl)) fun f cdv A outer s H E hr => by
    refine ⟨_, (pss_cons (ps_asg (pe_lst pa_nil) (gnA okv_barred nd 4 0)) (pss_cons (ps_for PassesOwn.never rfl (pi_tup (pe_ix (ixt K) (pe_ix (ixt K) (pvA okv_barred 0 1) pe_int (fun _ _ => rfl)) pe_int (fun _ _ => rfl))) (gnA okv_barred nd 5 2) (pss_cons (ps_asg (pe_fn g_ends_of hr (by decide) (pa_cons (pe_ix (ixt K) (pvA okv_barred 0 1) pe_int (fun _ _ => rfl)) (pa_cons (pvA okv_barred 5 2) pa_nil)) (hg := glA okg_barred 0)) (gnA okv_barred nd 6 3)) (pss_one (ps_if (pt_val (pe_fn g_is_upright hr (by decide) (pa_cons (pvA okv_barred 6 3) pa_nil) (hg := glA okg_barred 1))) (pss_one (ps_if (PW.pt (pw_and (pt_cmpR op_lt (pe_ix (ixt K) (pe_ix (ixt K) (pvA okv_barred 6 3) pe_int (fun _ _ => rfl)) pe_int (fun _ _ => rfl)) (pe_op op_add (pvA okv_barred 1 4) (pvA okv_barred 3 5)) (nomark _)) (pw_and1 (pt_cmpR op_lt (pvA okv_barred 1 4) (pe_ix (ixt K) (pe_ix (ixt K) (pvA okv_barred 6 3) pe_int (fun _ _ => rfl)) pe_int (fun _ _ => rfl)) (nomark _))))) (pss_one (ps_expr (pe_bm PySem.F.plainAttrs_list PySem.F.slot_list_append PySem.F.type_list_append mt_append (pvA okv_barred 4 0) (pa_cons (pe_tup (pa_cons (pe_op op_sub (pe_ix (ixt K) (pe_ix (ixt K) (pvA okv_barred 6 3) pe_int (fun _ _ => rfl)) pe_int (fun _ _ => rfl)) (pvA okv_barred 2 6)) (pa_cons (pe_ix (ixt K) (pe_ix (ixt K) (pvA okv_barred 6 3) pe_int (fun _ _ => rfl)) pe_int (fun _ _ => rfl)) pa_nil))) pa_nil)))) pss_nil)) (pss_one (ps_if (pt_chain op_lt op_lt (pvA okv_barred 1 4) (pe_ix (ixt K) (pe_ix (ixt K) (pvA okv_barred 6 3) pe_int (fun _ _ => rfl)) pe_int (fun _ _ => rfl)) (pe_op op_add (pvA okv_barred 1 4) (pvA okv_barred 3 5))) (pss_one (ps_expr (pe_bm PySem.F.plainAttrs_list PySem.F.slot_list_append PySem.F.type_list_append mt_append (pvA okv_barred 4 0) (pa_cons (pe_tup (pa_cons (pe_op op_sub (pe_ix (ixt K) (pe_ix (ixt K) (pvA okv_barred 6 3) pe_int (fun _ _ => rfl)) pe_int (fun _ _ => rfl)) (pvA okv_barred 2 6)) (pa_cons (pe_ix (ixt K) (pe_ix (ixt K) (pvA okv_barred 6 3) pe_int (fun _ _ => rfl)) pe_int (fun _ _ => rfl)) pa_nil))) pa_nil)))) pss_nil)))))) (pss_cons (ps_for PassesOwn.never rfl (pi_list (pe_fn g_oblongs_of hr (by decide) (pa_cons (pvA okv_barred 0 1) pa_nil) (hg := glA okg_barred 2))) (pgt K (n := 4) rfl (pgs_cons (gnA okv_barred nd 7 10) (pgs_cons (gnA okv_barred nd 8 9) (pgs_cons (gnA okv_barred nd 9 8) (pgs_cons (gnA okv_barred nd 10 7) pgs_nil))))) (pss_one (ps_if (PW.pt (pw_and (pt_cmpR op_lt (pvA okv_barred 1 4) (pe_op op_add (pvA okv_barred 8 9) (pvA okv_barred 10 7)) (nomark _)) (pw_and1 (pt_cmpR op_lt (pvA okv_barred 8 9) (pe_op op_add (pvA okv_barred 1 4) (pvA okv_barred 3 5)) (nomark _))))) (pss_one (ps_expr (pe_bm PySem.F.plainAttrs_list PySem.F.slot_list_append PySem.F.type_list_append mt_append (pvA okv_barred 4 0) (pa_cons (pe_tup (pa_cons (pe_op op_sub (pvA okv_barred 7 10) (pvA okv_barred 2 6)) (pa_cons (pe_op op_add (pvA okv_barred 7 10) (pvA okv_barred 9 8)) pa_nil))) pa_nil)))) pss_nil))) (pss_one (ps_ret (pvA okv_barred 4 0)))))), ?_⟩
    rintro ds Ω Ψ ⟨rfl, p, y, wd, hg, rfl, hp, q⟩
    have few := hp.net.few2
    have ol := obs_len hp
    refine sw_seq (sw_setW (ev_own0 fun l => ?_))
    try simp only [startD, List.map_cons, List.map_nil, List.cons_append, List.nil_append, List.set_cons_zero, List.set_cons_succ, List.length_cons, List.length_nil, List.replicate_succ, List.replicate_zero, Nat.reduceSub, Nat.reduceAdd]
    refine sw_seq (sw_forT (ev_ixT (ev_ixT (ev_var rfl) ev_int rfl) ev_int rfl) (fun k Γ Ω => ∃ a b c d e f, Γ = [some (.py (dPlan p)), some (I y), some (I wd), some (I hg), some (.loc l), a, b, c, d, e, f] ∧ Ω = [(l, .lst (((p.1.2.take k).filterMap (barW p.1 y wd hg)).map fun s => .py (dPt s)))]) ⟨_, _, _, _, _, _, rfl, rfl⟩ (fun k d Γ' Ω' hd j => ?_) fun Γ' Ω' j => ?_)
    · obtain ⟨a, b, c, d, e0, f, rfl, rfl⟩ := j
      rw [List.getElem?_map] at hd
      cases e : p.1.2[k]? with
      | none => rw [e] at hd; cases hd
      | some wl =>
        rw [e] at hd
        cases hd
        have hw := hp.net.ends _ (List.mem_of_getElem? e)
        have hlen : ((p.1.2.take k).filterMap (barW p.1 y wd hg)).length ≤ 100 := by
          have h1 := List.length_filterMap_le (barW p.1 y wd hg) (p.1.2.take k)
          have h2 : (p.1.2.take k).length ≤ 100 := by rw [List.length_take]; omega
          omega
        refine tg_name ?_
        refine sw_seq (sw_set (ev_fn (ar_cons (ev_ixT (ev_var rfl) ev_int rfl) (ar_cons (ev_var rfl) ar_nil)) fun Ψ q => ⟨p.1, wl, rfl, ⟨hp.net.toNetR, hw⟩, q⟩) ?_)
        try simp only [startD, List.map_cons, List.map_nil, List.cons_append, List.nil_append, List.set_cons_zero, List.set_cons_succ, List.length_cons, List.length_nil, List.replicate_succ, List.replicate_zero, Nat.reduceSub, Nat.reduceAdd]
        refine sw_if (ts_B (ev_fn (ar_cons (ev_var rfl) ar_nil) fun Ψ q => ⟨_, rfl, q⟩)) (fun hb => ?_) fun hb => ?_
        · refine sw_if (ts_and (ts_T (ev_iB (ev_ixT (ev_ixT (ev_var rfl) ev_int rfl) ev_int rfl) (ev_i0 (ev_var rfl) (ev_var rfl)))) fun _ => (ts_T (ev_iB (ev_var rfl) (ev_ixT (ev_ixT (ev_var rfl) ev_int rfl) ev_int rfl)))) (fun hb2 => ?_) fun hb2 => sw_next ?_
          · refine sw_app (ev_var rfl) (ev_tup (ds := [_, _]) (ar_cons (ev_i0 (ev_ixT (ev_ixT (ev_var rfl) ev_int rfl) ev_int rfl) (ev_var rfl)) (ar_cons (ev_ixT (ev_ixT (ev_var rfl) ev_int rfl) ev_int rfl) ar_nil))) (j := 0) rfl (by rw [List.length_map]; omega) ⟨some (.py (dW wl)), some (.py (dEnds (endsF p.1 wl))), _, _, _, _, rfl, ?_⟩
            have hb3 : (endsF p.1 wl).1.2 < y + hg ∧ y < (endsF p.1 wl).2.2 := by simpa using hb2
            rw [take_next e, List.filterMap_append]
            simp [barW, hb, hb3]
          · refine ⟨some (.py (dW wl)), some (.py (dEnds (endsF p.1 wl))), _, _, _, _, rfl, ?_⟩
            have hb3 : ¬ ((endsF p.1 wl).1.2 < y + hg ∧ y < (endsF p.1 wl).2.2) := by
              rintro ⟨h1, h2⟩
              simp [h1, h2] at hb2
            rw [take_next e, List.filterMap_append]
            simp [barW, hb, hb3]
        · refine sw_if (ts_T (ev_chain (ev_var rfl) (ev_ixT (ev_ixT (ev_var rfl) ev_int rfl) ev_int rfl) (ev_i0 (ev_var rfl) (ev_var rfl)))) (fun hb2 => ?_) fun hb2 => sw_next ?_
          · refine sw_app (ev_var rfl) (ev_tup (ds := [_, _]) (ar_cons (ev_i0 (ev_ixT (ev_ixT (ev_var rfl) ev_int rfl) ev_int rfl) (ev_var rfl)) (ar_cons (ev_ixT (ev_ixT (ev_var rfl) ev_int rfl) ev_int rfl) ar_nil))) (j := 0) rfl (by rw [List.length_map]; omega) ⟨some (.py (dW wl)), some (.py (dEnds (endsF p.1 wl))), _, _, _, _, rfl, ?_⟩
            have hb3 : y < (endsF p.1 wl).1.2 ∧ (endsF p.1 wl).1.2 < y + hg := by simpa using hb2
            rw [take_next e, List.filterMap_append]
            simp [barW, hb, hb3]
          · refine ⟨some (.py (dW wl)), some (.py (dEnds (endsF p.1 wl))), _, _, _, _, rfl, ?_⟩
            have hb3 : ¬ (y < (endsF p.1 wl).1.2 ∧ (endsF p.1 wl).1.2 < y + hg) := by
              rintro ⟨h1, h2⟩
              simp [h1, h2] at hb2
            rw [take_next e, List.filterMap_append]
            simp [barW, hb, hb3]
    · obtain ⟨a, b, c, d, e0, f, rfl, rfl⟩ := j
      rw [List.length_map, List.take_length]
      have wlen : (p.1.2.filterMap (barW p.1 y wd hg)).length ≤ 100 := Nat.le_trans (List.length_filterMap_le _ _) few
      refine sw_seq (sw_forL (ev_fn (ar_cons (ev_var rfl) ar_nil) fun Ψ q => ⟨p, rfl, hp, q⟩) (fun k Γ Ω => ∃ a b c d e f, Γ = [some (.py (dPlan p)), some (I y), some (I wd), some (I hg), some (.loc l), a, b, c, d, e, f] ∧ Ω = [(l, .lst ((p.1.2.filterMap (barW p.1 y wd hg) ++ ((obsF p).take k).filterMap (barO y wd hg)).map fun s => .py (dPt s)))]) ⟨_, _, _, _, _, _, rfl, by simp⟩ (fun k d Γ' Ω' hd j => ?_) fun Γ' Ω' j => ?_)
      · obtain ⟨a, b, c, d, e0, f, rfl, rfl⟩ := j
        rw [List.getElem?_map] at hd
        cases e : (obsF p)[k]? with
        | none => rw [e] at hd; cases hd
        | some o =>
          rw [e] at hd
          cases hd
          have hlen : (p.1.2.filterMap (barW p.1 y wd hg) ++ ((obsF p).take k).filterMap (barO y wd hg)).length ≤ 200 := by
            rw [List.length_append]
            have h1 := List.length_filterMap_le (barO y wd hg) ((obsF p).take k)
            have h2 : ((obsF p).take k).length ≤ 25 := by rw [List.length_take]; omega
            omega
          refine tg_tup rfl (tgs_cons (tg_name (tgs_cons (tg_name (tgs_cons (tg_name (tgs_cons (tg_name (tgs_nil ?_)))))))))
          refine sw_if (ts_and (ts_T (ev_iB (ev_var rfl) (ev_i0 (ev_var rfl) (ev_var rfl)))) fun _ => (ts_T (ev_iB (ev_var rfl) (ev_i0 (ev_var rfl) (ev_var rfl))))) (fun hb => ?_) fun hb => sw_next ?_
          · refine sw_app (ev_var rfl) (ev_tup (ds := [_, _]) (ar_cons (ev_i0 (ev_var rfl) (ev_var rfl)) (ar_cons (ev_i0 (ev_var rfl) (ev_var rfl)) ar_nil))) (j := 0) rfl (by rw [List.length_map]; omega) ⟨a, b, some (I o.1), some (I o.2.1), some (I o.2.2.1), some (I o.2.2.2), rfl, ?_⟩
            have hb3 : y < o.2.1 + o.2.2.2 ∧ o.2.1 < y + hg := by simpa using hb
            rw [take_next e, List.filterMap_append]
            simp [barO, hb3]
          · refine ⟨a, b, some (I o.1), some (I o.2.1), some (I o.2.2.1), some (I o.2.2.2), rfl, ?_⟩
            have hb3 : ¬ (y < o.2.1 + o.2.2.2 ∧ o.2.1 < y + hg) := by
              rintro ⟨h1, h2⟩
              simp [h1, h2] at hb
            rw [take_next e, List.filterMap_append]
            simp [barO, hb3]
      · obtain ⟨a, b, c, d, e0, f, rfl, rfl⟩ := j
        rw [List.length_map, List.take_length]
        refine sw_frz (i := 4) (j := 0) (ds := (barF p y wd hg).map dPt) rfl (by unfold barF; rw [List.map_map]; rfl) (sw_ret (ev_var rfl) q)
def c_is_barred : Cp := fun ds Ψ => ∃ (l : List (Int × Int)) (x : Int), ds = [.py (.list (l.map dPt)), I x] ∧ l.length ≤ 1000 ∧ Ψ (B (isBar l x))
theorem sc_is_barred : FnScope ["stretches", "x", "low", "high"] ["stretches", "x"] (defScope s_is_barred) := ⟨rfl, rfl, rfl, by decide +kernel, rfl, by decide +kernel, by decide +kernel⟩
theorem okv_is_barred : okL ["stretches"] (defScope s_is_barred) = true := by decide +kernel
theorem okg_is_barred : okG ["any"] (defScope s_is_barred) = true := by decide +kernel
theorem ok_is_barred (T : Tx K mg C) (F : Df K mg "is_barred" s_is_barred ["stretches", "x"])  : Fn P w K mg base CX0 "is_barred" 1 ["stretches", "x"] (spP c_is_barred) :=
  have nd := sc_is_barred.nd
  fn_mk F sc_is_barred (by first | (rintro ds Ω Ψ ⟨_, _, rfl, _⟩; rfl) | (rintro ds Ω Ψ ⟨_, _, _, rfl, _⟩; rfl) | (rintro ds Ω Ψ ⟨_, _, _, _, rfl, _⟩; rfl) | (rintro ds Ω Ψ ⟨_, _, _, _, _, rfl, _⟩; rfl) | (rintro ds Ω Ψ ⟨_, _, _, _, _, _, rfl, _⟩; rfl)) fun f cdv A outer s H E hr => by
    refine ⟨_, (pss_one (ps_ret (kb_any K T.b (pa_cons (pe_lc (own := [("low", 2), ("high", 3)]) rfl nd (pi_list (pvA okv_is_barred 0 0)) (blkOk_by (own := [("low", 2), ("high", 3)]) (N := ["stretches", "x", "low", "high"]) (sc := defScope s_is_barred) (by decide +kernel)) (fun _ _ _ _ _ => (pgt K (n := 2) rfl (pgs_cons (gn nd 2) (pgs_cons (gn nd 3) pgs_nil)))) (fun _ _ _ _ _ => pts_nil) (fun _ _ _ _ _ => (pe_chain op_lt op_lt (pv 2) (pv 1) (pv 3)))) pa_nil) (hg := glA okg_is_barred 0)))), ?_⟩
    rintro ds Ω Ψ ⟨rfl, l, x, rfl, hz, q⟩
    refine sw_ret (EvD.eq (ev_any (bs := l.map fun s => decide (s.1 < x) && decide (x < s.2)) ((ev_lcL l dPt (fun _ => true) (fun s => .bool (decide (s.1 < x) && decide (x < s.2))) (ev_var rfl) (to_tup (tos_cons (h2 := (tos_cons (h2 := tos_nil))))) (by omega) fun a ha => (tg_tup rfl (tgs_cons (tg_name (tgs_cons (tg_name (tgs_nil ⟨rfl, ts_yes, fun _ => (ev_chain (ev_var rfl) (ev_var rfl) (ev_var rfl))⟩))))))).is (by rw [fil_true, List.map_map]; rfl))) (by rw [any_map]; rfl)) q
def c_fit : Cp := fun ds Ψ => ∃ (p : Plan) (room : Nat) (w h : Int), ds = [.py (dPlan p), I (room : Int), I w, I h] ∧ PlanR p ∧ Ψ (.py (dOpt dPt (fitF p room w h)))
theorem bar_len {p : Plan} (hp : PlanR p) {y w h : Int} : (barF p y w h).length ≤ 1000 := by
  unfold barF
  rw [List.length_append]
  have h1 := List.length_filterMap_le (barW p.1 y w h) p.1.2
  have h2 := List.length_filterMap_le (barO y w h) (obsF p)
  have h3 := hp.net.few2
  have h4 := obs_len hp
  omega
theorem sc_fit : FnScope ["plan", "room", "w", "h", "found", "y", "stretches", "x"] ["plan", "room", "w", "h"] (defScope s_fit) := ⟨rfl, rfl, rfl, by decide +kernel, rfl, by decide +kernel, by decide +kernel⟩
theorem okv_fit : okL ["plan", "found", "y", "h", "w", "stretches", "x", "room"] (defScope s_fit) = true := by decide +kernel
theorem okg_fit : okG ["Found", "ends_along", "barred", "is_barred", "cell_of"] (defScope s_fit) = true := by decide +kernel
theorem ok_fit (T : Tx K mg C) (F : Df K mg "fit" s_fit ["plan", "room", "w", "h"]) (g_Found : MkF P w K mg base C 5) (g_barred : Fn P w K mg base CX0 "barred" 8 ["plan", "y", "w", "h"] (spP c_barred)) (g_cell_of : Fn P w K mg base CX0 "cell_of" 5 ["found", "x", "y"] (spP (c_cell_of C))) (g_ends_along : Fn P w K mg base CX0 "ends_along" 8 ["plan", "axis"] (spP c_ends_along)) (g_is_barred : Fn P w K mg base CX0 "is_barred" 1 ["stretches", "x"] (spP c_is_barred)) : Fn P w K mg base CX0 "fit" 9 ["plan", "room", "w", "h"] (spP c_fit) :=
  have nd := sc_fit.nd
  fn_mk F sc_fit (by first | (rintro ds Ω Ψ ⟨_, _, rfl, _⟩; rfl) | (rintro ds Ω Ψ ⟨_, _, _, rfl, _⟩; rfl) | (rintro ds Ω Ψ ⟨_, _, _, _, rfl, _⟩; rfl) | (rintro ds Ω Ψ ⟨_, _, _, _, _, rfl, _⟩; rfl) | (rintro ds Ω Ψ ⟨_, _, _, _, _, _, rfl, _⟩; rfl)) fun f cdv A outer s H E hr => by
    refine ⟨_, (pss_cons (ps_asg (pe_mkF g_Found hr (by decide) (pa_cons (pe_ix (ixt K) (pvA okv_fit 0 0) pe_int (fun _ _ => rfl)) pa_nil) (hg := glA okg_fit 0)) (gnA okv_fit nd 4 1)) (pss_cons (ps_for PassesOwn.never rfl (pi_list (pe_fn g_ends_along hr (by decide) (pa_cons (pvA okv_fit 0 0) (pa_cons pe_int pa_nil)) (hg := glA okg_fit 1))) (gnA okv_fit nd 5 2) (pss_cons (ps_asg (pe_fn g_barred hr (by decide) (pa_cons (pvA okv_fit 0 0) (pa_cons (pvA okv_fit 5 2) (pa_cons (pvA okv_fit 2 4) (pa_cons (pvA okv_fit 3 3) pa_nil)))) (hg := glA okg_fit 2)) (gnA okv_fit nd 6 5)) (pss_one (ps_for PassesOwn.never rfl (pi_list (pe_fn g_ends_along hr (by decide) (pa_cons (pvA okv_fit 0 0) (pa_cons pe_int pa_nil)) (hg := glA okg_fit 1))) (gnA okv_fit nd 7 6) (pss_one (ps_if (PW.pt (pw_and (pt_not (pt_val (pe_fn g_is_barred hr (by decide) (pa_cons (pvA okv_fit 6 5) (pa_cons (pvA okv_fit 7 6) pa_nil)) (hg := glA okg_fit 3)))) (pw_and1 (pt_cmpR op_eq (pe_fn g_cell_of hr (by decide) (pa_cons (pvA okv_fit 4 1) (pa_cons (pvA okv_fit 7 6) (pa_cons (pvA okv_fit 5 2) pa_nil))) (hg := glA okg_fit 4)) (pvA okv_fit 1 7) (nomark _))))) (pss_one (ps_ret (pe_tup (pa_cons (pvA okv_fit 7 6) (pa_cons (pvA okv_fit 5 2) pa_nil))))) pss_nil)))))) (pss_one (ps_ret pe_non)))), ?_⟩
    rintro ds Ω Ψ ⟨rfl, p, room, wd, hg, rfl, hp, q⟩
    refine sw_seq (sw_set (ev_mkF (ar_cons (ev_ixT (ev_var rfl) ev_int rfl) ar_nil) hp.net.toNetC) ?_)
    refine sw_seq (sw_forL (ev_fn (d := .py (.list ((endsOf p true).map PyData.int))) (ar_cons (ev_var rfl) (ar_cons ev_int ar_nil)) fun Ψ q => ⟨p, true, rfl, hp, q⟩) (fun k Γ Ω => ∃ a b c, Γ = [some (.py (dPlan p)), some (I (room : Int)), some (I wd), some (I hg), some (.ab (foundM C p.1)), a, b, c] ∧ Ω = [] ∧ fitF p room wd hg = colF p room wd hg ((endsOf p true).drop k)) ⟨_, _, _, rfl, rfl, rfl⟩ (fun k d Γ' Ω' hd j => ?_) fun Γ' Ω' j => ?_)
    · obtain ⟨a, b, c, rfl, rfl, hf⟩ := j
      rw [List.getElem?_map] at hd
      cases e : (endsOf p true)[k]? with
      | none => rw [e] at hd; cases hd
      | some y =>
        rw [e] at hd
        cases hd
        have ed : (endsOf p true).drop k = y :: (endsOf p true).drop (k + 1) := by
          obtain ⟨h1, h2⟩ := List.getElem?_eq_some_iff.mp e
          rw [← h2, List.getElem_cons_drop h1]
        rw [ed] at hf
        refine tg_name ?_
        refine sw_seq (sw_set (ev_fn (ar_cons (ev_var rfl) (ar_cons (ev_var rfl) (ar_cons (ev_var rfl) (ar_cons (ev_var rfl) ar_nil)))) fun Ψ q => ⟨p, y, wd, hg, rfl, hp, q⟩) ?_)
        refine sw_forL (ev_fn (d := .py (.list ((endsOf p false).map PyData.int))) (ar_cons (ev_var rfl) (ar_cons ev_int ar_nil)) fun Ψ q => ⟨p, false, rfl, hp, q⟩) (fun i Γ Ω => ∃ c, Γ = [some (.py (dPlan p)), some (I (room : Int)), some (I wd), some (I hg), some (.ab (foundM C p.1)), some (I y), some (.py (.list ((barF p y wd hg).map dPt))), c] ∧ Ω = [] ∧ rowF p room wd hg y (endsOf p false) = rowF p room wd hg y ((endsOf p false).drop i)) ⟨_, rfl, rfl, rfl⟩ (fun i d Γ' Ω' hd j => ?_) fun Γ' Ω' j => ?_
        · obtain ⟨c, rfl, rfl, hrow⟩ := j
          rw [List.getElem?_map] at hd
          cases e2 : (endsOf p false)[i]? with
          | none => rw [e2] at hd; cases hd
          | some x =>
            rw [e2] at hd
            cases hd
            have ed2 : (endsOf p false).drop i = x :: (endsOf p false).drop (i + 1) := by
              obtain ⟨h1, h2⟩ := List.getElem?_eq_some_iff.mp e2
              rw [← h2, List.getElem_cons_drop h1]
            rw [ed2] at hrow
            refine tg_name ?_
            refine sw_if (b := goodF p room wd hg y x) (TsD.eq (ts_and (ts_not (ts_B (ev_fn (ar_cons (ev_var rfl) (ar_cons (ev_var rfl) ar_nil)) fun Ψ q => ⟨barF p y wd hg, x, rfl, bar_len hp, q⟩))) fun _ => TsD.eq (ts_T (ev_eqO (b := some (room : Int)) (ev_fn (d := .py (dOn (cellF p.1 x y))) (ar_cons (ev_var rfl) (ar_cons (ev_var rfl) (ar_cons (ev_var rfl) ar_nil))) fun Ψ q => ⟨p.1, x, y, rfl, hp.net, q⟩) (ev_var rfl))) eqO_nat) rfl) (fun hb => ?_) fun hb => sw_next ?_
            · refine sw_ret (ev_tup (ds := [_, _]) (ar_cons (ev_var rfl) (ar_cons (ev_var rfl) ar_nil))) ?_
              have e3 : rowF p room wd hg y (endsOf p false) = some (x, y) := by
                rw [hrow]; unfold rowF; rw [List.find?_cons, hb]; rfl
              have e4 : fitF p room wd hg = some (x, y) := by
                rw [hf]; unfold colF; rw [List.findSome?_cons, e3]
              rw [e4] at q
              exact q
            · refine ⟨_, rfl, rfl, ?_⟩
              rw [hrow]; unfold rowF; rw [List.find?_cons, hb]
        · obtain ⟨c, rfl, rfl, hrow⟩ := j
          rw [List.length_map, List.drop_length] at hrow
          refine ⟨_, _, _, rfl, rfl, ?_⟩
          rw [hf]
          unfold colF
          rw [List.findSome?_cons, hrow]; rfl
    · obtain ⟨a, b, c, rfl, rfl, hf⟩ := j
      rw [List.length_map, List.drop_length] at hf
      rw [show fitF p room wd hg = none from hf] at q
      exact sw_ret ev_non q
end
end My
end

section
set_option Elab.async false
set_option linter.all false
set_option maxRecDepth 100000
set_option maxHeartbeats 4000000
namespace My
open PySem L2 G
open PySem.W (alike)
open PyProof.Rows (envOfC)
section
variable {P : Program} {w : World} {K : PySem.W.Frag} {mg : Str → Option Value} {base : Heap} {C CP CN : Addr}
def c_does_hold : Cp := fun ds Ψ => ∃ (n : Net) (h : Hold), ds = [.py (dNet n), .py (dH h)] ∧ (NetR n ∧ HoldR n h) ∧ Ψ (B (holdF n h))
theorem sc_does_hold : FnScope ["net", "hold", "name", "axis", "c", "d", "least", "most", "spots"] ["net", "hold"] (defScope s_does_hold) := ⟨rfl, rfl, rfl, by decide +kernel, rfl, by decide +kernel, by decide +kernel⟩
theorem okv_does_hold : okL ["hold", "most", "least", "d", "c", "axis", "name", "net", "spots"] (defScope s_does_hold) = true := by decide +kernel
theorem okg_does_hold : okG ["spots_of"] (defScope s_does_hold) = true := by decide +kernel
theorem ok_does_hold (T : Tx K mg C) {ax : Addr} (hax : mg "AXES" = some (.ref ax)) (hx : KDct K w ax "x" (.int 0)) (hy : KDct K w ax "y" (.int 1)) (F : Df K mg "does_hold" s_does_hold ["net", "hold"]) (g_spots_of : Fn P w K mg base CX0 "spots_of" 1 ["net"] (spP c_spots_of)) : Fn P w K mg base CX0 "does_hold" 2 ["net", "hold"] (spP c_does_hold) :=
  have nd := sc_does_hold.nd
  fn_mk F sc_does_hold (by first | (rintro ds Ω Ψ ⟨_, _, rfl, _⟩; rfl) | (rintro ds Ω Ψ ⟨_, _, _, rfl, _⟩; rfl) | (rintro ds Ω Ψ ⟨_, _, _, _, rfl, _⟩; rfl) | (rintro ds Ω Ψ ⟨_, _, _, _, _, rfl, _⟩; rfl) | (rintro ds Ω Ψ ⟨_, _, _, _, _, _, rfl, _⟩; rfl)) fun f cdv A outer s H E hr => by
    refine ⟨_, (pss_cons (ps_asg (pvA okv_does_hold 1 0) (pgt K (n := 6) rfl (pgs_cons (gnA okv_does_hold nd 2 6) (pgs_cons (gnA okv_does_hold nd 3 5) (pgs_cons (gnA okv_does_hold nd 4 4) (pgs_cons (gnA okv_does_hold nd 5 3) (pgs_cons (gnA okv_does_hold nd 6 2) (pgs_cons (gnA okv_does_hold nd 7 1) pgs_nil)))))))) (pss_cons (ps_asg (pe_fn g_spots_of hr (by decide) (pa_cons (pvA okv_does_hold 0 7) pa_nil) (hg := glA okg_does_hold 0)) (gnA okv_does_hold nd 8 8)) (pss_one (ps_ret (pe_chain op_le op_le (pvA okv_does_hold 6 2) (pe_op op_sub (pe_ix (ixt K) (pe_dget (hu_of hr) (pvA okv_does_hold 8 8) (pvA okv_does_hold 5 3) (fun _ _ => rfl)) (pe_ix ix_kdict (pe_glob (v := .ref ax) rfl hax rfl) (pvA okv_does_hold 3 5) (fun _ _ => rfl)) (fun _ _ => rfl)) (pe_ix (ixt K) (pe_dget (hu_of hr) (pvA okv_does_hold 8 8) (pvA okv_does_hold 4 4) (fun _ _ => rfl)) (pe_ix ix_kdict (pe_glob (v := .ref ax) rfl hax rfl) (pvA okv_does_hold 3 5) (fun _ _ => rfl)) (fun _ _ => rfl))) (pvA okv_does_hold 7 1)))))), ?_⟩
    rintro ds Ω Ψ ⟨rfl, n, ⟨nm, ax', c, d, lo, hi⟩, rfl, ⟨hn, hh, k1, k2⟩, q⟩
    refine sw_seq (sw_asgW (EvD.toW (ev_var rfl) (tg_tup rfl (tgs_cons (tg_name (tgs_cons (tg_name (tgs_cons (tg_name (tgs_cons (tg_name (tgs_cons (tg_name (tgs_cons (tg_name (tgs_nil ?_))))))))))))))))
    try simp only [startD, List.map_cons, List.map_nil, List.cons_append, List.nil_append, List.set_cons_zero, List.set_cons_succ, List.length_cons, List.length_nil, List.replicate_succ, List.replicate_zero, Nat.reduceSub, Nat.reduceAdd]
    refine sw_seq (sw_set (ev_fn (ar_cons (ev_var rfl) ar_nil) fun Ψ q => ⟨n, rfl, hn, q⟩) ?_)
    try simp only [startD, List.map_cons, List.map_nil, List.cons_append, List.nil_append, List.set_cons_zero, List.set_cons_succ, List.length_cons, List.length_nil, List.replicate_succ, List.replicate_zero, Nat.reduceSub, Nat.reduceAdd]
    have hne : ¬ (("y" : Str) = ("x" : Str)) := by decide +kernel
    rcases hh with hh | hh
    · cases (show ax' = ("x" : Str) from hh)
      exact sw_ret (ev_chain (ev_var rfl) (ev_i0 (ev_ixT (ev_spots (ev_var rfl) (ev_var rfl) k2) (ev_axes hx (ev_var rfl)) rfl) (ev_ixT (ev_spots (ev_var rfl) (ev_var rfl) k1) (ev_axes hx (ev_var rfl)) rfl)) (ev_var rfl)) q
    · cases (show ax' = ("y" : Str) from hh)
      unfold holdF axF at q
      simp only [if_neg hne] at q
      exact sw_ret (ev_chain (ev_var rfl) (ev_i0 (ev_ixT (ev_spots (ev_var rfl) (ev_var rfl) k2) (ev_axes hy (ev_var rfl)) rfl) (ev_ixT (ev_spots (ev_var rfl) (ev_var rfl) k1) (ev_axes hy (ev_var rfl)) rfl)) (ev_var rfl)) q
def c_look_holds : Cp := fun ds Ψ => ∃ (n : Net) (hs : List Hold), ds = [.py (dNet n), .py (.tuple (hs.map dH))] ∧ (NetR n ∧ ∀ h ∈ hs, HoldR n h ∧ holdF n h = true) ∧ Ψ N0
theorem sc_look_holds : FnScope ["net", "holds", "hold"] ["net", "holds"] (defScope s_look_holds) := ⟨rfl, rfl, rfl, by decide +kernel, rfl, by decide +kernel, by decide +kernel⟩
theorem okv_look_holds : okL ["holds", "hold", "net"] (defScope s_look_holds) = true := by decide +kernel
theorem okg_look_holds : okG ["does_hold"] (defScope s_look_holds) = true := by decide +kernel
theorem ok_look_holds (T : Tx K mg C) (F : Df K mg "look_holds" s_look_holds ["net", "holds"]) (g_does_hold : Fn P w K mg base CX0 "does_hold" 2 ["net", "hold"] (spP c_does_hold)) : Fn P w K mg base CX0 "look_holds" 3 ["net", "holds"] (spP c_look_holds) :=
  have nd := sc_look_holds.nd
  fn_mk F sc_look_holds (by first | (rintro ds Ω Ψ ⟨_, _, rfl, _⟩; rfl) | (rintro ds Ω Ψ ⟨_, _, _, rfl, _⟩; rfl) | (rintro ds Ω Ψ ⟨_, _, _, _, rfl, _⟩; rfl) | (rintro ds Ω Ψ ⟨_, _, _, _, _, rfl, _⟩; rfl) | (rintro ds Ω Ψ ⟨_, _, _, _, _, _, rfl, _⟩; rfl)) fun f cdv A outer s H E hr => by
    refine ⟨_, (pss_one (ps_for PassesOwn.never rfl (pi_tup (pvA okv_look_holds 1 0)) (gnA okv_look_holds nd 2 1) (pss_one (ps_if (pt_not (pt_val (pe_fn g_does_hold hr (by decide) (pa_cons (pvA okv_look_holds 0 2) (pa_cons (pvA okv_look_holds 2 1) pa_nil)) (hg := glA okg_look_holds 0)))) (pss_one ps_never) pss_nil)))), ?_⟩
    rintro ds Ω Ψ ⟨rfl, n, hs, rfl, ⟨hn, hh⟩, q⟩
    refine sw_forT (ev_var rfl) (fun k Γ Ω => ∃ a, Γ = [some (.py (dNet n)), some (.py (.tuple (hs.map dH))), a] ∧ Ω = []) ⟨_, rfl, rfl⟩ (fun k d Γ' Ω' hd j => ?_) fun Γ' Ω' j => ?_
    · obtain ⟨a, rfl, rfl⟩ := j
      rw [List.getElem?_map] at hd
      cases e : hs[k]? with
      | none => rw [e] at hd; cases hd
      | some h =>
        rw [e] at hd
        cases hd
        obtain ⟨h1, h2⟩ := hh h (List.mem_of_getElem? e)
        refine tg_name (sw_if (ts_not (ts_B (ev_fn (d := B (holdF n h)) (ar_cons (ev_var rfl) (ar_cons (ev_var rfl) ar_nil)) fun Ψ q => ⟨n, h, rfl, ⟨hn, h1⟩, q⟩))) (fun hb => ?_) fun hb => sw_next ⟨_, rfl, rfl⟩)
        rw [h2] at hb
        cases hb
    · obtain ⟨a, rfl, rfl⟩ := j
      exact q
/-- the errors' classes -/
structure Er (K : PySem.W.Frag) (mg : Str → Option Value) (CP CN : Addr) : Prop where
  gP : mg "PlanError" = some (.ref CP)
  rP : PySem.W.readsIn K CP (.type "type") = true
  sP : PySem.W.specialIn K (.ref CP) "__getattribute__" = some (some (.builtin "type.__getattribute__"))
  vP : PySem.W.findCls K (.ref CP) (.type "type") "__init__" = some (.val (.builtin "ValueError.__init__"))
  gN : mg "NoThing" = some (.ref CN)
  oe : OexC K CN
  nm : PySem.W.findIn K (.ref CN) "name" = some none
  te : PySem.W.exmOne K (.ref CN) (.ref CN) = some true
structure Dn (K : PySem.W.Frag) (CN : Addr) : Prop where
  ex : ∃ (f : Addr) (fd : FuncData), Fun K "__init__" "NoThing.__init__" s_NoThing_init f fd ∧ PySem.W.findIn K (.ref CN) "__init__" = some (some (.ref f)) ∧ PySem.W.typeIn K (.ref f) = some (.type "function") ∧ Binds K fd ["self", "name"] []
structure MkN (P : Program) (w : World) (K : PySem.W.Frag) (mg : Str → Option Value) (base : Heap) (CN : Addr) (k : Nat) : Prop where
  ex : ∃ (f : Addr) (fd : FuncData), PySem.W.findIn K (.ref CN) "__init__" = some (some (.ref f)) ∧ PySem.W.typeIn K (.ref f) = some (.type "function") ∧ Binds K fd ["self", "name"] [] ∧ FnOk P w K mg base CX0 k f fd ["self", "name"] (spG (initE CN "name"))
theorem sc_NoThing_init : FnScope ["self", "name"] ["self", "name"] (defScope s_NoThing_init) := ⟨rfl, rfl, rfl, by decide +kernel, rfl, by decide +kernel, by decide +kernel⟩
theorem ok_NoThing_init (R : Er K mg CP CN) (D0 : Dn K CN) : MkN P w K mg base CN 1 := by
  have nd := sc_NoThing_init.nd
  obtain ⟨f, fd, h1, h2, h3, h4⟩ := D0.ex
  refine ⟨f, fd, h2, h3, h4, h1.ok sc_NoThing_init (fun vs H Q E h => ?_) fun cdv A outer s H vs Q E hr h => ?_⟩
  · obtain ⟨H0, ds, Ω, Ψ, _, r, ⟨a, d, rfl, _⟩, _⟩ := h
    exact (show vs.length = 2 from Paired.length r)
  · obtain ⟨H0, ds, Ω, Ψ, g, r, ⟨a, d, rfl, rfl, q⟩, k⟩ := h
    refine ⟨_, pss_cons (ps_expr (pe_plinit rfl R.gP R.rP R.sP R.vP (pa_cons (pv 0) (pa_cons pe_str pa_nil)))) (pss_one (ps_ost (pv 0) (pv 1))), ?_⟩
    refine (sw_seq (sw_drop (ev_veinit R.oe (ar_cons (ev_var rfl) (ar_cons ev_str ar_nil)) (j := 0) rfl) (sw_ost (a := a) R.oe R.nm (ev_var rfl) (ev_var rfl) (j := 0) rfl fun dx y => q dx y)) : SW _ (startD ["self", "name"] [.loc a, d]) [(a, .raw (exo a CN none))] { nx := fun _ Ω' => Ψ N0 Ω', rt := Ψ }) _ H0 H _ (start_sl _ r) g ⟨fun σ' Γ' Ω' H0' H' q s' g' c' => k _ _ Ω' H0' H' q g' c' .non, fun v d Ω' H0' H' q r' g' c' => k v d Ω' H0' H' q g' c' r', fun _ _ _ _ _ h => h.elim, fun _ _ _ _ _ h => h.elim⟩
theorem pmkN {X : Cx} {k j : Nat} {e : Expr} {es : List Expr} {ta : TA} {p pos : Pos} (M : MkN X.prog X.w X.K X.mg X.base CN k) (hr : Room j X.A) (hk : k + 1 ≤ j) (R : Er X.K X.mg CP CN) (ha : PA X (e :: es) ta) (hg : Gl X "NoThing" := by rfl)
    (he : starEach (e :: es) X.env = (false, eval e X.env) :: starEach es X.env := by rfl) (hpl : (backTo pos (starEach es X.env)).any (·.1) = false := by rfl) :
    PMk X (.Call (.Name "NoThing" p) (e :: es) [] pos) (tMkO CN (spG (initE CN "name")) [] ta) := by
  obtain ⟨f, fd, h2, h3, h4, h5⟩ := M.ex
  exact pmk_oex R.oe h2 h3 h5 (hr.mono hk) h4 .nil pass0 hg R.gN ha (by decide) he hpl
/-- what a plan's parts ask -/
structure PartsR (n : Net) (hs : List Hold) (os : List Opening) : Prop where
  net : NetF n
  ops : OpsR n os
  stand : AllStand n os
  holds : ∀ h ∈ hs, HoldR n h ∧ holdF n h = true
  fewH : hs.length ≤ 30
  fewO : os.length ≤ 40
theorem misD_nil {bad : List Str} : G.isNon (misD bad) = decide (bad = []) := by
  unfold misD
  cases bad with
  | nil => rfl
  | cons a l =>
    have h1 := bestAt_lt (ds := (a :: l).map PyData.str) (by simp)
    rw [if_neg (by simp), List.getD, List.getElem?_eq_getElem h1]
    have : ((a :: l).map PyData.str)[bestAt ((a :: l).map PyData.str)] ∈ (a :: l).map PyData.str := List.getElem_mem h1
    obtain ⟨x, _, hx⟩ := List.mem_map.mp this
    rw [← hx]
    simp [G.isNon]
def c_made : CE := fun ds Ψ Ξ => ∃ q : Net × List Hold × List Opening × List Thing, ds = [.py (dNet q.1), .py (.tuple (q.2.1.map dH)), .py (.tuple (q.2.2.1.map dO)), .py (.tuple (q.2.2.2.map dT))] ∧ (PartsR q.1 q.2.1 q.2.2.1 ∧ q.2.2.2.length ≤ 30) ∧
  ((badF q.1 q.2.2.1 q.2.2.2 = [] → Ψ (.py (dPlan q))) ∧ (badF q.1 q.2.2.1 q.2.2.2 ≠ [] → Ξ))
theorem sc_made : FnScope ["net", "holds", "openings", "things", "fallen", "misfit"] ["net", "holds", "openings", "things"] (defScope s_made) := ⟨rfl, rfl, rfl, by decide +kernel, rfl, by decide +kernel, by decide +kernel⟩
theorem okv_made : okL ["holds", "openings", "things", "net", "fallen", "misfit"] (defScope s_made) = true := by decide +kernel
theorem okg_made : okG ["len", "MOST_HOLDS", "MOST_OPENINGS", "MOST_THINGS", "look_holds", "first_fallen", "first_misfit"] (defScope s_made) = true := by decide +kernel
theorem ok_made (T : Tx K mg C) (R : Er K mg CP CN) (M : MkN P w K mg base CN 1) (F : Df K mg "made" s_made ["net", "holds", "openings", "things"]) (g_first_fallen : Fn P w K mg base CX0 "first_fallen" 6 ["net", "openings"] (spP c_first_fallen)) (g_first_misfit : Fn P w K mg base CX0 "first_misfit" 7 ["net", "openings", "things"] (spP c_first_misfit)) (g_look_holds : Fn P w K mg base CX0 "look_holds" 3 ["net", "holds"] (spP c_look_holds)) : Fn P w K mg base (L2.CX P w) "made" 8 ["net", "holds", "openings", "things"] (spE CN c_made) :=
  have nd := sc_made.nd
  fnX_mk F sc_made (by rintro ds Ψ Ξ ⟨_, rfl, _⟩; rfl) fun f cdv A outer s H E hr => by
    refine ⟨_, (pss_cons (ps_if (PW.pt (pw_or (pt_cmpR op_gt (kb_len K T.b (pa_cons (pvA okv_made 1 0) pa_nil) (hg := glA okg_made 0)) (pe_gi T.MOST_HOLDS (hg := glA okg_made 1)) (nomark _)) (pw_or (pt_cmpR op_gt (kb_len K T.b (pa_cons (pvA okv_made 2 1) pa_nil) (hg := glA okg_made 0)) (pe_gi T.MOST_OPENINGS (hg := glA okg_made 2)) (nomark _)) (pw_or1 (pt_cmpR op_gt (kb_len K T.b (pa_cons (pvA okv_made 3 2) pa_nil) (hg := glA okg_made 0)) (pe_gi T.MOST_THINGS (hg := glA okg_made 3)) (nomark _)))))) (pss_one ps_never) pss_nil) (pss_cons (ps_expr (pe_fn g_look_holds hr (by decide) (pa_cons (pvA okv_made 0 3) (pa_cons (pvA okv_made 1 0) pa_nil)) (hg := glA okg_made 4))) (pss_cons (ps_asg (pe_fn g_first_fallen hr (by decide) (pa_cons (pvA okv_made 0 3) (pa_cons (pvA okv_made 2 1) pa_nil)) (hg := glA okg_made 5)) (gnA okv_made nd 4 4)) (pss_cons (ps_if (pt_cmpR op_ntn (pvA okv_made 4 4) pe_non (nomark _)) (pss_one ps_never) pss_nil) (pss_cons (ps_asg (pe_fn g_first_misfit hr (by decide) (pa_cons (pvA okv_made 0 3) (pa_cons (pvA okv_made 2 1) (pa_cons (pvA okv_made 3 2) pa_nil))) (hg := glA okg_made 6)) (gnA okv_made nd 5 5)) (pss_cons (ps_if (pt_cmpR op_ntn (pvA okv_made 5 5) pe_non (nomark _)) (pss_one (ps_raise rfl (takes_of rfl rfl rfl rfl) (pmkN M hr (by decide) R (pa_cons (pvA okv_made 5 5) pa_nil)))) pss_nil) (pss_one (ps_ret (pe_tup (pa_cons (pvA okv_made 0 3) (pa_cons (pvA okv_made 1 0) (pa_cons (pvA okv_made 2 1) (pa_cons (pvA okv_made 3 2) pa_nil))))))))))))), ?_⟩
    rintro ds Ψ Ξ ⟨⟨n, hs, os, ts⟩, rfl, ⟨hp, hz⟩, q1, q2⟩
    have l1 : ((hs.map dH).length : Int) ≤ 30 := by have : hs.length ≤ 30 := hp.fewH; rw [List.length_map]; omega
    have l2 : ((os.map dO).length : Int) ≤ 40 := by have : os.length ≤ 40 := hp.fewO; rw [List.length_map]; omega
    have l3 : ((ts.map dT).length : Int) ≤ 30 := by rw [List.length_map]; have : ts.length ≤ 30 := hz; omega
    refine sw_seqX (sw_if (ts_or (ts_T (ev_iB (ev_lenT (ev_var rfl)) ev_int)) fun _ => (ts_or (ts_T (ev_iB (ev_lenT (ev_var rfl)) ev_int)) fun _ => (ts_T (ev_iB (ev_lenT (ev_var rfl)) ev_int)))) (fun hb => ?_) fun hb => sw_next ⟨rfl, ?_⟩)
    · simp only [Bool.or_eq_true, decide_eq_true_eq] at hb
      omega
    refine sw_seqX (sw_drop (ev_fn (d := N0) (ar_cons (ev_var rfl) (ar_cons (ev_var rfl) ar_nil)) fun Ψ q => ⟨n, hs, rfl, ⟨hp.net.toNetR, hp.holds⟩, q⟩) ⟨rfl, ?_⟩)
    refine sw_seqX (sw_set (ev_fn (d := N0) (ar_cons (ev_var rfl) (ar_cons (ev_var rfl) ar_nil)) fun Ψ q => ⟨n, os, rfl, ⟨hp.ops, hp.stand⟩, q⟩) ⟨rfl, ?_⟩)
    refine sw_seqX (sw_if (ts_T (ev_ntN (ev_var rfl))) (fun hb => by cases hb) fun hb => sw_next ⟨rfl, ?_⟩)
    refine sw_seqX (sw_set (ev_fn (ar_cons (ev_var rfl) (ar_cons (ev_var rfl) (ar_cons (ev_var rfl) ar_nil))) fun Ψ q => ⟨n, os, ts, rfl, ⟨hp.net, hp.ops, Nat.le_trans hz (by decide)⟩, q⟩) ⟨rfl, ?_⟩)
    refine sw_seqXX (sw_ifX (ts_T (ev_ntN (ev_var rfl))) (fun hb => ?_) fun hb => sw_x (sw_next ⟨rfl, sw_x ?_⟩))
    · rw [misD_nil] at hb
      exact sw_raiseX (ar_cons (ev_var rfl) ar_nil) (q2 (by simpa using hb))
    · rw [misD_nil] at hb
      exact sw_ret (ev_tup (ds := [_, _, _, _]) (ar_cons (ev_var rfl) (ar_cons (ev_var rfl) (ar_cons (ev_var rfl) (ar_cons (ev_var rfl) ar_nil))))) ⟨rfl, q1 (by simpa using hb)⟩
/-- a plan to be put into -/
structure PutR (p : Plan) : Prop where
  parts : PartsR p.1 p.2.1 p.2.2.1
  few : p.2.2.2.length ≤ 10
def putP (p : Plan) (o : Obl) : Plan := (p.1, p.2.1, p.2.2.1, putTs p.2.2.2 (newT o))
def badP (p : Plan) (o : Obl) : List Str := badF p.1 p.2.2.1 (putTs p.2.2.2 (newT o))
theorem putTs_len {ts : List Thing} {t : Thing} : (putTs ts t).length ≤ ts.length + 1 := by
  unfold putTs
  rw [List.length_mergeSort, List.length_append]
  have := List.length_filter_le (fun o => !decide (o.1 = t.1)) ts
  simp only [List.length_cons, List.length_nil]
  omega
def c_thing_put : CE := fun ds Ψ Ξ => ∃ q : Plan × Obl, ds = [.py (dPlan q.1), .py (dT (newT q.2))] ∧ (PutR q.1 ∧ fairO q.2) ∧ ((badP q.1 q.2 = [] → Ψ (.py (dPlan (putP q.1 q.2)))) ∧ (badP q.1 q.2 ≠ [] → Ξ))
theorem sc_thing_put : FnScope ["plan", "thing", "net", "holds", "openings", "things"] ["plan", "thing"] (defScope s_thing_put) := ⟨rfl, rfl, rfl, by decide +kernel, rfl, by decide +kernel, by decide +kernel⟩
theorem okv_thing_put : okL ["plan", "things", "openings", "holds", "net", "thing"] (defScope s_thing_put) = true := by decide +kernel
theorem okg_thing_put : okG ["is_thing", "in_place", "made"] (defScope s_thing_put) = true := by decide +kernel
theorem ok_thing_put (T : Tx K mg C) (R : Er K mg CP CN) (F : Df K mg "thing_put" s_thing_put ["plan", "thing"]) (g_in_place : Fn P w K mg base CX0 "in_place" 1 ["things", "thing"] (spP c_in_place)) (g_is_thing : Fn P w K mg base CX0 "is_thing" 3 ["thing"] (spP c_is_thing)) (g_made : Fn P w K mg base (L2.CX P w) "made" 8 ["net", "holds", "openings", "things"] (spE CN c_made)) : Fn P w K mg base (L2.CX P w) "thing_put" 9 ["plan", "thing"] (spE CN c_thing_put) :=
  have nd := sc_thing_put.nd
  fnX_mk F sc_thing_put (by rintro ds Ψ Ξ ⟨_, rfl, _⟩; rfl) fun f cdv A outer s H E hr => by
    refine ⟨_, (pss_cons (ps_asg (pvA okv_thing_put 0 0) (pgt K (n := 4) rfl (pgs_cons (gnA okv_thing_put nd 2 4) (pgs_cons (gnA okv_thing_put nd 3 3) (pgs_cons (gnA okv_thing_put nd 4 2) (pgs_cons (gnA okv_thing_put nd 5 1) pgs_nil)))))) (pss_cons (ps_if (pt_not (pt_val (pe_fn g_is_thing hr (by decide) (pa_cons (pvA okv_thing_put 1 5) pa_nil) (hg := glA okg_thing_put 0)))) (pss_one ps_never) pss_nil) (pss_one (ps_ret (pe_fnX g_made hr (by decide) (takes_of rfl rfl rfl rfl) (pa_cons (pvA okv_thing_put 2 4) (pa_cons (pvA okv_thing_put 3 3) (pa_cons (pvA okv_thing_put 4 2) (pa_cons (pe_fn g_in_place hr (by decide) (pa_cons (pvA okv_thing_put 5 1) (pa_cons (pvA okv_thing_put 1 5) pa_nil)) (hg := glA okg_thing_put 1)) pa_nil)))) (hg := glA okg_thing_put 2)))))), ?_⟩
    rintro ds Ψ Ξ ⟨⟨p, o⟩, rfl, ⟨hp, ho⟩, q1, q2⟩
    have hz : p.2.2.2.length ≤ 10 := hp.few
    refine sw_seqX (sw_asgW (EvD.toW (ev_var rfl) (tg_tup rfl (tgs_cons (tg_name (tgs_cons (tg_name (tgs_cons (tg_name (tgs_cons (tg_name (tgs_nil ⟨rfl, ?_⟩))))))))))))
    refine sw_seqX (sw_if (ts_not (ts_B (ev_fn (d := B true) (ar_cons (ev_var rfl) ar_nil) fun Ψ q => ⟨o, rfl, ho, q⟩))) (fun hb => by cases hb) fun hb => sw_next ⟨rfl, ?_⟩)
    refine sw_retX (ar_cons (ev_var rfl) (ar_cons (ev_var rfl) (ar_cons (ev_var rfl) (ar_cons (ev_fn (d := .py (.tuple ((putTs p.2.2.2 (newT o)).map dT))) (ar_cons (ev_var rfl) (ar_cons (ev_var rfl) ar_nil)) fun Ψ q => ⟨p.2.2.2, newT o, rfl, by omega, q⟩) ar_nil)))) ⟨putP p o, rfl, ⟨hp.parts, ?_⟩, fun h => ⟨rfl, q1 h⟩, q2⟩
    have := @putTs_len p.2.2.2 (newT o)
    show (putTs p.2.2.2 (newT o)).length ≤ 30
    omega
def c__law_put_at : Cp := fun ds Ψ => ∃ q : Plan × Obl, ds = [.py (dPlan q.1), .py (dPt (q.2.1, q.2.2.1)), I q.2.2.2.1, I q.2.2.2.2] ∧ (PutR q.1 ∧ fairO q.2) ∧ Ψ (.py (if badP q.1 q.2 = [] then dPlan (putP q.1 q.2) else .none))
theorem sc__law_put_at : FnScope ["_law_plan_here", "_law_spot", "_law_w", "_law_h", "_law_found", "e"] ["_law_plan_here", "_law_spot", "_law_w", "_law_h"] (defScope s__law_put_at) := ⟨rfl, rfl, rfl, by decide +kernel, rfl, by decide +kernel, by decide +kernel⟩
theorem okv__law_put_at : okL ["_law_found", "_law_spot", "_law_h", "_law_w", "_law_plan_here"] (defScope s__law_put_at) = true := by decide +kernel
theorem ok__law_put_at (T : Tx K mg C) (R : Er K mg CP CN) (F : Df K mg "_law_put_at" s__law_put_at ["_law_plan_here", "_law_spot", "_law_w", "_law_h"]) (g_thing_put : Fn P w K mg base (L2.CX P w) "thing_put" 9 ["plan", "thing"] (spE CN c_thing_put)) : Fn P w K mg base CX0 "_law_put_at" 10 ["_law_plan_here", "_law_spot", "_law_w", "_law_h"] (spP c__law_put_at) :=
  have nd := sc__law_put_at.nd
  fn_mk F sc__law_put_at (by first | (rintro ds Ω Ψ ⟨_, _, rfl, _⟩; rfl) | (rintro ds Ω Ψ ⟨_, _, _, rfl, _⟩; rfl) | (rintro ds Ω Ψ ⟨_, _, _, _, rfl, _⟩; rfl) | (rintro ds Ω Ψ ⟨_, _, _, _, _, rfl, _⟩; rfl) | (rintro ds Ω Ψ ⟨_, _, _, _, _, _, rfl, _⟩; rfl)) fun f cdv A outer s H E hr => by
    refine ⟨_, (pss_cons (ps_asg pe_non (gnA okv__law_put_at nd 4 0)) (pss_cons (ps_try_as (i := 5) (tb := fun W => tAsg (tCallS (spE CN c_thing_put) (WE W) _) (gName 4)) (ts := fun _ _ _ => tAsg (tC .non) (gName 4)) (Wout := fun _ _ _ _ => False) rfl rfl nd rfl rfl ⟨rfl, by decide, .inl R.gN⟩ takes0 (fun W pn xe tk _ => pss_one (ps_asg (by exact (pe_fnS g_thing_put hr (by decide) tk (pa_cons (pvA okv__law_put_at 0 4) (pa_cons (pe_op (opc K) (pe_op (opc K) (pe_tup (pa_cons pe_str pa_nil)) (pvA okv__law_put_at 1 1)) (pe_tup (pa_cons (pvA okv__law_put_at 2 3) (pa_cons (pvA okv__law_put_at 3 2) pa_nil)))) pa_nil)))) (gn nd 4))) (fun a oe cls d pn hz hf => pss_one (ps_asg pe_non (gn nd 4)))) (pss_one (ps_ret (pvA okv__law_put_at 4 0))))), ?_⟩
    rintro ds Ω Ψ ⟨rfl, ⟨p, o⟩, rfl, ⟨hp, ho⟩, q⟩
    refine sw_seq (sw_set ev_non ?_)
    refine sw_seq (sw_tryN R.te (ar_cons (ev_var rfl) (ar_cons (ev_catT (ev_catT (ev_tup (ds := [_]) (ar_cons ev_str ar_nil)) (ev_var rfl)) (ev_tup (ds := [_, _]) (ar_cons (ev_var rfl) (ar_cons (ev_var rfl) ar_nil)))) ar_nil)) rfl (by decide) ⟨(p, o), rfl, ⟨hp, ho⟩, fun hb => ?_, fun hb => ?_⟩)
    · rw [if_pos (show badP p o = [] from hb)] at q
      exact sw_ret (ev_var rfl) q
    · rw [if_neg (show ¬ badP p o = [] from hb)] at q
      exact sw_ret (ev_var rfl) q
end
end My
end

section
set_option Elab.async false
set_option linter.all false
set_option maxRecDepth 100000
set_option maxHeartbeats 4000000
namespace My
open PySem L2 G
open PySem.W (alike)
open PyProof.Rows (envOfC)
section
variable {P : Program} {w : World} {K : PySem.W.Frag} {mg : Str → Option Value} {base : Heap} {C CP CN : Addr}
def c__law_feed (K : PySem.W.Frag) : Co := fun ds Ω Ψ => ∃ ns : List Int, ds = [.ab (scriptM K ns)] ∧ Ω = [] ∧ ∀ F, Ψ (.loc F) [(F, .feed 0)]
theorem sc__law_feed : FnScope ["_law_script"] ["_law_script"] (defScope s__law_feed) := ⟨rfl, rfl, rfl, by decide +kernel, rfl, by decide +kernel, by decide +kernel⟩
theorem okv__law_feed : okL ["_law_script"] (defScope s__law_feed) = true := by decide +kernel
theorem okg__law_feed : okG ["list"] (defScope s__law_feed) = true := by decide +kernel
theorem ok__law_feed (T : Tx K mg C) (F : Df K mg "_law_feed" s__law_feed ["_law_script"])  : Fn P w K mg base CX0 "_law_feed" 1 ["_law_script"] (spG (c__law_feed K)) :=
  have nd := sc__law_feed.nd
  fn_mk F sc__law_feed (by rintro ds Ω Ψ ⟨_, rfl, _⟩; rfl) fun f cdv A outer s H E hr => by
    refine ⟨_, (pss_one (ps_ret (pe_lst (pa_cons (pb_list T.b (pa_cons (pe_slice (sll K) (pvA okv__law_feed 0 0) po_none (po_some pe_int)) pa_nil) (hg := glA okg__law_feed 0)) (pa_cons pe_int (pa_cons pe_int pa_nil)))))), ?_⟩
    rintro ds Ω Ψ ⟨ns, rfl, rfl, q⟩
    exact sw_retW (ev_newF (ns := ns.take 63) (ar_cons (ev_listL (ev_sl63 (ev_var rfl))) (ar_cons ev_int (ar_cons ev_int ar_nil))) (List.length_take_le _ _) fun F => q F)
def c__law_draw : Cf := fun n ds Ψ => ∃ many : Int, ds = [I many] ∧ (0 < many ∧ many < 1073741824 ∧ n ≤ 1000000) ∧ ∀ r, 0 ≤ r → r < many → Ψ (I r) (n + 1)
theorem sc__law_draw : FnScope ["_law_feed_here", "_law_many", "_law_got", "_law_at", "_law_cell", "_law_number"] ["_law_feed_here", "_law_many"] (defScope s__law_draw) := ⟨rfl, rfl, rfl, by decide +kernel, rfl, by decide +kernel, by decide +kernel⟩
theorem okv__law_draw : okL ["_law_feed_here", "_law_many", "_law_got", "_law_at", "_law_cell", "_law_number"] (defScope s__law_draw) = true := by decide +kernel
theorem okg__law_draw : okG ["len"] (defScope s__law_draw) = true := by decide +kernel
theorem ok__law_draw (T : Tx K mg C) (F : Df K mg "_law_draw" s__law_draw ["_law_feed_here", "_law_many"])  : Fn P w K mg base CX0 "_law_draw" 1 ["_law_feed_here", "_law_many"] (spF c__law_draw) :=
  have nd := sc__law_draw.nd
  fn_mk F sc__law_draw (by first | (rintro ds Ω Ψ ⟨_, _, _, rfl, _, rfl, _⟩; rfl) | (rintro ds Ω Ψ ⟨_, _, _, rfl, _, _, rfl, _⟩; rfl) | (rintro ds Ω Ψ ⟨_, _, _, rfl, _, _, _, rfl, _⟩; rfl) | (rintro ds Ω Ψ ⟨_, _, _, rfl, _, _, _, _, rfl, _⟩; rfl)) fun f cdv A outer s H E hr => by
    refine ⟨_, (pss_cons (ps_if (pt_cmpR op_gt (pe_ix (ixl K) (pvA okv__law_draw 0 0) pe_int (fun _ _ => rfl)) pe_int (nomark _)) (pss_cons (ps_asg (pe_op op_mod (pe_ix (ixl K) (pvA okv__law_draw 0 0) pe_int (fun _ _ => rfl)) (pvA okv__law_draw 1 1)) (gnA okv__law_draw nd 2 2)) (pss_cons (ps_asg (pe_op op_fdiv (pe_ix (ixl K) (pvA okv__law_draw 0 0) pe_int (fun _ _ => rfl)) (pvA okv__law_draw 1 1)) (pg_sub (pvA okv__law_draw 0 0) pe_int set_list)) (pss_one (ps_ret (pvA okv__law_draw 2 2))))) pss_nil) (pss_cons (ps_asg (pe_ix (ixl K) (pvA okv__law_draw 0 0) pe_int (fun _ _ => rfl)) (gnA okv__law_draw nd 3 3)) (pss_cons (ps_asg (pe_op op_add (pvA okv__law_draw 3 3) pe_int) (pg_sub (pvA okv__law_draw 0 0) pe_int set_list)) (pss_cons (ps_asg (pvA okv__law_draw 3 3) (gnA okv__law_draw nd 4 4)) (pss_cons (ps_if (pt_cmpR op_gt (kb_len K T.b (pa_cons (pe_ix (ixl K) (pvA okv__law_draw 0 0) pe_int (fun _ _ => rfl)) pa_nil) (hg := glA okg__law_draw 0)) pe_int (nomark _)) (pss_one (ps_asg (pe_ix (ixl K) (pe_ix (ixl K) (pvA okv__law_draw 0 0) pe_int (fun _ _ => rfl)) (pe_op op_mod (pvA okv__law_draw 3 3) (kb_len K T.b (pa_cons (pe_ix (ixl K) (pvA okv__law_draw 0 0) pe_int (fun _ _ => rfl)) pa_nil) (hg := glA okg__law_draw 0))) (fun _ _ => rfl)) (gnA okv__law_draw nd 4 4))) pss_nil) (pss_cons (ps_if (PW.pt (pw_and (pt_cmpR op_ge (pvA okv__law_draw 4 4) (pe_op op_pow pe_int pe_int) (nomark _)) (pw_and1 (pt_cmpR op_lt (pvA okv__law_draw 3 3) (kb_len K T.b (pa_cons (pe_ix (ixl K) (pvA okv__law_draw 0 0) pe_int (fun _ _ => rfl)) pa_nil) (hg := glA okg__law_draw 0)) (nomark _))))) (pss_cons (ps_asg (pe_op op_fdiv (pvA okv__law_draw 4 4) (pvA okv__law_draw 1 1)) (pg_sub (pvA okv__law_draw 0 0) pe_int set_list)) (pss_one (ps_ret (pe_op op_mod (pvA okv__law_draw 4 4) (pvA okv__law_draw 1 1))))) pss_nil) (pss_cons (ps_asg (pe_op op_mod (pe_op op_mul (pe_op op_add (pe_op op_add (pe_op op_mod (pvA okv__law_draw 4 4) pe_int) (pe_op op_mul (pe_op op_mul pe_int (pvA okv__law_draw 3 3)) (pvA okv__law_draw 3 3))) pe_int) pe_int) pe_int) (gnA okv__law_draw nd 5 5)) (pss_cons (ps_asg (pe_op op_mod (pe_op op_add (pe_op op_mul (pvA okv__law_draw 5 5) (pvA okv__law_draw 5 5)) (pe_op op_mul pe_int (pvA okv__law_draw 3 3))) pe_int) (gnA okv__law_draw nd 5 5)) (pss_one (ps_ret (pe_op op_mod (pe_op op_fdiv (pe_op op_mod (pe_op op_mul (pvA okv__law_draw 5 5) (pe_op op_add (pe_op op_mod (pvA okv__law_draw 5 5) pe_int) pe_int)) pe_int) pe_int) (pvA okv__law_draw 1 1)))))))))))), ?_⟩
    rintro ds Ω Ψ ⟨F, n, es, rfl, rfl, many, rfl, ⟨h0, h1, hn⟩, q⟩
    refine sw_openF fun at_ rest ns h63 ha0 han hr0 => ?_
    have hfin : ∀ {x : Int}, 0 ≤ x % many ∧ x % many < many := fun {x} => ⟨Int.emod_nonneg _ (by omega), Int.emod_lt_of_pos _ h0⟩
    refine sw_seq (sw_if (ts_T (ev_iB (ev_ixO (ev_var rfl) ev_int (j := 0) rfl rfl) ev_int)) (fun hb => ?_) fun hb => sw_next ?_)
    · refine sw_seq (sw_set (ev_iC (ev_ixO (ev_var rfl) ev_int (j := 0) rfl rfl) (ev_var rfl) h0) ?_)
      refine sw_seq (sw_setO (ev_iC (ev_ixO (ev_var rfl) ev_int (j := 0) rfl rfl) (ev_var rfl) ⟨h0, h1⟩) (ev_var rfl) ev_int (j := 0) rfl (k := 2) rfl ?_)
      try simp only [startD, List.map_cons, List.map_nil, List.cons_append, List.nil_append, List.set_cons_zero, List.set_cons_succ, List.length_cons, List.length_nil, List.replicate_succ, List.replicate_zero, Nat.reduceSub, Nat.reduceAdd]
      exact sw_retF (n := n + 1) (ev_var rfl) h63 ha0 (by omega) (Int.ediv_nonneg hr0 (by omega)) (q _ hfin.1 hfin.2)
    · refine sw_seq (sw_set (ev_ixO (ev_var rfl) ev_int (j := 0) rfl rfl) ?_)
      refine sw_seq (sw_setO (ev_i0 (ev_var rfl) ev_int) (ev_var rfl) ev_int (j := 0) rfl (k := 1) rfl ?_)
      try simp only [startD, List.map_cons, List.map_nil, List.cons_append, List.nil_append, List.set_cons_zero, List.set_cons_succ, List.length_cons, List.length_nil, List.replicate_succ, List.replicate_zero, Nat.reduceSub, Nat.reduceAdd]
      refine sw_seq (sw_set (ev_var rfl) ?_)
      try simp only [startD, List.map_cons, List.map_nil, List.cons_append, List.nil_append, List.set_cons_zero, List.set_cons_succ, List.length_cons, List.length_nil, List.replicate_succ, List.replicate_zero, Nat.reduceSub, Nat.reduceAdd]
      refine sw_seqE (α := Int) (fun cell => [some (.loc F), some (I many), none, some (I at_), some (I cell), none]) (fun _ => [(F, .lst [.py (.list (ns.map PyData.int)), I (at_ + 1), I rest])]) (sw_if (ts_T (ev_iB (ev_lenL (ev_ixO (ev_var rfl) ev_int (j := 0) (d := .py (.list (ns.map PyData.int))) rfl rfl)) ev_int)) (fun hb => ?_) fun hb => sw_next ⟨at_, rfl, rfl⟩) fun cell => ?_
      · have hlen : 0 < ns.length := by
          have := of_decide_eq_true hb
          rw [List.length_map] at this
          omega
        have hm : (at_ % (((ns.map PyData.int).length : Nat) : Int)) = (((at_.toNat % ns.length : Nat)) : Int) := by
          rw [List.length_map, Int.natCast_emod]
          congr 1
          omega
        refine sw_set (ev_ixL (ev_ixO (ev_var rfl) ev_int (j := 0) (d := .py (.list (ns.map PyData.int))) rfl rfl) (ev_iC (ev_var rfl) (ev_lenL (ev_ixO (ev_var rfl) ev_int (j := 0) (d := .py (.list (ns.map PyData.int))) rfl rfl)) ?_) (atI_map hm (Nat.mod_lt _ hlen))) ⟨_, rfl, rfl⟩
        rw [List.length_map]; omega
      · refine sw_seq (sw_if (ts_and (ts_T (ev_iB (ev_var rfl) (ev_iC ev_int ev_int ⟨by decide, by decide, by decide⟩))) fun _ => (ts_T (ev_iB (ev_var rfl) (ev_lenL (ev_ixO (ev_var rfl) ev_int (j := 0) (d := .py (.list (ns.map PyData.int))) rfl rfl))))) (fun hb => ?_) fun hb => sw_next ?_)
        · have hc0 : 0 ≤ cell := by
            simp only [Bool.and_eq_true, decide_eq_true_eq] at hb
            have h1 := hb.1
            have h2 : (0 : Int) ≤ 10 ^ (18 : Int).toNat := by decide
            omega
          refine sw_seq (sw_setO (ev_iC (ev_var rfl) (ev_var rfl) ⟨h0, h1⟩) (ev_var rfl) ev_int (j := 0) rfl (k := 2) rfl ?_)
          try simp only [startD, List.map_cons, List.map_nil, List.cons_append, List.nil_append, List.set_cons_zero, List.set_cons_succ, List.length_cons, List.length_nil, List.replicate_succ, List.replicate_zero, Nat.reduceSub, Nat.reduceAdd]
          exact sw_retF (n := n + 1) (ev_iC (ev_var rfl) (ev_var rfl) h0) h63 (by omega) (by omega) (Int.ediv_nonneg hc0 (by omega)) (q _ hfin.1 hfin.2)
        · have b1 : ∀ x : Int, CMul (x % 2147483647) (x % 2147483647) := fun x => .inl ⟨by have := Int.emod_nonneg x (b := 2147483647) (by decide); omega, by have := Int.emod_lt_of_pos x (b := 2147483647) (by decide); omega⟩
          refine sw_seq (sw_set (ev_iC (ev_iC (ev_i0 (ev_i0 (ev_iC (ev_var rfl) ev_int (by decide)) (ev_iC (ev_iC ev_int (ev_var rfl) (.inl ⟨by decide, by decide⟩)) (ev_var rfl) (.inr ⟨by omega, by omega⟩))) ev_int) ev_int (.inr ⟨by decide, by decide⟩)) ev_int (by decide)) ?_)
          try simp only [startD, List.map_cons, List.map_nil, List.cons_append, List.nil_append, List.set_cons_zero, List.set_cons_succ, List.length_cons, List.length_nil, List.replicate_succ, List.replicate_zero, Nat.reduceSub, Nat.reduceAdd]
          refine sw_seq (sw_set (ev_iC (ev_i0 (ev_iC (ev_var rfl) (ev_var rfl) (b1 _)) (ev_iC ev_int (ev_var rfl) (.inl ⟨by decide, by decide⟩))) ev_int (by decide)) ?_)
          try simp only [startD, List.map_cons, List.map_nil, List.cons_append, List.nil_append, List.set_cons_zero, List.set_cons_succ, List.length_cons, List.length_nil, List.replicate_succ, List.replicate_zero, Nat.reduceSub, Nat.reduceAdd]
          refine sw_retF (n := n + 1) (ev_iC (ev_iC (ev_iC (ev_iC (ev_var rfl) (ev_i0 (ev_iC (ev_var rfl) ev_int (by decide)) ev_int) (.inl ⟨?_, ?_⟩)) ev_int (by decide)) ev_int ⟨by decide, by decide⟩) (ev_var rfl) h0) h63 (by omega) (by omega) hr0 (q _ hfin.1 hfin.2)
          · refine Int.lt_of_lt_of_le ?_ (Int.emod_nonneg _ (by decide)); decide
          · refine Int.lt_trans (Int.emod_lt_of_pos _ (by decide)) ?_; decide
end
end My
end

section
set_option Elab.async false
set_option linter.all false
set_option maxRecDepth 100000
set_option maxHeartbeats 4000000
namespace My
open PySem L2 G
open PySem.W (alike)
open PyProof.Rows (envOfC)
section
variable {Γ : En} {Ω Ωr : Om} {tm : TE} {F : Addr} {n i : Nat} {many : Int} {Q : D → Om → Prop}
theorem ev_drawW (hv : Γ[i]? = some (some (.loc F))) (hm : EvW tm Γ Ω fun d Ω1 => ∃ many n Ωr, d = I many ∧ Ω1 = (F, .feed n) :: Ωr ∧ (0 < many ∧ many < 1073741824 ∧ n ≤ 1000000) ∧ ∀ r, 0 ≤ r → r < many → Q (I r) ((F, .feed (n + 1)) :: Ωr)) : EvW (tCall (spF c__law_draw) [] E0 (tCons (tVar i) (tCons tm tNil))) Γ Ω Q :=
  ev_fnF (ar_consW (EvD.toW (ev_var hv) (ar_consW (hm.imp fun d Ω1 ⟨many, n, Ωr, e1, e2, hb, q⟩ => ar_nilW ⟨F, n, [I many], Ωr, by rw [e1], e2, many, rfl, hb, q⟩))))
theorem ev_draw (hv : Γ[i]? = some (some (.loc F))) (hm : EvD tm Γ ((F, .feed n) :: Ωr) (I many)) (hb : 0 < many ∧ many < 1073741824 ∧ n ≤ 1000000) (q : ∀ r, 0 ≤ r → r < many → Q (I r) ((F, .feed (n + 1)) :: Ωr)) : EvW (tCall (spF c__law_draw) [] E0 (tCons (tVar i) (tCons tm tNil))) Γ ((F, .feed n) :: Ωr) Q :=
  ev_drawW hv (hm.toW ⟨many, n, Ωr, rfl, rfl, hb, q⟩)
end
/-- a line of places -/
structure LineR (many : Int) (xs : List Int) : Prop where
  len : (xs.length : Int) = many
  lt : xs.Pairwise (· < ·)
  box : ∀ x ∈ xs, 0 ≤ x ∧ x ≤ 1000000
structure LineI (sc : Int) (k : Nat) (xs : List Int) (h : Int) : Prop where
  len : xs.length = k + 1
  lt : xs.Pairwise (· < ·)
  box : ∀ x ∈ xs, 0 ≤ x ∧ x ≤ h
  top : h ≤ (2 + 6 * k) * sc
theorem LineI.next {sc : Int} {k : Nat} {xs : List Int} {h r : Int} (j : LineI sc k xs h) (hs : 1 ≤ sc) (h0 : 0 ≤ r) (h6 : r < 6) : LineI sc (k + 1) (xs ++ [h + (1 + r) * sc]) (h + (1 + r) * sc) := by
  have e1 : (1 + r) * sc = sc + r * sc := by rw [Int.add_mul, Int.one_mul]
  have e2 : 0 ≤ r * sc := Int.mul_nonneg h0 (by omega)
  have e3 : r * sc ≤ 5 * sc := Int.mul_le_mul_of_nonneg_right (by omega) (by omega)
  have h00 : 0 ≤ h := by
    have hl := j.len
    cases xs with
    | nil => cases hl
    | cons a l => have := j.box a List.mem_cons_self; omega
  refine ⟨by rw [List.length_append, j.len]; rfl, ?_, ?_, ?_⟩
  · refine List.pairwise_append.mpr ⟨j.lt, List.pairwise_singleton _ _, fun a ha b hb => ?_⟩
    rw [List.mem_singleton.mp hb]
    have := j.box a ha
    omega
  · intro x hx
    rcases List.mem_append.mp hx with hx | hx
    · have := j.box x hx; omega
    · rw [List.mem_singleton.mp hx]; omega
  · have h1 := j.top
    have e4 : (2 + 6 * ((k + 1 : Nat) : Int)) * sc = (2 + 6 * (k : Int)) * sc + 6 * sc := by rw [← Int.add_mul]; congr 1
    omega
theorem LineI.done {many sc : Int} {k : Nat} {xs : List Int} {h : Int} (j : LineI sc k xs h) (hk : (k : Int) = many - 1) (hm : many ≤ 10) (hs : sc ≤ 10000) (h1 : 1 ≤ sc) : LineR many xs ∧ h ≤ 1000000 := by
  have h2 := j.top
  have h3 : (2 + 6 * (k : Int)) * sc ≤ (2 + 6 * (k : Int)) * 10000 := Int.mul_le_mul_of_nonneg_left hs (by omega)
  have hh : h ≤ 1000000 := by omega
  refine ⟨⟨by rw [j.len]; omega, j.lt, fun x hx => ?_⟩, hh⟩
  have := j.box x hx
  omega
theorem LineI.flip {many sc : Int} {k : Nat} {xs : List Int} {h : Int} (j : LineI sc k xs h) (hk : (k : Int) = many - 1) (hm : many ≤ 10) (hs : sc ≤ 10000) (h1 : 1 ≤ sc) : LineR many (xs.map fun x => x + 1000000 - h) := by
  obtain ⟨_, hh⟩ := j.done hk hm hs h1
  refine ⟨by rw [List.length_map, j.len]; omega, List.Pairwise.map _ (fun a b hab => ?_) j.lt, fun x hx => ?_⟩
  · show a + 1000000 - h < b + 1000000 - h
    omega
  · obtain ⟨y, hy, rfl⟩ := List.mem_map.mp hx
    have := j.box y hy
    show 0 ≤ y + 1000000 - h ∧ y + 1000000 - h ≤ 1000000
    omega
section
variable {P : Program} {w : World} {K : PySem.W.Frag} {mg : Str → Option Value} {base : Heap} {C CP CN : Addr}
theorem mulOk {a b : Int} (h : 1 ≤ b) (h2 : b ≤ 10000) : CMul a b := .inr ⟨by omega, by omega⟩
def c__law_line : Cf := fun n ds Ψ => ∃ q : Int × Int, ds = [I q.1, I q.2] ∧ (1 ≤ q.1 ∧ q.1 ≤ 10 ∧ 1 ≤ q.2 ∧ q.2 ≤ 10000 ∧ n ≤ 900000) ∧ ∀ xs n', n' ≤ n + 20 → LineR q.1 xs → Ψ (.py (.list (xs.map PyData.int))) n'
theorem sc__law_line : FnScope ["_law_feed_here", "_law_many", "_law_scale", "_law_here", "_law_found", "_law_k", "_law_number"] ["_law_feed_here", "_law_many", "_law_scale"] (defScope s__law_line) := ⟨rfl, rfl, rfl, by decide +kernel, rfl, by decide +kernel, by decide +kernel⟩
theorem okv__law_line : okL ["_law_feed_here", "_law_scale", "_law_found", "_law_many", "_law_k"] (defScope s__law_line) = true := by decide +kernel
theorem okg__law_line : okG ["_law_draw", "range"] (defScope s__law_line) = true := by decide +kernel
theorem ok__law_line (T : Tx K mg C) (F : Df K mg "_law_line" s__law_line ["_law_feed_here", "_law_many", "_law_scale"]) (g__law_draw : Fn P w K mg base CX0 "_law_draw" 1 ["_law_feed_here", "_law_many"] (spF c__law_draw)) : Fn P w K mg base CX0 "_law_line" 2 ["_law_feed_here", "_law_many", "_law_scale"] (spF c__law_line) :=
  have nd := sc__law_line.nd
  fn_mk F sc__law_line (by first | (rintro ds Ω Ψ ⟨_, _, _, rfl, _, rfl, _⟩; rfl) | (rintro ds Ω Ψ ⟨_, _, _, rfl, _, _, rfl, _⟩; rfl) | (rintro ds Ω Ψ ⟨_, _, _, rfl, _, _, _, rfl, _⟩; rfl) | (rintro ds Ω Ψ ⟨_, _, _, rfl, _, _, _, _, rfl, _⟩; rfl)) fun f cdv A outer s H E hr => by
    refine ⟨_, (pss_cons (ps_asg (pe_op op_mul (pe_fn g__law_draw hr (by decide) (pa_cons (pvA okv__law_line 0 0) (pa_cons pe_int pa_nil)) (hg := glA okg__law_line 0)) (pvA okv__law_line 2 1)) (gn nd 3)) (pss_cons (ps_asg (pe_lst (pa_cons (pv 3) pa_nil)) (gnA okv__law_line nd 4 2)) (pss_cons (ps_for PassesOwn.never rfl (pi_range1 (glA okg__law_line 1) T.b.range (pa_cons (pe_op op_sub (pvA okv__law_line 1 3) pe_int) pa_nil)) (gnA okv__law_line nd 5 4) (pss_cons (ps_asg (pe_op op_add (pv 3) (pe_op op_mul (pe_op op_add pe_int (pe_fn g__law_draw hr (by decide) (pa_cons (pvA okv__law_line 0 0) (pa_cons pe_int pa_nil)) (hg := glA okg__law_line 0))) (pvA okv__law_line 2 1))) (gn nd 3)) (pss_one (ps_expr (pe_bm PySem.F.plainAttrs_list PySem.F.slot_list_append PySem.F.type_list_append mt_append (pvA okv__law_line 4 2) (pa_cons (pv 3) pa_nil)))))) (pss_cons (ps_if (PW.pt (pw_and (pt_cmpR op_gt (pvA okv__law_line 2 1) pe_int (nomark _)) (pw_and1 (pt_cmpR op_eq (pe_fn g__law_draw hr (by decide) (pa_cons (pvA okv__law_line 0 0) (pa_cons pe_int pa_nil)) (hg := glA okg__law_line 0)) pe_int (nomark _))))) (pss_one (ps_setLc (i := 4) (own := [("_law_number", 6)]) rfl nd rfl rfl (sw_true rfl rfl rfl (by decide +kernel)) (pi_list (pvA okv__law_line 4 2)) (blkOk_by (own := [("_law_number", 6)]) (N := ["_law_feed_here", "_law_many", "_law_scale", "_law_here", "_law_found", "_law_k", "_law_number"]) (sc := defScope s__law_line) (by decide +kernel)) (fun _ _ _ _ _ => (gn nd 6)) (fun _ _ _ _ _ => pts_nil) (fun _ _ _ _ _ => (pe_op op_sub (pe_op op_add (pv 6) (pe_op op_pow pe_int pe_int)) (pv 3))))) pss_nil) (pss_one (ps_ret (pvA okv__law_line 4 2))))))), ?_⟩
    rintro ds Ω Ψ ⟨F, n, es, rfl, rfl, ⟨many, sc⟩, rfl, ⟨h1, h2, h3, h4, hn⟩, q⟩
    dsimp only at h1 h2 h3 h4 q
    refine sw_seq (sw_setW (ev_iCW (ev_draw rfl ev_int ⟨by decide, by decide, by omega⟩ fun r hr0 hr1 => ⟨r, rfl, EvD.toW (ev_var rfl) ⟨sc, rfl, mulOk h3 h4, ?_⟩⟩)))
    try simp only [startD, List.map_cons, List.map_nil, List.cons_append, List.nil_append, List.set_cons_zero, List.set_cons_succ, List.length_cons, List.length_nil, List.replicate_succ, List.replicate_zero, Nat.reduceSub, Nat.reduceAdd]
    refine sw_seq (sw_setW (ev_ownL (ds := [_]) (ar_cons (ev_var rfl) ar_nil) (Nat.le_of_ble_eq_true rfl) fun p => ?_))
    try simp only [startD, List.map_cons, List.map_nil, List.cons_append, List.nil_append, List.set_cons_zero, List.set_cons_succ, List.length_cons, List.length_nil, List.replicate_succ, List.replicate_zero, Nat.reduceSub, Nat.reduceAdd]
    refine sw_seq (sw_forR (n := many - 1) (ar_cons (ev_i0 (ev_var rfl) ev_int) ar_nil) (by omega) (by omega) (fun k Γ Ω => ∃ a b h xs n', Γ = [some (.loc F), some (I many), some (I sc), some (I h), some (.loc p), a, b] ∧ Ω = [(F, .feed n'), (p, .lst ((xs.map PyData.int).map D.py))] ∧ n' ≤ n + 1 + k ∧ LineI sc k xs h) ⟨none, none, r * sc, [r * sc], n + 1, rfl, rfl, Nat.le_refl _, ?_⟩ (fun k Γ' Ω' hk j => ?_) fun Γ' Ω' j => ?_)
    · have e1 : 0 ≤ r * sc := Int.mul_nonneg hr0 (by omega)
      have e2 : r * sc ≤ 2 * sc := Int.mul_le_mul_of_nonneg_right (by omega) (by omega)
      refine ⟨rfl, List.pairwise_singleton _ _, fun x hx => ?_, by simpa using e2⟩
      rw [List.mem_singleton.mp hx]
      exact ⟨e1, Int.le_refl _⟩
    · obtain ⟨a, b, h, xs, n', rfl, rfl, hn', j⟩ := j
      refine tg_name ?_
      refine sw_seq (sw_setW (ev_i0W (EvD.toW (ev_var rfl) ⟨h, rfl, ev_iCW (ev_i0W (EvD.toW ev_int ⟨1, rfl, ev_draw rfl ev_int ⟨by decide, by decide, by omega⟩ fun r2 hr0 hr1 => ⟨r2, rfl, 1 + r2, rfl, EvD.toW (ev_var rfl) ⟨sc, rfl, mulOk h3 h4, _, rfl, ?_⟩⟩⟩))⟩)))
      try simp only [startD, List.map_cons, List.map_nil, List.cons_append, List.nil_append, List.set_cons_zero, List.set_cons_succ, List.length_cons, List.length_nil, List.replicate_succ, List.replicate_zero, Nat.reduceSub, Nat.reduceAdd]
      refine sw_app (ev_var rfl) (ev_var rfl) (j := 1) rfl ?_ ⟨_, _, _, xs ++ [h + (1 + r2) * sc], n' + 1, rfl, ?_, by omega, j.next h3 hr0 hr1⟩
      · rw [List.length_map, List.length_map, j.len]; omega
      · rw [List.map_append, List.map_append]; rfl
    · obtain ⟨a, b, h, xs, n', rfl, rfl, hn', j⟩ := j
      have hk : (((many - 1).toNat : Nat) : Int) = many - 1 := by omega
      refine sw_frz (i := 4) (j := 1) (ds := xs.map PyData.int) rfl rfl ?_
      refine sw_seq (sw_ifW (ts_andW (TsD.toW (ts_T (ev_iB (ev_var rfl) ev_int)) ?_)))
      have fin : ∀ n2, n2 ≤ n + 20 → SW (tRet (tVar 4)) [some (.loc F), some (I many), some (I sc), some (I h), some (.py (.list (xs.map PyData.int))), a, b] [(F, .feed n2)] { nx := fun _ Ω' => Ψ N0 Ω', rt := Ψ } := fun n2 hn2 => sw_ret (ev_var rfl) (q xs n2 hn2 (j.done hk h2 h4 h3).1)
      split
      · refine ts_TW (ev_eqIW (ev_draw rfl ev_int ⟨by decide, by decide, by omega⟩ fun r2 hr0 hr1 => ⟨r2, rfl, EvD.toW ev_int ⟨0, rfl, _, rfl, ?_⟩⟩))
        split
        · refine sw_set (ev_lcL xs PyData.int (fun _ => true) (fun x => .int (x + 1000000 - h)) (ev_var rfl) (to_name) (by rw [j.len]; omega) fun x hx => tg_name ⟨rfl, ts_yes, fun _ => (ev_i0 (ev_i0 (ev_var rfl) (ev_iC ev_int ev_int ⟨by decide, by decide, by decide⟩)) (ev_var rfl))⟩) ?_
          refine sw_ret (ev_var rfl) ?_
          have := q (xs.map fun x => x + 1000000 - h) (n' + 1) (by omega) (j.flip hk h2 h4 h3)
          rw [List.map_map] at this
          rw [fil_true]
          exact this
        · exact sw_next (fin _ (by omega))
      · rw [if_neg Bool.false_ne_true]
        exact sw_next (fin _ (by omega))
end
end My
end

section
set_option Elab.async false
set_option linter.all false
set_option maxRecDepth 100000
set_option maxHeartbeats 4000000
namespace My
open PySem L2 G
open PySem.W (alike)
open PyProof.Rows (envOfC)
section
variable {P : Program} {w : World} {K : PySem.W.Frag} {mg : Str → Option Value} {base : Heap} {C CP CN : Addr}
theorem pbm {X : Cx} {K : PySem.W.Frag} {T id : String} {name : Str} {r : V → List V → Hp → VK → Prop} {o e : Expr} {es : List Expr} {to : TE} {t : TA} {apos cpos : Pos} (hpa : PlainAttrs T) (slot : Slot T name id) (hty : typeOf (.builtin id) = pure (.type "method_descriptor")) (hm : MtM X id r) (ho : PE X o to) (ha : PA X (e :: es) t) (hK : X.K = K := by rfl)
    (hbase : attributeBase o name X.env (eval o X.env) = eval o X.env := by rfl)
    (hfew : ((backTo cpos (starEach (e :: es) X.env)).all (fun x => !x.1) && (backToKw cpos (keywordEach [] X.env)).all (fun x => x.1.isSome)
      && decide ((e :: es).length + ([] : List Keyword).length + (if ([] : List Keyword).isEmpty then 0 else 1) < 30)) = true := by rfl)
    (hline : (apos.endLine == cpos.line) = true := by rfl) (hs : starEach (e :: es) X.env = (false, eval e X.env) :: starEach es X.env := by rfl) (hplain : (backTo cpos (starEach es X.env)).any (·.1) = false := by rfl) :
    PE X (.Call (.Attribute o name apos) (e :: es) [] cpos) (tBM K T r to t) := hK ▸ pe_bm hpa slot hty hm ho ha hbase hfew hline hs hplain
theorem nodup_map_on {α β : Type} {f : α → β} {l : List α} (h : l.Nodup) (hf : ∀ i ∈ l, ∀ j ∈ l, f i = f j → i = j) : (l.map f).Nodup := by
  unfold List.Nodup
  rw [List.pairwise_map]
  exact List.Pairwise.imp_of_mem (fun ha hb hne e => hne (hf _ ha _ hb e)) h
theorem erase_perm {α : Type} {l : List α} : ∀ {i : Nat} (h : i < l.length), (l[i] :: l.eraseIdx i).Perm l := by
  induction l with
  | nil => intro i h; simp at h
  | cons a l ih =>
    intro i h
    cases i with
    | zero => exact .refl _
    | succ i => exact (List.Perm.swap _ _ _).trans ((ih (by simpa using h)).cons a)
theorem eraseIdx_map {α β : Type} {f : α → β} : ∀ {l : List α} {i : Nat}, (l.map f).eraseIdx i = (l.eraseIdx i).map f
  | [], _ => rfl
  | a :: l, 0 => rfl
  | a :: l, i + 1 => congrArg (f a :: ·) eraseIdx_map
def steps4 : List Int := [7, 303, 617, 999]
theorem step_nodup {step first : Int} (hs : step ∈ steps4) {m : Nat} (hm : m ≤ 100) : ((List.range m).map fun k : Nat => (first + step * (k : Int)) % 1000).Nodup := by
  refine nodup_map_on List.nodup_range ?_
  · intro i hi j hj e
    have hi := List.mem_range.mp hi
    have hj := List.mem_range.mp hj
    simp only [steps4, List.mem_cons, List.not_mem_nil, or_false] at hs
    rcases hs with rfl | rfl | rfl | rfl <;> omega
def c__law_numbers : Cf := fun n ds Ψ => ∃ m : Nat, ds = [I (m : Int)] ∧ (m ≤ 100 ∧ n ≤ 900000) ∧ ∀ (ns : List Int) n', n' ≤ n + 110 → ns.length = m → ns.Nodup → Ψ (.py (.list (ns.map PyData.int))) n'
theorem sc__law_numbers : FnScope ["_law_feed_here", "_law_many", "_law_step", "_law_first", "_law_k", "_law_left"] ["_law_feed_here", "_law_many"] (defScope s__law_numbers) := ⟨rfl, rfl, rfl, by decide +kernel, rfl, by decide +kernel, by decide +kernel⟩
theorem okv__law_numbers : okL ["_law_many"] (defScope s__law_numbers) = true := by decide +kernel
theorem okg__law_numbers : okG ["_law_draw", "range"] (defScope s__law_numbers) = true := by decide +kernel
theorem ok__law_numbers (T : Tx K mg C) (F : Df K mg "_law_numbers" s__law_numbers ["_law_feed_here", "_law_many"]) (g__law_draw : Fn P w K mg base CX0 "_law_draw" 1 ["_law_feed_here", "_law_many"] (spF c__law_draw)) : Fn P w K mg base CX0 "_law_numbers" 2 ["_law_feed_here", "_law_many"] (spF c__law_numbers) :=
  have nd := sc__law_numbers.nd
  fn_mk F sc__law_numbers (by first | (rintro ds Ω Ψ ⟨_, _, _, rfl, _, rfl, _⟩; rfl) | (rintro ds Ω Ψ ⟨_, _, _, rfl, _, _, rfl, _⟩; rfl) | (rintro ds Ω Ψ ⟨_, _, _, rfl, _, _, _, rfl, _⟩; rfl) | (rintro ds Ω Ψ ⟨_, _, _, rfl, _, _, _, _, rfl, _⟩; rfl)) fun f cdv A outer s H E hr => by
    refine ⟨_, (pss_cons (ps_if (pt_cmpR op_eq (pe_fn g__law_draw hr (by decide) (pa_cons (pv 0) (pa_cons pe_int pa_nil)) (hg := glA okg__law_numbers 0)) pe_int (nomark _)) (pss_cons (ps_asg (pe_ix (ixl K) (pe_lst (pa_cons pe_int (pa_cons pe_int (pa_cons pe_int (pa_cons pe_int pa_nil))))) (pe_fn g__law_draw hr (by decide) (pa_cons (pv 0) (pa_cons pe_int pa_nil)) (hg := glA okg__law_numbers 0)) (fun _ _ => rfl)) (gn nd 2)) (pss_cons (ps_asg (pe_fn g__law_draw hr (by decide) (pa_cons (pv 0) (pa_cons pe_int pa_nil)) (hg := glA okg__law_numbers 0)) (gn nd 3)) (pss_one (ps_ret (pe_lc (own := [("_law_k", 4)]) rfl nd (pi_range1 (glA okg__law_numbers 1) T.b.range (pa_cons (pvA okv__law_numbers 1 0) pa_nil)) (blkOk_by (own := [("_law_k", 4)]) (N := ["_law_feed_here", "_law_many", "_law_step", "_law_first", "_law_k", "_law_left"]) (sc := defScope s__law_numbers) (by decide +kernel)) (fun _ _ _ _ _ => (gn nd 4)) (fun _ _ _ _ _ => pts_nil) (fun _ _ _ _ _ => (pe_op op_mod (pe_op op_add (pv 3) (pe_op op_mul (pv 2) (pv 4))) pe_int))))))) pss_nil) (pss_cons (ps_asg (pb_lr T.b (pa_cons (pb_rg T.b (pa_cons (pvA okv__law_numbers 1 0) pa_nil)) pa_nil)) (gn nd 5)) (pss_one (ps_ret (pe_lc (own := [("_law_k", 4)]) rfl nd (pi_range1 (glA okg__law_numbers 1) T.b.range (pa_cons (pvA okv__law_numbers 1 0) pa_nil)) (blkOk_by (own := [("_law_k", 4)]) (N := ["_law_feed_here", "_law_many", "_law_step", "_law_first", "_law_k", "_law_left"]) (sc := defScope s__law_numbers) (by decide +kernel)) (fun _ _ _ _ _ => (gn nd 4)) (fun _ _ _ _ _ => pts_nil) (fun _ _ _ _ _ => (pbm (K := K) PySem.F.plainAttrs_list PySem.F.slot_list_pop PySem.F.type_list_pop mt_popAt (pv 5) (pa_cons (pe_fn g__law_draw hr (by decide) (pa_cons (pv 0) (pa_cons (kb_len K T.b (pa_cons (pv 5) pa_nil)) pa_nil))) pa_nil)))))))), ?_⟩
    rintro ds Ω Ψ ⟨F, n, es, rfl, rfl, m, rfl, ⟨hm, hn⟩, q⟩
    refine sw_seq (sw_ifW (ts_TW (ev_eqIW (ev_draw rfl ev_int ⟨by decide, by decide, by omega⟩ fun r0 hr00 hr01 => ⟨r0, rfl, EvD.toW ev_int ⟨0, rfl, _, rfl, ?_⟩⟩))))
    split
    · refine sw_seq (sw_setW (ev_ixLW (ds := steps4.map PyData.int) (ev_lst (ar_cons ev_int (ar_cons ev_int (ar_cons ev_int (ar_cons ev_int ar_nil))))) (ev_draw rfl ev_int ⟨by decide, by decide, by omega⟩ fun r1 h1 h2 => ⟨r1, .int (steps4.getD r1.toNat 0), rfl, atI_map (k := r1.toNat) (by omega) (by show r1.toNat < 4; omega), ?_⟩)))
      have hst : steps4.getD r1.toNat 0 ∈ steps4 := by
        have h : r1.toNat < steps4.length := by show r1.toNat < 4; omega
        rw [List.getD, List.getElem?_eq_getElem h]
        exact List.getElem_mem h
      have hb : CMul (steps4.getD r1.toNat 0) 0 ∧ ∀ k, CMul (steps4.getD r1.toNat 0) k := by
        have : -(2 ^ 64) < steps4.getD r1.toNat 0 ∧ steps4.getD r1.toNat 0 < 2 ^ 64 := by
          have hx := hst
          simp only [steps4, List.mem_cons, List.not_mem_nil, or_false] at hx
          rcases hx with e | e | e | e <;> (unfold steps4; rw [e]; decide)
        exact ⟨.inl this, fun k => .inl this⟩
      refine sw_seq (sw_setW (ev_draw rfl ev_int ⟨by decide, by decide, by omega⟩ fun r2 h3 h4 => ?_))
      try simp only [startD, List.map_cons, List.map_nil, List.cons_append, List.nil_append, List.set_cons_zero, List.set_cons_succ, List.length_cons, List.length_nil, List.replicate_succ, List.replicate_zero, Nat.reduceSub, Nat.reduceAdd]
      refine sw_ret (ev_lcR (α := Nat) m (fun _ => true) (fun k => .int ((r2 + steps4.getD r1.toNat 0 * (k : Int)) % 1000)) (ar_cons (ev_var rfl) ar_nil) (to_name) (by omega) fun k hk => tg_name ⟨rfl, ts_yes, fun _ => (ev_iC (ev_i0 (ev_var rfl) (ev_iC (ev_var rfl) (ev_var rfl) (hb.2 _))) ev_int (by decide))⟩) ?_
      rw [fil_true]
      have := q ((List.range m).map fun k : Nat => (r2 + steps4.getD r1.toNat 0 * (k : Int)) % 1000) (n + 1 + 1 + 1) (by omega) (by simp) (step_nodup hst hm)
      rw [List.map_map] at this
      exact this
    · refine sw_next ?_
      refine sw_seq (sw_setW (ev_lr (n := m) (ev_var rfl) (by omega) fun p => ?_))
      try simp only [startD, List.map_cons, List.map_nil, List.cons_append, List.nil_append, List.set_cons_zero, List.set_cons_succ, List.length_cons, List.length_nil, List.replicate_succ, List.replicate_zero, Nat.reduceSub, Nat.reduceAdd]
      refine sw_retW (ev_dropE (ev_frzL (ev_lcRW m (fun i acc Ω => ∃ (n' : Nat) (ms l : List Int), Ω = [(F, .feed n'), (p, .lst (l.map fun x => I x))] ∧ acc = (ms.map PyData.int).map D.py ∧ n' ≤ n + 1 + i ∧ ms.length = i ∧ l.length + i = m ∧ (ms ++ l).Nodup) (ar_cons (ev_var rfl) ar_nil) (to_name) (by omega) ⟨n + 1, [], (List.range m).map fun k : Nat => (k : Int), ?_, rfl, Nat.le_refl _, rfl, by simp, ?_⟩ (fun i acc Ω' hi j => ?_) fun l acc Ω' j => ?_)))
      · rw [List.map_map]; rfl
      · rw [List.nil_append]
        exact nodup_map_on List.nodup_range fun a _ b _ e => by omega
      · obtain ⟨n', ms, l, rfl, rfl, hn', h1, h2, h3⟩ := j
        refine ⟨by rw [List.length_map, List.length_map]; omega, tg_name ((ts_yes).toW ?_)⟩
        rw [if_pos rfl]
        refine ev_popW (p := p) (fun _ => ev_var rfl) (j0 := 1) rfl (ev_draw rfl (ev_lenO (ev_var rfl) (j := 1) rfl) ⟨by rw [List.length_map]; omega, by rw [List.length_map]; omega, by omega⟩ fun r hr0 hr1 => ?_)
        rw [List.length_map] at hr1
        have hr2 : r.toNat < l.length := by omega
        refine ⟨1, l.map fun x => I x, r.toNat, I l[r.toNat], by rw [Int.toNat_of_nonneg hr0], rfl, by rw [List.getElem?_map, List.getElem?_eq_getElem hr2]; rfl, by rw [List.length_map]; omega, n' + 1, ms ++ [l[r.toNat]], l.eraseIdx r.toNat, ?_, ?_, by omega, by simp [h1], by rw [List.length_eraseIdx_of_lt hr2]; omega, ?_⟩
        · rw [eraseIdx_map]; rfl
        · rw [List.map_append, List.map_append]; rfl
        · refine (List.Perm.nodup_iff ?_).mp h3
          rw [List.append_assoc]
          exact ((erase_perm hr2).symm).append_left ms
      · obtain ⟨n', ms, l2, rfl, rfl, hn', h1, h2, h3⟩ := j
        refine ⟨l, ms.map PyData.int, _, rfl, rfl, 1, p, _, rfl, ?_⟩
        exact q ms n' (by omega) h1 (List.nodup_append.mp h3).1
end
end My
end

section
set_option Elab.async false
set_option linter.all false
set_option maxRecDepth 100000
set_option maxHeartbeats 4000000
namespace My
open PySem L2 G
open PySem.W (alike)
open PyProof.Rows (envOfC)
section
variable {P : Program} {w : World} {K : PySem.W.Frag} {mg : Str → Option Value} {base : Heap} {C CP CN : Addr}
def names1 : List Str := ["a", "b", "zz", "table", "aa", "z", "abcdefgh", "abcdefgi", "door", "x", "wall", "ab", "ba", "hold", "end"]
def names2 : List Str := ["q", "left", "m", "is", "go", "one", "xy", "window", "thing", "n", "east", "ax", "bx", "cx", "dx"]
def names3 : List Str := ["ey", "fy", "gy", "hy", "iy", "jy", "ky", "ly", "my", "ny", "oy"]
def names : List Str := names1 ++ names2 ++ names3
theorem names_len : names.length = 41 := rfl
theorem names_new : ∀ x ∈ names, x ≠ ("newthing" : Str) := by decide +kernel
def steps6 : List Int := [1, 3, 7, 11, 13, 40]
theorem atI_str {l : List Str} {i : Int} {k : Nat} (hi : i = (k : Int)) (hk : k < l.length) : atI (l.map PyData.str) i = some (.str (l.getD k "")) := by
  subst hi
  exact atI_mapD hk
theorem getD_mem {α : Type} {l : List α} {k : Nat} {a : α} (h : k < l.length) : l.getD k a ∈ l := by
  rw [List.getD, List.getElem?_eq_getElem h]
  exact List.getElem_mem h
def c__law_names : Cf := fun n ds Ψ => ∃ m : Nat, ds = [I (m : Int)] ∧ (m ≤ 41 ∧ n ≤ 900000) ∧ ∀ (ns : List Str), ns.length = m → (∀ x ∈ ns, x ∈ names) → Ψ (.py (.list (ns.map PyData.str))) (n + 2)
theorem sc__law_names : FnScope ["_law_feed_here", "_law_many", "_law_some", "_law_first", "_law_step", "_law_k"] ["_law_feed_here", "_law_many"] (defScope s__law_names) := ⟨rfl, rfl, rfl, by decide +kernel, rfl, by decide +kernel, by decide +kernel⟩
theorem okv__law_names : okL ["_law_feed_here", "_law_many"] (defScope s__law_names) = true := by decide +kernel
theorem okg__law_names : okG ["_law_draw", "range"] (defScope s__law_names) = true := by decide +kernel
theorem ok__law_names (T : Tx K mg C) (F : Df K mg "_law_names" s__law_names ["_law_feed_here", "_law_many"]) (g__law_draw : Fn P w K mg base CX0 "_law_draw" 1 ["_law_feed_here", "_law_many"] (spF c__law_draw)) : Fn P w K mg base CX0 "_law_names" 2 ["_law_feed_here", "_law_many"] (spF c__law_names) :=
  have nd := sc__law_names.nd
  fn_mk F sc__law_names (by first | (rintro ds Ω Ψ ⟨_, _, _, rfl, _, rfl, _⟩; rfl) | (rintro ds Ω Ψ ⟨_, _, _, rfl, _, _, rfl, _⟩; rfl) | (rintro ds Ω Ψ ⟨_, _, _, rfl, _, _, _, rfl, _⟩; rfl) | (rintro ds Ω Ψ ⟨_, _, _, rfl, _, _, _, _, rfl, _⟩; rfl)) fun f cdv A outer s H E hr => by
    refine ⟨_, (pss_cons (ps_asg (pe_lst (pa_cons pe_str (pa_cons pe_str (pa_cons pe_str (pa_cons pe_str (pa_cons pe_str (pa_cons pe_str (pa_cons pe_str (pa_cons pe_str (pa_cons pe_str (pa_cons pe_str (pa_cons pe_str (pa_cons pe_str (pa_cons pe_str (pa_cons pe_str (pa_cons pe_str pa_nil)))))))))))))))) (gn nd 2)) (pss_cons (ps_asg (pe_op op_cat (pv 2) (pe_lst (pa_cons pe_str (pa_cons pe_str (pa_cons pe_str (pa_cons pe_str (pa_cons pe_str (pa_cons pe_str (pa_cons pe_str (pa_cons pe_str (pa_cons pe_str (pa_cons pe_str (pa_cons pe_str (pa_cons pe_str (pa_cons pe_str (pa_cons pe_str (pa_cons pe_str pa_nil))))))))))))))))) (gn nd 2)) (pss_cons (ps_asg (pe_op op_cat (pv 2) (pe_lst (pa_cons pe_str (pa_cons pe_str (pa_cons pe_str (pa_cons pe_str (pa_cons pe_str (pa_cons pe_str (pa_cons pe_str (pa_cons pe_str (pa_cons pe_str (pa_cons pe_str (pa_cons pe_str pa_nil))))))))))))) (gn nd 2)) (pss_cons (ps_asg (pe_fn g__law_draw hr (by decide) (pa_cons (pvA okv__law_names 0 0) (pa_cons pe_int pa_nil)) (hg := glA okg__law_names 0)) (gn nd 3)) (pss_cons (ps_asg (pe_ix (ixl K) (pe_lst (pa_cons pe_int (pa_cons pe_int (pa_cons pe_int (pa_cons pe_int (pa_cons pe_int (pa_cons pe_int pa_nil))))))) (pe_fn g__law_draw hr (by decide) (pa_cons (pvA okv__law_names 0 0) (pa_cons pe_int pa_nil)) (hg := glA okg__law_names 0)) (fun _ _ => rfl)) (gn nd 4)) (pss_one (ps_ret (pe_lc (own := [("_law_k", 5)]) rfl nd (pi_range1 (glA okg__law_names 1) T.b.range (pa_cons (pvA okv__law_names 1 1) pa_nil)) (blkOk_by (own := [("_law_k", 5)]) (N := ["_law_feed_here", "_law_many", "_law_some", "_law_first", "_law_step", "_law_k"]) (sc := defScope s__law_names) (by decide +kernel)) (fun _ _ _ _ _ => (gn nd 5)) (fun _ _ _ _ _ => pts_nil) (fun _ _ _ _ _ => (pe_ix (ixl K) (pv 2) (pe_op op_mod (pe_op op_add (pv 3) (pe_op op_mul (pv 4) (pv 5))) pe_int) (fun _ _ => rfl))))))))))), ?_⟩
    rintro ds Ω Ψ ⟨F, n, es, rfl, rfl, m, rfl, ⟨hm, hn⟩, q⟩
    refine sw_seq (sw_set (ev_lst (ds := names1.map PyData.str) (ar_cons ev_str (ar_cons ev_str (ar_cons ev_str (ar_cons ev_str (ar_cons ev_str (ar_cons ev_str (ar_cons ev_str (ar_cons ev_str (ar_cons ev_str (ar_cons ev_str (ar_cons ev_str (ar_cons ev_str (ar_cons ev_str (ar_cons ev_str (ar_cons ev_str ar_nil)))))))))))))))) ?_)
    try simp only [startD, List.map_cons, List.map_nil, List.cons_append, List.nil_append, List.set_cons_zero, List.set_cons_succ, List.length_cons, List.length_nil, List.replicate_succ, List.replicate_zero, Nat.reduceSub, Nat.reduceAdd]
    refine sw_seq (sw_set (ev_catL (ev_var rfl) (ev_lst (ds := names2.map PyData.str) (ar_cons ev_str (ar_cons ev_str (ar_cons ev_str (ar_cons ev_str (ar_cons ev_str (ar_cons ev_str (ar_cons ev_str (ar_cons ev_str (ar_cons ev_str (ar_cons ev_str (ar_cons ev_str (ar_cons ev_str (ar_cons ev_str (ar_cons ev_str (ar_cons ev_str ar_nil))))))))))))))))) ?_)
    try simp only [startD, List.map_cons, List.map_nil, List.cons_append, List.nil_append, List.set_cons_zero, List.set_cons_succ, List.length_cons, List.length_nil, List.replicate_succ, List.replicate_zero, Nat.reduceSub, Nat.reduceAdd]
    refine sw_seq (sw_set ((ev_catL (ev_var rfl) (ev_lst (ds := names3.map PyData.str) (ar_cons ev_str (ar_cons ev_str (ar_cons ev_str (ar_cons ev_str (ar_cons ev_str (ar_cons ev_str (ar_cons ev_str (ar_cons ev_str (ar_cons ev_str (ar_cons ev_str (ar_cons ev_str ar_nil))))))))))))).is (e := .py (.list (names.map PyData.str))) rfl) ?_)
    try simp only [startD, List.map_cons, List.map_nil, List.cons_append, List.nil_append, List.set_cons_zero, List.set_cons_succ, List.length_cons, List.length_nil, List.replicate_succ, List.replicate_zero, Nat.reduceSub, Nat.reduceAdd]
    refine sw_seq (sw_setW (ev_draw rfl ev_int ⟨by decide, by decide, by omega⟩ fun r0 h1 h2 => ?_))
    try simp only [startD, List.map_cons, List.map_nil, List.cons_append, List.nil_append, List.set_cons_zero, List.set_cons_succ, List.length_cons, List.length_nil, List.replicate_succ, List.replicate_zero, Nat.reduceSub, Nat.reduceAdd]
    refine sw_seq (sw_setW (ev_ixLW (ds := steps6.map PyData.int) (ev_lst (ar_cons ev_int (ar_cons ev_int (ar_cons ev_int (ar_cons ev_int (ar_cons ev_int (ar_cons ev_int ar_nil))))))) (ev_draw rfl ev_int ⟨by decide, by decide, by omega⟩ fun r1 h3 h4 => ⟨r1, .int (steps6.getD r1.toNat 0), rfl, atI_map (k := r1.toNat) (by omega) (by show r1.toNat < 6; omega), ?_⟩)))
    try simp only [startD, List.map_cons, List.map_nil, List.cons_append, List.nil_append, List.set_cons_zero, List.set_cons_succ, List.length_cons, List.length_nil, List.replicate_succ, List.replicate_zero, Nat.reduceSub, Nat.reduceAdd]
    have hst : steps6.getD r1.toNat 0 ∈ steps6 := getD_mem (by show r1.toNat < 6; omega)
    have hb : ∀ k, CMul (steps6.getD r1.toNat 0) k := fun k => .inl (by
      have hx := hst
      simp only [steps6, List.mem_cons, List.not_mem_nil, or_false] at hx
      rcases hx with e | e | e | e | e | e <;> (unfold steps6; rw [e]; decide))
    have hlt : ∀ k : Nat, ((r0 + steps6.getD r1.toNat 0 * (k : Int)) % 41).toNat < names.length := fun k => by
      have a := Int.emod_nonneg (r0 + steps6.getD r1.toNat 0 * (k : Int)) (b := 41) (by decide)
      have b := Int.emod_lt_of_pos (r0 + steps6.getD r1.toNat 0 * (k : Int)) (b := 41) (by decide)
      rw [names_len]; omega
    refine sw_ret (ev_lcR (α := Nat) m (fun _ => true) (fun k => .str (names.getD ((r0 + steps6.getD r1.toNat 0 * (k : Int)) % 41).toNat "")) (ar_cons (ev_var rfl) ar_nil) (to_name) (by omega) fun k hk => tg_name ⟨rfl, ts_yes, fun _ => (ev_ixL (ev_var rfl) (ev_iC (ev_i0 (ev_var rfl) (ev_iC (ev_var rfl) (ev_var rfl) (hb k))) ev_int (by decide)) (atI_str (by rw [Int.toNat_of_nonneg (Int.emod_nonneg _ (by decide))]) (hlt k)))⟩) ?_
    rw [fil_true]
    have := q ((List.range m).map fun k : Nat => names.getD ((r0 + steps6.getD r1.toNat 0 * (k : Int)) % 41).toNat "") (by simp) (fun x hx => by
      obtain ⟨k, _, rfl⟩ := List.mem_map.mp hx
      exact getD_mem (hlt k))
    rw [List.map_map] at this
    exact this
def c__law_spots_of : Cp := fun ds Ψ => ∃ n : Net, ds = [.py (dNet n)] ∧ NetR n ∧ Ψ (.ab (spotsM n))
theorem sc__law_spots_of : FnScope ["_law_net_here", "_law_found", "_law_c", "_law_x", "_law_y"] ["_law_net_here"] (defScope s__law_spots_of) := ⟨rfl, rfl, rfl, by decide +kernel, rfl, by decide +kernel, by decide +kernel⟩
theorem okv__law_spots_of : okL ["_law_found", "_law_net_here", "_law_y", "_law_x", "_law_c"] (defScope s__law_spots_of) = true := by decide +kernel
theorem ok__law_spots_of (T : Tx K mg C) (F : Df K mg "_law_spots_of" s__law_spots_of ["_law_net_here"])  : Fn P w K mg base CX0 "_law_spots_of" 1 ["_law_net_here"] (spP c__law_spots_of) :=
  have nd := sc__law_spots_of.nd
  fn_mk F sc__law_spots_of (by first | (rintro ds Ω Ψ ⟨_, _, rfl, _⟩; rfl) | (rintro ds Ω Ψ ⟨_, _, _, rfl, _⟩; rfl) | (rintro ds Ω Ψ ⟨_, _, _, _, rfl, _⟩; rfl) | (rintro ds Ω Ψ ⟨_, _, _, _, _, rfl, _⟩; rfl) | (rintro ds Ω Ψ ⟨_, _, _, _, _, _, rfl, _⟩; rfl)) fun f cdv A outer s H E hr => by
    refine ⟨_, (pss_cons (ps_asg pe_dnewK (gnA okv__law_spots_of nd 1 0)) (pss_cons (ps_for PassesOwn.never rfl (pi_tup (pe_ix (ixt K) (pvA okv__law_spots_of 0 1) pe_int (fun _ _ => rfl))) (pgt K (n := 3) rfl (pgs_cons (gnA okv__law_spots_of nd 2 4) (pgs_cons (gnA okv__law_spots_of nd 3 3) (pgs_cons (gnA okv__law_spots_of nd 4 2) pgs_nil)))) (pss_one (ps_dput (hu_of hr) (pvA okv__law_spots_of 1 0) (pvA okv__law_spots_of 2 4) (pe_tup (pa_cons (pvA okv__law_spots_of 3 3) (pa_cons (pvA okv__law_spots_of 4 2) pa_nil))) rfl))) (pss_one (ps_ret (pvA okv__law_spots_of 1 0))))), ?_⟩
    rintro ds Ω Ψ ⟨rfl, n, rfl, hn, q⟩
    refine sw_seq (sw_setW (ev_ownK fun p => ?_))
    refine sw_seq (sw_forT (ev_ixT (ev_var rfl) ev_int rfl) (fun k Γ Ω => ∃ a b c, Γ = [some (.py (dNet n)), some (.loc p), a, b, c] ∧ Ω = [(p, .dk ((n.1.take k).map fun c => (.inl c.1, .py (dPt c.2))))]) ⟨_, _, _, rfl, rfl⟩ (fun k d Γ' Ω' hd j => ?_) fun Γ' Ω' j => ?_)
    · obtain ⟨a, b, c, rfl, rfl⟩ := j
      rw [List.getElem?_map] at hd
      cases e : n.1[k]? with
      | none => rw [e] at hd; cases hd
      | some c0 =>
        rw [e] at hd
        cases hd
        refine tg_tup rfl (tgs_cons (tg_name (tgs_cons (tg_name (tgs_cons (tg_name (tgs_nil ?_)))))))
        refine sw_dputK (ev_tup (ar_cons (ev_var rfl) (ar_cons (ev_var rfl) ar_nil)) (ds := [_, _])) (ev_var rfl) (ev_var rfl) (j := 0) rfl (fun hm => ?_) ?_ ?_
        · have hnd := hn.nd
          obtain ⟨x, hx, ex⟩ := List.mem_map.mp hm
          obtain ⟨y, hy, rfl⟩ := List.mem_map.mp hx
          obtain ⟨i, hi⟩ := List.getElem?_of_mem hy
          have hik : i < k := by
            have := (List.getElem?_eq_some_iff.mp hi).1
            rw [List.length_take] at this; omega
          rw [List.getElem?_take_of_lt hik] at hi
          have e1 : (keys n)[i]? = some y.1 := by unfold keys; rw [List.getElem?_map, hi]; rfl
          have e2 : (keys n)[k]? = some c0.1 := by unfold keys; rw [List.getElem?_map, e]; rfl
          have e3 : y.1 = c0.1 := Sum.inl.inj ex
          rw [e3] at e1
          exact absurd (L2.nd_ix hnd e1 e2) (by omega)
        · rw [List.length_map, List.length_take]
          have := hn.few; omega
        · refine ⟨_, _, _, rfl, ?_⟩
          rw [take_next e, List.map_append]; rfl
    · obtain ⟨a, b, c, rfl, rfl⟩ := j
      rw [List.length_map, List.take_length]
      refine sw_frzK (i := 1) (j := 0) (kvs := n.1.map fun c => (c.1, .py (dPt c.2))) rfl (by rw [List.map_map]; rfl) ?_
      exact sw_ret (ev_var rfl) q
def c__law_length : Cp := fun ds Ψ => ∃ (n : Net) (wl : Wall), ds = [.py (dNet n), .py (dW wl)] ∧ (NetR n ∧ wl.1 ∈ keys n ∧ wl.2 ∈ keys n) ∧ Ψ (I (lengthF (endsF n wl)))
theorem sc__law_length : FnScope ["_law_net_here", "_law_shut", "_law_spots_here", "_law_x", "_law_y", "_law_u", "_law_v"] ["_law_net_here", "_law_shut"] (defScope s__law_length) := ⟨rfl, rfl, rfl, by decide +kernel, rfl, by decide +kernel, by decide +kernel⟩
theorem okv__law_length : okL ["_law_net_here", "_law_spots_here", "_law_shut", "_law_y", "_law_x", "_law_v", "_law_u"] (defScope s__law_length) = true := by decide +kernel
theorem okg__law_length : okG ["_law_spots_of"] (defScope s__law_length) = true := by decide +kernel
theorem ok__law_length (T : Tx K mg C) (F : Df K mg "_law_length" s__law_length ["_law_net_here", "_law_shut"]) (g__law_spots_of : Fn P w K mg base CX0 "_law_spots_of" 1 ["_law_net_here"] (spP c__law_spots_of)) : Fn P w K mg base CX0 "_law_length" 2 ["_law_net_here", "_law_shut"] (spP c__law_length) :=
  have nd := sc__law_length.nd
  fn_mk F sc__law_length (by first | (rintro ds Ω Ψ ⟨_, _, rfl, _⟩; rfl) | (rintro ds Ω Ψ ⟨_, _, _, rfl, _⟩; rfl) | (rintro ds Ω Ψ ⟨_, _, _, _, rfl, _⟩; rfl) | (rintro ds Ω Ψ ⟨_, _, _, _, _, rfl, _⟩; rfl) | (rintro ds Ω Ψ ⟨_, _, _, _, _, _, rfl, _⟩; rfl)) fun f cdv A outer s H E hr => by
    refine ⟨_, (pss_cons (ps_asg (pe_fn g__law_spots_of hr (by decide) (pa_cons (pvA okv__law_length 0 0) pa_nil) (hg := glA okg__law_length 0)) (gnA okv__law_length nd 2 1)) (pss_cons (ps_asg (pe_dget (hu_of hr) (pvA okv__law_length 2 1) (pe_ix (ixt K) (pvA okv__law_length 1 2) pe_int (fun _ _ => rfl)) (fun _ _ => rfl)) (pgt K (n := 2) rfl (pgs_cons (gnA okv__law_length nd 3 4) (pgs_cons (gnA okv__law_length nd 4 3) pgs_nil)))) (pss_cons (ps_asg (pe_dget (hu_of hr) (pvA okv__law_length 2 1) (pe_ix (ixt K) (pvA okv__law_length 1 2) pe_int (fun _ _ => rfl)) (fun _ _ => rfl)) (pgt K (n := 2) rfl (pgs_cons (gnA okv__law_length nd 5 6) (pgs_cons (gnA okv__law_length nd 6 5) pgs_nil)))) (pss_one (ps_ret (pe_op op_sub (pe_op op_add (pe_op op_sub (pvA okv__law_length 5 6) (pvA okv__law_length 3 4)) (pvA okv__law_length 6 5)) (pvA okv__law_length 4 3))))))), ?_⟩
    rintro ds Ω Ψ ⟨rfl, n, wl, rfl, ⟨hn, h1, h2⟩, q⟩
    refine sw_seq (sw_set (ev_fn (ar_cons (ev_var rfl) ar_nil) fun Ψ q => ⟨n, rfl, hn, q⟩) ?_)
    try simp only [startD, List.map_cons, List.map_nil, List.cons_append, List.nil_append, List.set_cons_zero, List.set_cons_succ, List.length_cons, List.length_nil, List.replicate_succ, List.replicate_zero, Nat.reduceSub, Nat.reduceAdd]
    refine sw_seq (sw_asgW (EvD.toW (ev_spots (ev_var rfl) (ev_ixT (ev_var rfl) ev_int rfl) h1) (tg_tup rfl (tgs_cons (tg_name (tgs_cons (tg_name (tgs_nil ?_))))))))
    try simp only [startD, List.map_cons, List.map_nil, List.cons_append, List.nil_append, List.set_cons_zero, List.set_cons_succ, List.length_cons, List.length_nil, List.replicate_succ, List.replicate_zero, Nat.reduceSub, Nat.reduceAdd]
    refine sw_seq (sw_asgW (EvD.toW (ev_spots (ev_var rfl) (ev_ixT (ev_var rfl) ev_int rfl) h2) (tg_tup rfl (tgs_cons (tg_name (tgs_cons (tg_name (tgs_nil ?_))))))))
    try simp only [startD, List.map_cons, List.map_nil, List.cons_append, List.nil_append, List.set_cons_zero, List.set_cons_succ, List.length_cons, List.length_nil, List.replicate_succ, List.replicate_zero, Nat.reduceSub, Nat.reduceAdd]
    exact sw_ret (ev_i0 (ev_i0 (ev_i0 (ev_var rfl) (ev_var rfl)) (ev_var rfl)) (ev_var rfl)) q
def oblAt (n : Net) (o : Opening) : Int := if o.2.2.2.1 = o.2.2.1.2 then lengthF (endsF n o.2.2.1) - o.2.2.2.2.1 - o.2.2.2.2.2 else o.2.2.2.2.1
def oblF (n : Net) (o : Opening) : Obl := if (spot n o.2.2.1.2).1 = (spot n o.2.2.1.1).1 then
    (max 0 ((spot n o.2.2.1.1).1 - o.2.2.2.2.2), (spot n o.2.2.1.1).2 + oblAt n o, (spot n o.2.2.1.1).1 + o.2.2.2.2.2 - max 0 ((spot n o.2.2.1.1).1 - o.2.2.2.2.2), o.2.2.2.2.2)
  else ((spot n o.2.2.1.1).1 + oblAt n o, max 0 ((spot n o.2.2.1.1).2 - o.2.2.2.2.2), o.2.2.2.2.2, (spot n o.2.2.1.1).2 + o.2.2.2.2.2 - max 0 ((spot n o.2.2.1.1).2 - o.2.2.2.2.2))
def c__law_oblong : Cp := fun ds Ψ => ∃ (n : Net) (o : Opening), ds = [.py (dNet n), .py (dO o)] ∧ OpR n o ∧ Ψ (.py (dOb (oblF n o)))
theorem sc__law_oblong : FnScope ["_law_net_here", "_law_opening", "_law_name", "_law_kind", "_law_shut", "_law_end", "_law_at", "_law_width", "_law_spots_here", "_law_x", "_law_y", "_law_low"] ["_law_net_here", "_law_opening"] (defScope s__law_oblong) := ⟨rfl, rfl, rfl, by decide +kernel, rfl, by decide +kernel, by decide +kernel⟩
theorem okv__law_oblong : okL ["_law_opening", "_law_width", "_law_at", "_law_end", "_law_shut", "_law_kind", "_law_name", "_law_net_here", "_law_spots_here", "_law_y", "_law_x", "_law_low"] (defScope s__law_oblong) = true := by decide +kernel
theorem okg__law_oblong : okG ["_law_spots_of", "_law_length", "max"] (defScope s__law_oblong) = true := by decide +kernel
theorem ok__law_oblong (T : Tx K mg C) (F : Df K mg "_law_oblong" s__law_oblong ["_law_net_here", "_law_opening"]) (g__law_length : Fn P w K mg base CX0 "_law_length" 2 ["_law_net_here", "_law_shut"] (spP c__law_length)) (g__law_spots_of : Fn P w K mg base CX0 "_law_spots_of" 1 ["_law_net_here"] (spP c__law_spots_of)) : Fn P w K mg base CX0 "_law_oblong" 3 ["_law_net_here", "_law_opening"] (spP c__law_oblong) :=
  have nd := sc__law_oblong.nd
  fn_mk F sc__law_oblong (by first | (rintro ds Ω Ψ ⟨_, _, rfl, _⟩; rfl) | (rintro ds Ω Ψ ⟨_, _, _, rfl, _⟩; rfl) | (rintro ds Ω Ψ ⟨_, _, _, _, rfl, _⟩; rfl) | (rintro ds Ω Ψ ⟨_, _, _, _, _, rfl, _⟩; rfl) | (rintro ds Ω Ψ ⟨_, _, _, _, _, _, rfl, _⟩; rfl)) fun f cdv A outer s H E hr => by
    refine ⟨_, (pss_cons (ps_asg (pvA okv__law_oblong 1 0) (pgt K (n := 6) rfl (pgs_cons (gnA okv__law_oblong nd 2 6) (pgs_cons (gnA okv__law_oblong nd 3 5) (pgs_cons (gnA okv__law_oblong nd 4 4) (pgs_cons (gnA okv__law_oblong nd 5 3) (pgs_cons (gnA okv__law_oblong nd 6 2) (pgs_cons (gnA okv__law_oblong nd 7 1) pgs_nil)))))))) (pss_cons (ps_asg (pe_fn g__law_spots_of hr (by decide) (pa_cons (pvA okv__law_oblong 0 7) pa_nil) (hg := glA okg__law_oblong 0)) (gnA okv__law_oblong nd 8 8)) (pss_cons (ps_asg (pe_dget (hu_of hr) (pvA okv__law_oblong 8 8) (pe_ix (ixt K) (pvA okv__law_oblong 4 4) pe_int (fun _ _ => rfl)) (fun _ _ => rfl)) (pgt K (n := 2) rfl (pgs_cons (gnA okv__law_oblong nd 9 10) (pgs_cons (gnA okv__law_oblong nd 10 9) pgs_nil)))) (pss_cons (ps_if (pt_cmpR op_eq (pvA okv__law_oblong 5 3) (pe_ix (ixt K) (pvA okv__law_oblong 4 4) pe_int (fun _ _ => rfl)) (nomark _)) (pss_one (ps_asg (pe_op op_sub (pe_op op_sub (pe_fn g__law_length hr (by decide) (pa_cons (pvA okv__law_oblong 0 7) (pa_cons (pvA okv__law_oblong 4 4) pa_nil)) (hg := glA okg__law_oblong 1)) (pvA okv__law_oblong 6 2)) (pvA okv__law_oblong 7 1)) (gnA okv__law_oblong nd 6 2))) pss_nil) (pss_cons (ps_if (pt_cmpR op_eq (pe_ix (ixt K) (pe_dget (hu_of hr) (pvA okv__law_oblong 8 8) (pe_ix (ixt K) (pvA okv__law_oblong 4 4) pe_int (fun _ _ => rfl)) (fun _ _ => rfl)) pe_int (fun _ _ => rfl)) (pvA okv__law_oblong 9 10) (nomark _)) (pss_cons (ps_asg (pb_max2 T.b (pa_cons pe_int (pa_cons (pe_op op_sub (pvA okv__law_oblong 9 10) (pvA okv__law_oblong 7 1)) pa_nil)) (hg := glA okg__law_oblong 2)) (gnA okv__law_oblong nd 11 11)) (pss_one (ps_ret (pe_tup (pa_cons (pvA okv__law_oblong 11 11) (pa_cons (pe_op op_add (pvA okv__law_oblong 10 9) (pvA okv__law_oblong 6 2)) (pa_cons (pe_op op_sub (pe_op op_add (pvA okv__law_oblong 9 10) (pvA okv__law_oblong 7 1)) (pvA okv__law_oblong 11 11)) (pa_cons (pvA okv__law_oblong 7 1) pa_nil)))))))) pss_nil) (pss_cons (ps_asg (pb_max2 T.b (pa_cons pe_int (pa_cons (pe_op op_sub (pvA okv__law_oblong 10 9) (pvA okv__law_oblong 7 1)) pa_nil)) (hg := glA okg__law_oblong 2)) (gnA okv__law_oblong nd 11 11)) (pss_one (ps_ret (pe_tup (pa_cons (pe_op op_add (pvA okv__law_oblong 9 10) (pvA okv__law_oblong 6 2)) (pa_cons (pvA okv__law_oblong 11 11) (pa_cons (pvA okv__law_oblong 7 1) (pa_cons (pe_op op_sub (pe_op op_add (pvA okv__law_oblong 10 9) (pvA okv__law_oblong 7 1)) (pvA okv__law_oblong 11 11)) pa_nil))))))))))))), ?_⟩
    rintro ds Ω Ψ ⟨rfl, n, o, rfl, ⟨hn, h1, h2⟩, q⟩
    refine sw_seq (sw_asgW (EvD.toW (ev_var rfl) (tg_tup rfl (tgs_cons (tg_name (tgs_cons (tg_name (tgs_cons (tg_name (tgs_cons (tg_name (tgs_cons (tg_name (tgs_cons (tg_name (tgs_nil ?_))))))))))))))))
    try simp only [startD, List.map_cons, List.map_nil, List.cons_append, List.nil_append, List.set_cons_zero, List.set_cons_succ, List.length_cons, List.length_nil, List.replicate_succ, List.replicate_zero, Nat.reduceSub, Nat.reduceAdd]
    refine sw_seq (sw_set (ev_fn (ar_cons (ev_var rfl) ar_nil) fun Ψ q => ⟨n, rfl, hn, q⟩) ?_)
    try simp only [startD, List.map_cons, List.map_nil, List.cons_append, List.nil_append, List.set_cons_zero, List.set_cons_succ, List.length_cons, List.length_nil, List.replicate_succ, List.replicate_zero, Nat.reduceSub, Nat.reduceAdd]
    refine sw_seq (sw_asgW (EvD.toW (ev_spots (ev_var rfl) (ev_ixT (ev_var rfl) ev_int rfl) h1) (tg_tup rfl (tgs_cons (tg_name (tgs_cons (tg_name (tgs_nil ?_))))))))
    try simp only [startD, List.map_cons, List.map_nil, List.cons_append, List.nil_append, List.set_cons_zero, List.set_cons_succ, List.length_cons, List.length_nil, List.replicate_succ, List.replicate_zero, Nat.reduceSub, Nat.reduceAdd]
    refine sw_seqE (α := { x : Int // x = oblAt n o }) (fun a => [some (.py (dNet n)), some (.py (dO o)), some (S o.1), some (S o.2.1), some (.py (dW o.2.2.1)), some (I o.2.2.2.1), some (I a.1), some (I o.2.2.2.2.2), some (.ab (spotsM n)), some (I (spot n o.2.2.1.1).1), some (I (spot n o.2.2.1.1).2), none]) (fun _ => []) (sw_if (ts_T (ev_eqI (ev_var rfl) (ev_ixT (ev_var rfl) ev_int rfl))) (fun hb => ?_) fun hb => sw_next ?_) fun ⟨at_, ha⟩ => ?_
    · exact sw_set (ev_i0 (ev_i0 (ev_fn (ar_cons (ev_var rfl) (ar_cons (ev_var rfl) ar_nil)) fun Ψ q => ⟨n, o.2.2.1, rfl, ⟨hn, h1, h2⟩, q⟩) (ev_var rfl)) (ev_var rfl)) ⟨⟨_, by unfold oblAt; rw [if_pos (of_decide_eq_true hb)]⟩, rfl, rfl⟩
    · exact ⟨⟨_, by unfold oblAt; rw [if_neg (of_decide_eq_false hb)]⟩, rfl, rfl⟩
    · unfold oblF at q
      rw [← ha] at q
      refine sw_seq (sw_if (ts_T (ev_eqI (ev_ixT (ev_spots (ev_var rfl) (ev_ixT (ev_var rfl) ev_int rfl) h2) ev_int rfl) (ev_var rfl))) (fun hb => ?_) fun hb => sw_next ?_)
      · rw [if_pos (of_decide_eq_true hb)] at q
        refine sw_seq (sw_set (ev_max2 ev_int (ev_i0 (ev_var rfl) (ev_var rfl))) ?_)
        try simp only [startD, List.map_cons, List.map_nil, List.cons_append, List.nil_append, List.set_cons_zero, List.set_cons_succ, List.length_cons, List.length_nil, List.replicate_succ, List.replicate_zero, Nat.reduceSub, Nat.reduceAdd]
        exact sw_ret (ev_tup (ds := [_, _, _, _]) (ar_cons (ev_var rfl) (ar_cons (ev_i0 (ev_var rfl) (ev_var rfl)) (ar_cons (ev_i0 (ev_i0 (ev_var rfl) (ev_var rfl)) (ev_var rfl)) (ar_cons (ev_var rfl) ar_nil))))) q
      · rw [if_neg (of_decide_eq_false hb)] at q
        refine sw_seq (sw_set (ev_max2 ev_int (ev_i0 (ev_var rfl) (ev_var rfl))) ?_)
        try simp only [startD, List.map_cons, List.map_nil, List.cons_append, List.nil_append, List.set_cons_zero, List.set_cons_succ, List.length_cons, List.length_nil, List.replicate_succ, List.replicate_zero, Nat.reduceSub, Nat.reduceAdd]
        exact sw_ret (ev_tup (ds := [_, _, _, _]) (ar_cons (ev_i0 (ev_var rfl) (ev_var rfl)) (ar_cons (ev_var rfl) (ar_cons (ev_var rfl) (ar_cons (ev_i0 (ev_i0 (ev_var rfl) (ev_var rfl)) (ev_var rfl)) ar_nil))))) q
def lawMeet (a b : Obl) : Bool := decide (max a.1 b.1 < min (a.1 + a.2.2.1) (b.1 + b.2.2.1)) && decide (max a.2.1 b.2.1 < min (a.2.1 + a.2.2.2) (b.2.1 + b.2.2.2))
def c__law_meet : Cp := fun ds Ψ => ∃ a b : Obl, ds = [.py (dOb a), .py (dOb b)] ∧ Ψ (B (lawMeet a b))
theorem sc__law_meet : FnScope ["_law_one", "_law_other", "_law_across"] ["_law_one", "_law_other"] (defScope s__law_meet) := ⟨rfl, rfl, rfl, by decide +kernel, rfl, by decide +kernel, by decide +kernel⟩
theorem okv__law_meet : okL ["_law_other", "_law_one", "_law_across"] (defScope s__law_meet) = true := by decide +kernel
theorem okg__law_meet : okG ["max", "min"] (defScope s__law_meet) = true := by decide +kernel
theorem ok__law_meet (T : Tx K mg C) (F : Df K mg "_law_meet" s__law_meet ["_law_one", "_law_other"])  : Fn P w K mg base CX0 "_law_meet" 1 ["_law_one", "_law_other"] (spP c__law_meet) :=
  have nd := sc__law_meet.nd
  fn_mk F sc__law_meet (by first | (rintro ds Ω Ψ ⟨_, _, rfl, _⟩; rfl) | (rintro ds Ω Ψ ⟨_, _, _, rfl, _⟩; rfl) | (rintro ds Ω Ψ ⟨_, _, _, _, rfl, _⟩; rfl) | (rintro ds Ω Ψ ⟨_, _, _, _, _, rfl, _⟩; rfl) | (rintro ds Ω Ψ ⟨_, _, _, _, _, _, rfl, _⟩; rfl)) fun f cdv A outer s H E hr => by
    refine ⟨_, (pss_cons (ps_asg (pe_cmpR op_lt (pb_max2 T.b (pa_cons (pe_ix (ixt K) (pvA okv__law_meet 0 1) pe_int (fun _ _ => rfl)) (pa_cons (pe_ix (ixt K) (pvA okv__law_meet 1 0) pe_int (fun _ _ => rfl)) pa_nil)) (hg := glA okg__law_meet 0)) (pb_min2 T.b (pa_cons (pe_op op_add (pe_ix (ixt K) (pvA okv__law_meet 0 1) pe_int (fun _ _ => rfl)) (pe_ix (ixt K) (pvA okv__law_meet 0 1) pe_int (fun _ _ => rfl))) (pa_cons (pe_op op_add (pe_ix (ixt K) (pvA okv__law_meet 1 0) pe_int (fun _ _ => rfl)) (pe_ix (ixt K) (pvA okv__law_meet 1 0) pe_int (fun _ _ => rfl))) pa_nil)) (hg := glA okg__law_meet 1)) (nomark _)) (gnA okv__law_meet nd 2 2)) (pss_one (ps_ret (pe_and (pvA okv__law_meet 2 2) (pe_one (pe_cmpR op_lt (pb_max2 T.b (pa_cons (pe_ix (ixt K) (pvA okv__law_meet 0 1) pe_int (fun _ _ => rfl)) (pa_cons (pe_ix (ixt K) (pvA okv__law_meet 1 0) pe_int (fun _ _ => rfl)) pa_nil)) (hg := glA okg__law_meet 0)) (pb_min2 T.b (pa_cons (pe_op op_add (pe_ix (ixt K) (pvA okv__law_meet 0 1) pe_int (fun _ _ => rfl)) (pe_ix (ixt K) (pvA okv__law_meet 0 1) pe_int (fun _ _ => rfl))) (pa_cons (pe_op op_add (pe_ix (ixt K) (pvA okv__law_meet 1 0) pe_int (fun _ _ => rfl)) (pe_ix (ixt K) (pvA okv__law_meet 1 0) pe_int (fun _ _ => rfl))) pa_nil)) (hg := glA okg__law_meet 1)) (nomark _))))))), ?_⟩
    rintro ds Ω Ψ ⟨rfl, a, b, rfl, q⟩
    refine sw_seq (sw_set (ev_iB (ev_max2 (ev_ixT (ev_var rfl) ev_int rfl) (ev_ixT (ev_var rfl) ev_int rfl)) (ev_min2 (ev_i0 (ev_ixT (ev_var rfl) ev_int rfl) (ev_ixT (ev_var rfl) ev_int rfl)) (ev_i0 (ev_ixT (ev_var rfl) ev_int rfl) (ev_ixT (ev_var rfl) ev_int rfl)))) ?_)
    exact sw_ret (ev_and (ev_var rfl) fun _ => (ev_iB (ev_max2 (ev_ixT (ev_var rfl) ev_int rfl) (ev_ixT (ev_var rfl) ev_int rfl)) (ev_min2 (ev_i0 (ev_ixT (ev_var rfl) ev_int rfl) (ev_ixT (ev_var rfl) ev_int rfl)) (ev_i0 (ev_ixT (ev_var rfl) ev_int rfl) (ev_ixT (ev_var rfl) ev_int rfl))))) q
theorem lawMeet_eq (a b : Obl) : lawMeet a b = true ↔ (a.1 < a.1 + a.2.2.1 ∧ b.1 < b.1 + b.2.2.1 ∧ a.2.1 < a.2.1 + a.2.2.2 ∧ b.2.1 < b.2.1 + b.2.2.2) ∧ meetF a b = true := by
  unfold lawMeet meetF
  simp only [Bool.and_eq_true, decide_eq_true_eq]
  omega
end
end My
end

section
set_option Elab.async false
set_option linter.all false
set_option maxRecDepth 100000
set_option maxHeartbeats 4000000
namespace My
open PySem L2 G
/-! the grid of knots and its links -/
abbrev dL (l : List Pt) : List D := l.map fun q => D.py (dPt q)
structure Kn (cols j i : Nat) (kn : List Pt) : Prop where
  nd : kn.Nodup
  mem : ∀ k : Pt, k ∈ kn ↔ 0 ≤ k.1 ∧ 0 ≤ k.2 ∧ (k.2 < j ∧ k.1 < cols ∨ k.2 = j ∧ k.1 < i)
  len : kn.length = j * cols + i
theorem Kn.nil {cols : Nat} : Kn cols 0 0 [] := ⟨List.nodup_nil, fun k => ⟨fun h => (by cases h), fun h => by omega⟩, by simp⟩
theorem Kn.next {cols j i : Nat} {kn : List Pt} (h : Kn cols j i kn) : Kn cols j (i + 1) (kn ++ [((i : Int), (j : Int))]) := by
  refine ⟨?_, fun k => ?_, by rw [List.length_append, h.len]; rfl⟩
  · refine List.nodup_append.mpr ⟨h.nd, by simp, fun a ha b hb e => ?_⟩
    subst e
    rw [List.mem_singleton] at hb
    have := (h.mem _).mp ha
    rw [hb] at this
    dsimp only at this
    omega
  · obtain ⟨x, y⟩ := k
    rw [List.mem_append, h.mem, List.mem_singleton, Prod.mk.injEq]
    dsimp only
    omega
theorem Kn.row {cols j : Nat} {kn : List Pt} (h : Kn cols j cols kn) : Kn cols (j + 1) 0 kn := ⟨h.nd, fun k => by rw [h.mem]; omega, by rw [h.len, Nat.add_mul, Nat.one_mul, Nat.add_zero]⟩
theorem Kn.new {cols j i : Nat} {kn : List Pt} (h : Kn cols j i kn) : ((i : Int), (j : Int)) ∉ kn := fun hm => by
  have := (h.mem _).mp hm
  dsimp only at this
  omega
def lkD (kn : List Pt) (ad : Pt → Addr) : List (List Key × D) := kn.map fun k => (pairK k, D.loc (ad k))
def lkE (kn : List Pt) (L : Pt → List Pt) : List (List Key × D) := kn.map fun k => (pairK k, D.py (.list ((L k).map dPt)))
structure LkO (Ωr : Om) (kn : List Pt) (ad : Pt → Addr) (L : Pt → List Pt) : Prop where
  ls : ∀ k ∈ kn, ∃ j : Nat, Ωr[j]? = some (ad k, .lst (dL (L k)))
  inj : (Ωr.map (·.1)).Nodup → ∀ k ∈ kn, ∀ k' ∈ kn, ad k = ad k' → k = k'
theorem pairK_inj' {k k' : Pt} (h : pairK k = pairK k') : k = k' := by
  obtain ⟨a, b⟩ := k
  obtain ⟨c, d⟩ := k'
  simp only [pairK, List.cons.injEq, Sum.inl.injEq] at h
  rw [h.1, h.2.1]
theorem putD_new {κ α : Type} [DecidableEq κ] {kvs : List (κ × α)} {k : κ} {v : α} (h : k ∉ kvs.map (·.1)) : putD kvs k v = kvs ++ [(k, v)] := by
  unfold putD
  rw [if_neg]
  intro ha
  obtain ⟨x, hx, e⟩ := List.any_eq_true.mp ha
  exact h (List.mem_map.mpr ⟨x, hx, of_decide_eq_true e⟩)
theorem atD_map {α : Type} {f : Pt → α} : ∀ {kn : List Pt} {k : Pt}, k ∈ kn → atD (kn.map fun k => (pairK k, f k)) (pairK k) = some (f k)
  | [], k, h => by cases h
  | a :: l, k, h => by
    unfold atD
    rw [List.map_cons, List.find?_cons]
    by_cases e : a = k
    · subst e; simp
    · have e2 : decide (pairK a = pairK k) = false := decide_eq_false fun h => e (pairK_inj' h)
      simp only [e2]
      exact atD_map ((List.mem_cons.mp h).resolve_left fun h => e h.symm)
theorem LkO.nil : LkO [] [] (fun _ => 0) (fun _ => []) := ⟨fun k h => (nomatch h), fun _ k h _ _ _ => (nomatch h)⟩
theorem lk_new {kn : List Pt} {ad : Pt → Addr} {k : Pt} {l : Addr} (hk : k ∉ kn) : putD (lkD kn ad) (pairK k) (.loc l) = lkD (kn ++ [k]) (fun x => if x = k then l else ad x) := by
  rw [putD_new]
  · unfold lkD
    rw [List.map_append, List.map_singleton]
    show _ = _ ++ [(pairK k, D.loc (if k = k then l else ad k))]
    rw [if_pos rfl]
    congr 1
    exact List.map_congr_left fun x hx => by show _ = (pairK x, D.loc (if x = k then l else ad x)); rw [if_neg (fun e => hk (by rw [← e]; exact hx))]
  · unfold lkD
    rw [List.map_map]
    intro hm
    obtain ⟨x, hx, e⟩ := List.mem_map.mp hm
    exact hk (by rw [← pairK_inj' e]; exact hx)
theorem LkO.new {Ωr : Om} {kn : List Pt} {ad : Pt → Addr} {k : Pt} {l : Addr} (h : LkO Ωr kn ad fun _ => []) (hk : k ∉ kn) : LkO (Ωr ++ [(l, .lst [])]) (kn ++ [k]) (fun x => if x = k then l else ad x) fun _ => [] := by
  have old : ∀ x ∈ kn, x ≠ k := fun x hx e => hk (by rw [← e]; exact hx)
  refine ⟨fun x hx => ?_, fun nd => ?_⟩
  · rcases List.mem_append.mp hx with hx | hx
    · obtain ⟨j, hj⟩ := h.ls x hx
      refine ⟨j, ?_⟩
      rw [if_neg (old x hx), List.getElem?_append_left (List.getElem?_eq_some_iff.mp hj).1, hj]
    · rw [List.mem_singleton.mp hx]
      exact ⟨Ωr.length, by simp⟩
  · rw [List.map_append] at nd
    obtain ⟨n1, _, n3⟩ := List.nodup_append.mp nd
    have away : ∀ x ∈ kn, ad x ≠ l := fun x hx e => by
      obtain ⟨j, hj⟩ := h.ls x hx
      exact n3 (ad x) (List.mem_map.mpr ⟨_, List.mem_of_getElem? hj, rfl⟩) l (by simp) e
    intro a ha b hb e
    rcases List.mem_append.mp ha with ha | ha
    · rcases List.mem_append.mp hb with hb | hb
      · rw [if_neg (old a ha), if_neg (old b hb)] at e
        exact h.inj n1 a ha b hb e
      · rw [List.mem_singleton.mp hb, if_neg (old a ha), if_pos rfl] at e
        exact absurd e (away a ha)
    · rw [List.mem_singleton.mp ha] at e ⊢
      rcases List.mem_append.mp hb with hb | hb
      · rw [if_neg (old b hb), if_pos rfl] at e
        exact absurd e.symm (away b hb)
      · exact (List.mem_singleton.mp hb).symm
def addL (L : Pt → List Pt) (k t : Pt) : Pt → List Pt := fun x => if x = k then L k ++ [t] else L x
theorem LkO.app {Ωr : Om} {kn : List Pt} {ad : Pt → Addr} {L : Pt → List Pt} {k t : Pt} (h : LkO Ωr kn ad L) (nd : (Ωr.map (·.1)).Nodup) (hk : k ∈ kn) : ∃ j : Nat, Ωr[j]? = some (ad k, .lst (dL (L k))) ∧ LkO (Ωr.set j (ad k, .lst (dL (L k) ++ [D.py (dPt t)]))) kn ad (addL L k t) ∧ ((Ωr.set j (ad k, .lst (dL (L k) ++ [D.py (dPt t)]))).map (·.1)).Nodup := by
  obtain ⟨j, hj⟩ := h.ls k hk
  have hl := (List.getElem?_eq_some_iff.mp hj).1
  have hkeys := keys_set (w' := Own.lst (dL (L k) ++ [D.py (dPt t)])) hj
  refine ⟨j, hj, ⟨fun x hx => ?_, fun _ => h.inj nd⟩, by rw [hkeys]; exact nd⟩
  by_cases e : x = k
  · subst e
    refine ⟨j, ?_⟩
    rw [List.getElem?_set_self hl]
    unfold addL
    rw [if_pos rfl]
    unfold dL
    rw [List.map_append]; rfl
  · obtain ⟨i, hi⟩ := h.ls x hx
    refine ⟨i, ?_⟩
    unfold addL
    rw [if_neg e, List.getElem?_set_ne, hi]
    intro ij
    subst ij
    rw [hi] at hj
    exact e (h.inj nd x hx k hk (Prod.mk.inj (Option.some.inj hj)).1)
theorem lk_conv {Ωr : Om} {kn : List Pt} {ad : Pt → Addr} {L : Pt → List Pt} (h : LkO Ωr kn ad L) (H0 H1 : Hp) (o : HO) (e : Same H0 H1) (ho : ∀ q ∈ Ωr, ∃ o, H1 q.1 = some o ∧ OwnOk H0 o q.2) (hw : OwnOk H0 o (.dt (lkD kn ad))) : OwnOk H1 o (.dt (lkE kn L)) := by
  obtain ⟨ws, rfl, h1, h2⟩ := hw
  refine ⟨ws, rfl, by rw [h1]; unfold lkD lkE; rw [List.map_map, List.map_map]; rfl, ?_⟩
  have : ∀ {kn : List Pt} {vs : List V}, (∀ k ∈ kn, ∃ j : Nat, Ωr[j]? = some (ad k, .lst (dL (L k)))) → RqL H0 vs ((lkD kn ad).map (·.2)) → RqL H1 vs ((lkE kn L).map (·.2)) := by
    intro kn
    induction kn with
    | nil => intro vs _ r; cases r; exact .nil
    | cons k kn ih =>
      intro vs hl r
      cases r with
      | @cons v _ vs _ a t =>
        refine .cons ?_ (ih (fun x hx => hl x (List.mem_cons_of_mem _ hx)) t)
        cases (show v = .ref (ad k) from a)
        obtain ⟨j, hj⟩ := hl k List.mem_cons_self
        obtain ⟨o, h3, us, rfl, h4⟩ := ho _ (List.mem_of_getElem? hj)
        refine .lst h3 (RqL.py (ds := (L k).map dPt) ?_)
        rw [List.map_map]
        exact RqL.mono e h4
  exact this h.ls h2
theorem sub_len {α : Type} [DecidableEq α] : ∀ {l m : List α}, l.Nodup → (∀ x ∈ l, x ∈ m) → l.length ≤ m.length
  | [], m, _, _ => Nat.zero_le _
  | a :: l, m, nd, h => by
    rw [List.nodup_cons] at nd
    have ha := h a List.mem_cons_self
    have := sub_len (m := m.erase a) nd.2 fun x hx => (List.mem_erase_of_ne (fun e => nd.1 (by rw [← e]; exact hx))).mpr (h x (List.mem_cons_of_mem _ hx))
    rw [List.length_erase_of_mem ha] at this
    have : 0 < m.length := List.length_pos_of_mem ha
    rw [List.length_cons]
    omega
/-- k and t are neighbours -/
def Adj (k t : Pt) : Prop := (t.2 = k.2 ∧ (t.1 = k.1 + 1 ∨ k.1 = t.1 + 1)) ∨ (t.1 = k.1 ∧ (t.2 = k.2 + 1 ∨ k.2 = t.2 + 1))
def inG (cols rows : Nat) (k : Pt) : Prop := (0 ≤ k.1 ∧ k.1 < cols) ∧ (0 ≤ k.2 ∧ k.2 < rows)
/-- the link k, t was looked at before the place (j, i, d) -/
def Bef (j i d : Int) (k t : Pt) : Prop := min k.2 t.2 < j ∨ (min k.2 t.2 = j ∧ (min k.1 t.1 < i ∨ (min k.1 t.1 = i ∧ ((if k.2 = t.2 then 0 else 1) : Int) < d)))
structure GrI (cols rows : Nat) (j i d : Int) (L : Pt → List Pt) : Prop where
  adj : ∀ k t, t ∈ L k → inG cols rows k ∧ inG cols rows t ∧ Adj k t
  sym : ∀ k t, t ∈ L k → k ∈ L t
  nd : ∀ k, (L k).Nodup
  bef : ∀ k t, t ∈ L k → Bef j i d k t
theorem GrI.mono {cols rows : Nat} {j i d j' i' d' : Int} {L : Pt → List Pt} (h : GrI cols rows j i d L) (hb : ∀ k t, inG cols rows k → inG cols rows t → Adj k t → Bef j i d k t → Bef j' i' d' k t) : GrI cols rows j' i' d' L :=
  ⟨h.adj, h.sym, h.nd, fun k t ht => by obtain ⟨h1, h2, h3⟩ := h.adj k t ht; exact hb k t h1 h2 h3 (h.bef k t ht)⟩
theorem mem_addL {L : Pt → List Pt} {k t x z : Pt} : z ∈ addL L k t x ↔ z ∈ L x ∨ (x = k ∧ z = t) := by
  unfold addL
  split
  · rename_i e; subst e; simp
  · rename_i e; simp [e]
theorem mem_add2 {L : Pt → List Pt} {k t x z : Pt} : z ∈ addL (addL L k t) t k x ↔ z ∈ L x ∨ (x = k ∧ z = t) ∨ (x = t ∧ z = k) := by
  rw [mem_addL, mem_addL, or_assoc]
theorem GrI.add {cols rows : Nat} {j i d : Int} {L : Pt → List Pt} {k t : Pt} (h : GrI cols rows j i d L) (hk : inG cols rows k) (ht : inG cols rows t) (ha : Adj k t) (hb : ¬ Bef j i d k t) (hb2 : Bef j i (d + 1) k t) : GrI cols rows j i (d + 1) (addL (addL L k t) t k) := by
  have hsym : ∀ {j i d : Int} {k t : Pt}, Bef j i d k t → Bef j i d t k := fun {j i d k t} h => by
    unfold Bef at h ⊢
    rw [Int.min_comm t.2, Int.min_comm t.1]
    have e : (if t.2 = k.2 then (0 : Int) else 1) = if k.2 = t.2 then 0 else 1 := by
      by_cases e : k.2 = t.2
      · rw [if_pos e, if_pos e.symm]
      · rw [if_neg e, if_neg fun h => e h.symm]
    rw [e]; exact h
  have asym : ∀ {k t : Pt}, Adj k t → Adj t k := fun {k t} h => by unfold Adj at h ⊢; omega
  have kt : k ≠ t := fun e => by subst e; unfold Adj at ha; omega
  have nk : t ∉ L k := fun hm => hb (h.bef k t hm)
  have nt : k ∉ L t := fun hm => hb (hsym (h.bef t k hm))
  refine ⟨fun x z hz => ?_, fun x z hz => ?_, fun x => ?_, fun x z hz => ?_⟩
  · rcases mem_add2.mp hz with hz | ⟨rfl, rfl⟩ | ⟨rfl, rfl⟩
    · exact h.adj x z hz
    · exact ⟨hk, ht, ha⟩
    · exact ⟨ht, hk, asym ha⟩
  · rcases mem_add2.mp hz with hz | ⟨rfl, rfl⟩ | ⟨rfl, rfl⟩
    · exact mem_add2.mpr (.inl (h.sym x z hz))
    · exact mem_add2.mpr (.inr (.inr ⟨rfl, rfl⟩))
    · exact mem_add2.mpr (.inr (.inl ⟨rfl, rfl⟩))
  · have nd1 : ∀ {l : List Pt} {a : Pt}, l.Nodup → a ∉ l → (l ++ [a]).Nodup := fun hl hn => List.nodup_append.mpr ⟨hl, by simp, fun a ha b hb e => by rw [List.mem_singleton] at hb; subst e hb; exact hn ha⟩
    unfold addL
    by_cases e : x = t
    · rw [if_pos e, if_neg (fun e => kt e.symm)]
      exact nd1 (h.nd t) nt
    · rw [if_neg e]
      by_cases e : x = k
      · rw [if_pos e]; exact nd1 (h.nd k) nk
      · rw [if_neg e]; exact h.nd x
  · have up : ∀ {k t : Pt}, Bef j i d k t → Bef j i (d + 1) k t := fun h => by unfold Bef at h ⊢; omega
    rcases mem_add2.mp hz with hz | ⟨rfl, rfl⟩ | ⟨rfl, rfl⟩
    · exact up (h.bef x z hz)
    · exact hb2
    · exact hsym hb2
theorem GrI.len {cols rows : Nat} {j i d : Int} {L : Pt → List Pt} (h : GrI cols rows j i d L) (k : Pt) : (L k).length ≤ 4 := by
  have : ∀ x ∈ L k, x ∈ [(k.1 + 1, k.2), (k.1 - 1, k.2), (k.1, k.2 + 1), (k.1, k.2 - 1)] := fun x hx => by
    have := (h.adj k x hx).2.2
    obtain ⟨a, b⟩ := x
    unfold Adj at this
    simp only [List.mem_cons, List.not_mem_nil, or_false, Prod.mk.injEq]
    dsimp only at this
    omega
  exact sub_len (h.nd k) this
end My
end

section
set_option Elab.async false
set_option linter.all false
set_option maxRecDepth 100000
set_option maxHeartbeats 4000000
namespace My
open PySem L2 G
open PySem.W (alike)
open PyProof.Rows (envOfC)
section
variable {P : Program} {w : World} {K : PySem.W.Frag} {mg : Str → Option Value} {base : Heap} {C CP CN : Addr}
theorem TsW.imp {Γ : En} {Ω : Om} {tt : TT} {Q Q' : Bool → Om → Prop} (h : TsW tt Γ Ω Q) (q : ∀ b Ω', Q b Ω' → Q' b Ω') : TsW tt Γ Ω Q' := fun σ H0 H R s g k => h σ H0 H R s g fun b Ω1 H01 H1 q1 g1 c1 => k b Ω1 H01 H1 (q _ _ q1) g1 c1
structure LkQ where
  F : Addr
  n : Nat
  cols : Nat
  rows : Nat
def c__law_links : Co := fun ds Ω Ψ => ∃ q : LkQ, ds = [.loc q.F, I (q.cols : Int), I (q.rows : Int)] ∧ Ω = [(q.F, .feed q.n)] ∧ (q.cols ≤ 10 ∧ q.rows ≤ 10 ∧ q.n ≤ 900000) ∧ ∀ n' p kn L, n' ≤ q.n + 300 → Kn q.cols q.rows 0 kn → GrI q.cols q.rows q.rows 0 0 L → Ψ (.loc p) [(q.F, .feed n'), (p, .dt (lkE kn L))]
theorem sc__law_links : FnScope ["_law_feed_here", "_law_columns", "_law_rows", "_law_links_here", "_law_j", "_law_i", "_law_framed", "_law_many", "_law_there", "_law_rim"] ["_law_feed_here", "_law_columns", "_law_rows"] (defScope s__law_links) := ⟨rfl, rfl, rfl, by decide +kernel, rfl, by decide +kernel, by decide +kernel⟩
theorem okv__law_links : okL ["_law_links_here", "_law_rows", "_law_j", "_law_columns", "_law_i", "_law_feed_here", "_law_framed", "_law_many", "_law_there", "_law_rim"] (defScope s__law_links) = true := by decide +kernel
theorem okg__law_links : okG ["range", "_law_draw"] (defScope s__law_links) = true := by decide +kernel
theorem ok__law_links (T : Tx K mg C) (F : Df K mg "_law_links" s__law_links ["_law_feed_here", "_law_columns", "_law_rows"]) (g__law_draw : Fn P w K mg base CX0 "_law_draw" 1 ["_law_feed_here", "_law_many"] (spF c__law_draw)) : Fn P w K mg base CX0 "_law_links" 2 ["_law_feed_here", "_law_columns", "_law_rows"] (spG c__law_links) :=
  have nd := sc__law_links.nd
  fn_mk F sc__law_links (by rintro ds Ω Ψ ⟨_, rfl, _⟩; rfl) fun f cdv A outer s H E hr => by
    refine ⟨_, (pss_cons (ps_asg pe_dnewT (gnA okv__law_links nd 3 0)) (pss_cons (ps_for PassesOwn.never rfl (pi_range1 (glA okg__law_links 0) T.b.range (pa_cons (pvA okv__law_links 2 1) pa_nil)) (gnA okv__law_links nd 4 2) (pss_one (ps_for PassesOwn.never rfl (pi_range1 (glA okg__law_links 0) T.b.range (pa_cons (pvA okv__law_links 1 3) pa_nil)) (gnA okv__law_links nd 5 4) (pss_one (ps_dput (hu_of hr) (pvA okv__law_links 3 0) (pe_tup (pa_cons (pvA okv__law_links 5 4) (pa_cons (pvA okv__law_links 4 2) pa_nil))) (pe_lst pa_nil) rfl))))) (pss_cons (ps_asg (pe_cmpR op_gt (pe_fn g__law_draw hr (by decide) (pa_cons (pvA okv__law_links 0 5) (pa_cons pe_int pa_nil)) (hg := glA okg__law_links 1)) pe_int (nomark _)) (gnA okv__law_links nd 6 6)) (pss_cons (ps_asg pe_int (gnA okv__law_links nd 7 7)) (pss_cons (ps_for PassesOwn.never rfl (pi_range1 (glA okg__law_links 0) T.b.range (pa_cons (pvA okv__law_links 2 1) pa_nil)) (gnA okv__law_links nd 4 2) (pss_one (ps_for PassesOwn.never rfl (pi_range1 (glA okg__law_links 0) T.b.range (pa_cons (pvA okv__law_links 1 3) pa_nil)) (gnA okv__law_links nd 5 4) (pss_one (ps_for PassesOwn.never rfl (pi_list (pe_lst (pa_cons (pe_tup (pa_cons (pe_op op_add (pvA okv__law_links 5 4) pe_int) (pa_cons (pvA okv__law_links 4 2) pa_nil))) (pa_cons (pe_tup (pa_cons (pvA okv__law_links 5 4) (pa_cons (pe_op op_add (pvA okv__law_links 4 2) pe_int) pa_nil))) pa_nil)))) (gnA okv__law_links nd 8 8) (pss_cons (ps_asg (pe_or (pe_and (pe_cmpR op_eq (pvA okv__law_links 5 4) (pe_ix (ixt K) (pvA okv__law_links 8 8) pe_int (fun _ _ => rfl)) (nomark _)) (pe_one (pe_cmpR (opi K) (pvA okv__law_links 5 4) (pe_tup (pa_cons pe_int (pa_cons (pe_op op_sub (pvA okv__law_links 1 3) pe_int) pa_nil))) rfl))) (pe_one (pe_and (pe_cmpR op_eq (pvA okv__law_links 4 2) (pe_ix (ixt K) (pvA okv__law_links 8 8) pe_int (fun _ _ => rfl)) (nomark _)) (pe_one (pe_cmpR (opi K) (pvA okv__law_links 4 2) (pe_tup (pa_cons pe_int (pa_cons (pe_op op_sub (pvA okv__law_links 2 1) pe_int) pa_nil))) rfl))))) (gnA okv__law_links nd 9 9)) (pss_one (ps_if (PW.pt (pw_and (pt_cmp (pc_din (hu_of hr) (pvA okv__law_links 8 8) (pvA okv__law_links 3 0)) rfl) (pw_and (pt_cmpR op_lt (pvA okv__law_links 7 7) pe_int (nomark _)) (pw_and1 (PW.pt (pw_or (PW.pt (pw_and (pt_val (pvA okv__law_links 6 6)) (pw_and1 (pt_val (pvA okv__law_links 9 9))))) (pw_or1 (pt_cmpR op_gt (pe_fn g__law_draw hr (by decide) (pa_cons (pvA okv__law_links 0 5) (pa_cons pe_int pa_nil)) (hg := glA okg__law_links 1)) pe_int (nomark _))))))))) (pss_cons (ps_expr (pe_bm PySem.F.plainAttrs_list PySem.F.slot_list_append PySem.F.type_list_append mt_append (pe_dget (hu_of hr) (pvA okv__law_links 3 0) (pe_tup (pa_cons (pvA okv__law_links 5 4) (pa_cons (pvA okv__law_links 4 2) pa_nil))) (fun _ _ => rfl)) (pa_cons (pvA okv__law_links 8 8) pa_nil))) (pss_cons (ps_expr (pe_bm PySem.F.plainAttrs_list PySem.F.slot_list_append PySem.F.type_list_append mt_append (pe_dget (hu_of hr) (pvA okv__law_links 3 0) (pvA okv__law_links 8 8) (fun _ _ => rfl)) (pa_cons (pe_tup (pa_cons (pvA okv__law_links 5 4) (pa_cons (pvA okv__law_links 4 2) pa_nil))) pa_nil))) (pss_one (ps_asg (pe_op op_add (pvA okv__law_links 7 7) pe_int) (gnA okv__law_links nd 7 7))))) pss_nil)))))))) (pss_one (ps_ret (pvA okv__law_links 3 0)))))))), ?_⟩
    rintro ds Ω Ψ ⟨⟨F, n, cols, rows⟩, rfl, rfl, ⟨h1, h2, hn⟩, q⟩
    dsimp only at h1 h2 hn q
    refine sw_seq (sw_setW (ev_ownT fun p => ?_))
    try simp only [startD, List.map_cons, List.map_nil, List.cons_append, List.nil_append, List.set_cons_zero, List.set_cons_succ, List.length_cons, List.length_nil, List.replicate_succ, List.replicate_zero, Nat.reduceSub, Nat.reduceAdd]
    refine sw_seq (sw_forR (n := (rows : Int)) (ar_cons (ev_var rfl) ar_nil) (by omega) (by omega) (fun j Γ Ω => ∃ a b c d e f Ωr kn ad, Γ = [some (.loc F), some (I (cols : Int)), some (I (rows : Int)), some (.loc p), a, b, c, d, e, f] ∧ Ω = (F, .feed n) :: (p, .dt (lkD kn ad)) :: Ωr ∧ Kn cols j 0 kn ∧ LkO Ωr kn ad fun _ => []) ⟨_, _, _, _, _, _, [], [], fun _ => 0, rfl, rfl, .nil, .nil⟩ (fun j Γ' Ω' hj J => ?_) fun Γ' Ω' J => ?_)
    · obtain ⟨a, b, c, d, e, f, Ωr, kn, ad, rfl, rfl, hk, ho⟩ := J
      refine tg_name ?_
      refine sw_forR (n := (cols : Int)) (ar_cons (ev_var rfl) ar_nil) (by omega) (by omega) (fun i Γ Ω => ∃ b c d e f Ωr kn ad, Γ = [some (.loc F), some (I (cols : Int)), some (I (rows : Int)), some (.loc p), some (I (j : Int)), b, c, d, e, f] ∧ Ω = (F, .feed n) :: (p, .dt (lkD kn ad)) :: Ωr ∧ Kn cols j i kn ∧ LkO Ωr kn ad fun _ => []) ⟨_, _, _, _, _, Ωr, kn, ad, rfl, rfl, hk, ho⟩ (fun i Γ' Ω' hi J => ?_) fun Γ' Ω' J => ?_
      · obtain ⟨b, c, d, e, f, Ωr, kn, ad, rfl, rfl, hk, ho⟩ := J
        refine tg_name (sw_putTW (a := (i : Int)) (b := (j : Int)) (fun _ => ev_tup (ds := [_, _]) (ar_cons (ev_var rfl) (ar_cons (ev_var rfl) ar_nil))) (fun _ => ev_var rfl) (ev_own0 fun l => ⟨l, rfl, 1, lkD kn ad, rfl, ?_, _, _, _, _, _, Ωr ++ [(l, .lst [])], kn ++ [((i : Int), (j : Int))], _, rfl, ?_, hk.next, ho.new hk.new⟩))
        · unfold lkD
          rw [List.length_map, hk.len]
          have : j * cols ≤ 10 * 10 := Nat.mul_le_mul (by omega) h1
          omega
        · rw [lk_new hk.new]; rfl
      · obtain ⟨b, c, d, e, f, Ωr, kn, ad, rfl, rfl, hk, ho⟩ := J
        exact ⟨_, _, _, _, _, _, Ωr, kn, ad, rfl, rfl, hk.row, ho⟩
    · obtain ⟨a, b, c, d, e, f, Ωr, kn, ad, rfl, rfl, hk, ho⟩ := J
      have hk : Kn cols rows 0 kn := hk
      have hin : ∀ k, k ∈ kn ↔ inG cols rows k := fun k => by rw [hk.mem]; unfold inG; omega
      refine sw_seq (sw_setW (ev_iBW (ev_draw rfl ev_int ⟨by decide, by decide, by omega⟩ fun r0 h3 h4 => ⟨r0, rfl, EvD.toW ev_int ⟨0, rfl, ?_⟩⟩)))
      try simp only [startD, List.map_cons, List.map_nil, List.cons_append, List.nil_append, List.set_cons_zero, List.set_cons_succ, List.length_cons, List.length_nil, List.replicate_succ, List.replicate_zero, Nat.reduceSub, Nat.reduceAdd]
      refine sw_seq (sw_set ev_int ?_)
      try simp only [startD, List.map_cons, List.map_nil, List.cons_append, List.nil_append, List.set_cons_zero, List.set_cons_succ, List.length_cons, List.length_nil, List.replicate_succ, List.replicate_zero, Nat.reduceSub, Nat.reduceAdd]
      refine sw_nd fun nd0 => ?_
      have nd0 : (Ωr.map (·.1)).Nodup := (List.nodup_cons.mp (List.nodup_cons.mp nd0).2).2
      refine sw_seq (sw_forR (n := (rows : Int)) (ar_cons (ev_var rfl) ar_nil) (by omega) (by omega) (fun j Γ Ω => ∃ a b c d e f Ωr n' m L, Γ = [some (.loc F), some (I (cols : Int)), some (I (rows : Int)), some (.loc p), a, b, some (B c), some (I m), e, f] ∧ Ω = (F, .feed n') :: (p, .dt (lkD kn ad)) :: Ωr ∧ (n' ≤ n + 1 + 20 * j ∧ (Ωr.map (·.1)).Nodup) ∧ LkO Ωr kn ad L ∧ GrI cols rows j 0 0 L ∧ d = ()) ⟨_, _, _, (), _, _, Ωr, n + 1, _, fun _ => [], rfl, rfl, ⟨by omega, nd0⟩, ho, ⟨fun k t h => (nomatch h), fun k t h => (nomatch h), fun k => List.nodup_nil, fun k t h => (nomatch h)⟩, rfl⟩ (fun j Γ' Ω' hj J => ?_) fun Γ' Ω' J => ?_)
      · obtain ⟨a, b, c, _, e, f, Ωr, n', m, L, rfl, rfl, ⟨hn', nd⟩, ho, hL, _⟩ := J
        refine tg_name ?_
        refine sw_forR (n := (cols : Int)) (ar_cons (ev_var rfl) ar_nil) (by omega) (by omega) (fun i Γ Ω => ∃ b c e f Ωr n' m L, Γ = [some (.loc F), some (I (cols : Int)), some (I (rows : Int)), some (.loc p), some (I (j : Int)), b, some (B c), some (I m), e, f] ∧ Ω = (F, .feed n') :: (p, .dt (lkD kn ad)) :: Ωr ∧ (n' ≤ n + 1 + 20 * j + 2 * i ∧ (Ωr.map (·.1)).Nodup) ∧ LkO Ωr kn ad L ∧ GrI cols rows j i 0 L) ⟨_, _, _, _, Ωr, n', _, L, rfl, rfl, ⟨by omega, nd⟩, ho, hL⟩ (fun i Γ' Ω' hi J => ?_) fun Γ' Ω' J => ?_
        · obtain ⟨b, c, e, f, Ωr, n', m, L, rfl, rfl, ⟨hn', nd⟩, ho, hL⟩ := J
          refine tg_name ?_
          refine sw_forL (ds := [dPt ((i : Int) + 1, (j : Int)), dPt ((i : Int), (j : Int) + 1)]) (ev_lst (ds := [_, _]) (ar_cons (ev_tup (ds := [_, _]) (ar_cons (ev_i0 (ev_var rfl) ev_int) (ar_cons (ev_var rfl) ar_nil))) (ar_cons (ev_tup (ds := [_, _]) (ar_cons (ev_var rfl) (ar_cons (ev_i0 (ev_var rfl) ev_int) ar_nil))) ar_nil))) (fun d Γ Ω => ∃ c e f Ωr n' m L, Γ = [some (.loc F), some (I (cols : Int)), some (I (rows : Int)), some (.loc p), some (I (j : Int)), some (I (i : Int)), some (B c), some (I m), e, f] ∧ Ω = (F, .feed n') :: (p, .dt (lkD kn ad)) :: Ωr ∧ (n' ≤ n + 1 + 20 * j + 2 * i + d ∧ (Ωr.map (·.1)).Nodup) ∧ LkO Ωr kn ad L ∧ GrI cols rows j i d L) ⟨_, _, _, Ωr, n', _, L, rfl, rfl, ⟨by omega, nd⟩, ho, hL⟩ (fun d x Γ' Ω' hd J => ?_) fun Γ' Ω' J => ?_
          · obtain ⟨c, e, f, Ωr, n', m, L, rfl, rfl, ⟨hn', nd⟩, ho, hL⟩ := J
            obtain ⟨t, hx, hd2, ht⟩ : ∃ t : Pt, x = dPt t ∧ d < 2 ∧ t = (if d = 0 then ((i : Int) + 1, (j : Int)) else ((i : Int), (j : Int) + 1)) := by
              match d, hd with
              | 0, hd => exact ⟨((i : Int) + 1, (j : Int)), (Option.some.inj hd).symm, by omega, rfl⟩
              | 1, hd => exact ⟨((i : Int), (j : Int) + 1), (Option.some.inj hd).symm, by omega, rfl⟩
            subst hx
            clear hd
            have hadj : Adj ((i : Int), (j : Int)) t ∧ ¬ Bef j i d ((i : Int), (j : Int)) t ∧ Bef j i (d + 1) ((i : Int), (j : Int)) t ∧ ((i : Int), (j : Int)) ≠ t := by
              rw [ht]
              by_cases e : d = 0
              · rw [if_pos e]
                unfold Adj Bef
                subst e
                refine ⟨?_, ?_, ?_, fun h => ?_⟩ <;> simp at * <;> omega
              · rw [if_neg e]
                have e : d = 1 := by omega
                unfold Adj Bef
                subst e
                refine ⟨?_, ?_, ?_, fun h => ?_⟩ <;> simp at * <;> omega
            obtain ⟨ha1, ha2, ha3, ha4⟩ := hadj
            have hgr : GrI cols rows j i (d + 1) L := hL.mono fun k t _ _ _ h => by unfold Bef at h ⊢; omega
            have hki : ((i : Int), (j : Int)) ∈ kn := (hin _).mpr (by unfold inG; omega)
            refine tg_name ?_
            refine sw_seq (sw_set (ev_or (ev_and (ev_eqI (ev_var rfl) (ev_ixT (ev_var rfl) ev_int rfl)) fun _ => (ev_inTI (ns := [0, (cols : Int) - 1]) (ev_var rfl) (ev_tup (ds := [_, _]) (ar_cons ev_int (ar_cons (ev_i0 (ev_var rfl) ev_int) ar_nil))))) fun _ => (ev_and (ev_eqI (ev_var rfl) (ev_ixT (ev_var rfl) ev_int rfl)) fun _ => (ev_inTI (ns := [0, (rows : Int) - 1]) (ev_var rfl) (ev_tup (ds := [_, _]) (ar_cons ev_int (ar_cons (ev_i0 (ev_var rfl) ev_int) ar_nil)))))) ?_)
            try simp only [startD, List.map_cons, List.map_nil, List.cons_append, List.nil_append, List.set_cons_zero, List.set_cons_succ, List.length_cons, List.length_nil, List.replicate_succ, List.replicate_zero, Nat.reduceSub, Nat.reduceAdd]
            generalize ((decide ((i : Int) = t.1) && [0, (cols : Int) - 1].contains (i : Int)) || (decide ((j : Int) = t.2) && [0, (rows : Int) - 1].contains (j : Int))) = rim
            refine sw_ifW (TsW.imp (Q := fun b Ω1 => ∃ n2, n2 ≤ n' + 1 ∧ Ω1 = (F, .feed n2) :: (p, .dt (lkD kn ad)) :: Ωr ∧ (b = true → t ∈ kn)) (ts_andW (TsD.toW (ts_B (ev_dinT (ev_var rfl) (ev_var rfl) (j := 1) rfl)) ?_)) fun b Ω1 ⟨n2, hn2, e, hb⟩ => ?_)
            · split
              · rename_i hin2
                have htk : t ∈ kn := by
                  have := hasT_iff.mp hin2
                  unfold lkD at this
                  rw [List.map_map] at this
                  obtain ⟨y, hy, e⟩ := List.mem_map.mp this
                  rw [← pairK_inj' (show pairK y = pairK t from e)]; exact hy
                refine ts_andW (TsD.toW (ts_T (ev_iB (ev_var rfl) ev_int)) ?_)
                split
                · refine ts_orW (TsD.toW (ts_and (ts_B (ev_var rfl)) fun _ => (ts_B (ev_var rfl))) ?_)
                  split
                  · exact ⟨n', by omega, rfl, fun _ => htk⟩
                  · exact ts_TW (ev_iBW (ev_draw rfl ev_int ⟨by decide, by decide, by omega⟩ fun r h5 h6 => ⟨r, rfl, EvD.toW ev_int ⟨1, rfl, _, rfl, n' + 1, by omega, rfl, fun _ => htk⟩⟩))
                · exact ⟨n', by omega, rfl, fun h => (nomatch h)⟩
              · exact ⟨n', by omega, rfl, fun h => (nomatch h)⟩
            · subst e
              split
              · rename_i hbt
                have htk := hb hbt
                obtain ⟨j1, hj1, ho1, nd1⟩ := ho.app (t := t) nd hki
                obtain ⟨j2, hj2, ho2, nd2⟩ := ho1.app (t := ((i : Int), (j : Int))) nd1 htk
                have l1 := hL.len ((i : Int), (j : Int))
                have l2 := hL.len t
                refine sw_seq (sw_app (ev_dgetOT (ev_var rfl) (ev_tup (ds := [_, _]) (ar_cons (ev_var rfl) (ar_cons (ev_var rfl) ar_nil))) (j := 1) rfl (atD_map hki)) (ev_var rfl) (j := j1 + 2) hj1 (by rw [List.length_map]; omega) ?_)
                refine sw_seq (sw_app (ev_dgetOT (ev_var rfl) (ev_var rfl) (j := 1) rfl (atD_map htk)) (ev_tup (ds := [_, _]) (ar_cons (ev_var rfl) (ar_cons (ev_var rfl) ar_nil))) (j := j2 + 2) hj2 ?_ ?_)
                · rw [List.length_map]
                  unfold addL
                  rw [if_neg fun e => ha4 e.symm]
                  omega
                · exact sw_set (ev_i0 (ev_var rfl) ev_int) ⟨_, _, _, _, n2, _, _, rfl, rfl, ⟨by omega, nd2⟩, ho2, hL.add ((hin _).mp hki) ((hin _).mp htk) ha1 ha2 ha3⟩
              · exact sw_next ⟨_, _, _, Ωr, n2, _, L, rfl, rfl, ⟨by omega, nd⟩, ho, hgr⟩
          · obtain ⟨c, e, f, Ωr, n', m, L, rfl, rfl, ⟨hn', nd⟩, ho, hL⟩ := J
            exact ⟨_, _, _, _, Ωr, n', _, L, rfl, rfl, ⟨by simp at hn'; omega, nd⟩, ho, hL.mono fun k t _ _ _ h => by unfold Bef at h ⊢; simp at h ⊢; split at h <;> omega⟩
        · obtain ⟨b, c, e, f, Ωr, n', m, L, rfl, rfl, ⟨hn', nd⟩, ho, hL⟩ := J
          exact ⟨_, _, _, (), _, _, Ωr, n', _, L, rfl, rfl, ⟨by simp at hn'; omega, nd⟩, ho, hL.mono fun k t h5 h6 _ h => by unfold Bef at h ⊢; unfold inG at h5 h6; simp at h ⊢; omega, rfl⟩
      · obtain ⟨a, b, c, _, e, f, Ωr, n', m, L, rfl, rfl, ⟨hn', nd⟩, ho, hL, _⟩ := J
        refine sw_conv (w' := .dt (lkE kn L)) (fun H0 H1 o e h1 h2 => lk_conv ho H0 H1 o e h1 h2) ?_
        exact sw_ret (ev_var rfl) (q n' p kn L (by simp at hn'; omega) hk (by simpa using hL))
end
end My
end

section
set_option Elab.async false
set_option linter.all false
set_option maxRecDepth 100000
set_option maxHeartbeats 4000000
namespace G
open PySem L2
theorem pgu {X : Cx} {K : PySem.W.Frag} {pos : Pos} {es : List Expr} {k : Nat} {t : TGs} {n : Nat} (hc : X.calm = true) (h : PGs X es t) (hs : X.K = K := by rfl) (hn : (assignEach es X.env).length = n := by rfl) (hst : (assignEach es X.env).findIdx? (·.1) = none := by rfl) : PG X (.Tuple es k pos) (gUnl K n t) := by
  subst hs
  exact pg_unl hc h hn hst
theorem tg_unl {Γ : En} {Ω : Om} {gs : TGs} {K : PySem.W.Frag} {n : Nat} {ds : List PyData} {Q : En → Om → Prop} (hn : ds.length = n) (h : TgsW gs (ds.map D.py) Γ Ω Q) : TgW (gUnl K n gs) (.py (.list ds)) Γ Ω Q := fun σ H0 H v R s g r k => by
  cases r with
  | lst h1 r => exact ⟨_, _, rfl, SqL.of (g.ex _ _ h1), r.length.trans hn, h σ H0 H _ R s g (RqL.ofPy r) k⟩
end G
namespace My
open PySem L2 G
/-- m lies strictly between x and y -/
def B1 (x m y : Int) : Prop := (x < m ∧ m < y) ∨ (y < m ∧ m < x)
theorem B1.ne {x m y : Int} (h : B1 x m y) : x ≠ y ∧ x ≠ m ∧ m ≠ y := by unfold B1 at h; omega
theorem B1.comm {x m y : Int} : B1 x m y ↔ B1 y m x := by unfold B1; omega
theorem B1.tri {a k b : Int} (h1 : a ≠ k) (h2 : b ≠ k) (h3 : a ≠ b) : B1 a k b ∨ B1 k a b ∨ B1 k b a := by unfold B1; omega
theorem B1.split {a k b m : Int} (h1 : B1 a k b) (h2 : B1 a m b) : m = k ∨ B1 k m a ∨ B1 k m b := by unfold B1 at *; omega
/-- m lies strictly between k and t -/
def Btw (k m t : Pt) : Prop := (k.1 = t.1 ∧ m.1 = k.1 ∧ B1 k.2 m.2 t.2) ∨ (k.2 = t.2 ∧ m.2 = k.2 ∧ B1 k.1 m.1 t.1)
structure GridL (cols rows : Nat) (L : Pt → List Pt) : Prop where
  ali : ∀ k t, t ∈ L k → inG cols rows k ∧ inG cols rows t ∧ t ≠ k ∧ (t.1 = k.1 ∨ t.2 = k.2)
  sym : ∀ k t, t ∈ L k → k ∈ L t
  nd : ∀ k, (L k).Nodup
  gap : ∀ k t, t ∈ L k → ∀ m, Btw k m t → L m = []
  crs : ∀ k t k' t', t ∈ L k → t' ∈ L k' → ∀ m, Btw k m t → Btw k' m t' → (t.1 = k.1 ↔ t'.1 = k'.1)
theorem GrI.grid {cols rows : Nat} {j i d : Int} {L : Pt → List Pt} (h : GrI cols rows j i d L) : GridL cols rows L := by
  have no : ∀ k t, t ∈ L k → ∀ m, ¬ Btw k m t := fun k t ht m hb => by
    have := (h.adj k t ht).2.2
    unfold Adj at this
    unfold Btw B1 at hb
    rcases hb with ⟨_, _, hb⟩ | ⟨_, _, hb⟩ <;> rcases hb with hb | hb <;> omega
  refine ⟨fun k t ht => ?_, h.sym, h.nd, fun k t ht m hb => absurd hb (no k t ht m), fun k t k' t' ht _ m hb _ => absurd hb (no k t ht m)⟩
  obtain ⟨h1, h2, h3⟩ := h.adj k t ht
  refine ⟨h1, h2, fun e => ?_, ?_⟩ <;> unfold Adj at h3
  · subst e; omega
  · omega
theorem btw_comm {k m t : Pt} : Btw k m t ↔ Btw t m k := by
  have h : ∀ {k t : Pt}, Btw k m t → Btw t m k := fun {k t} h => by
    rcases h with ⟨h1, h2, h3⟩ | ⟨h1, h2, h3⟩
    · exact .inl ⟨h1.symm, h2.trans h1, B1.comm.mp h3⟩
    · exact .inr ⟨h1.symm, h2.trans h1, B1.comm.mp h3⟩
  exact ⟨h, h⟩
def sub (k b t : Pt) : Pt := if t = k then b else t
def updL (L : Pt → List Pt) (k : Pt) (l : List Pt) : Pt → List Pt := fun x => if x = k then l else L x
def mergeL (L : Pt → List Pt) (k a b : Pt) : Pt → List Pt := updL (updL (updL L a ((L a).map (sub k b))) b ((L b).map (sub k a))) k []
theorem pt_ext {a b : Pt} (h1 : a.1 = b.1) (h2 : a.2 = b.2) : a = b := Prod.ext h1 h2
theorem GridL.between {cols rows : Nat} {L : Pt → List Pt} (h : GridL cols rows L) {k a b : Pt} (hL : L k = [a, b]) (hal : a.1 = b.1 ∨ a.2 = b.2) : Btw a k b := by
  have ha : a ∈ L k := by rw [hL]; exact List.mem_cons_self
  have hb : b ∈ L k := by rw [hL]; exact List.mem_cons_of_mem _ List.mem_cons_self
  have hne : a ≠ b := by
    have := h.nd k
    rw [hL, List.nodup_cons] at this
    exact fun e => this.1 (by rw [e]; exact List.mem_cons_self)
  obtain ⟨_, _, a1, a2⟩ := h.ali k a ha
  obtain ⟨_, _, b1, b2⟩ := h.ali k b hb
  have n1 : ¬ Btw k a b := fun hb' => by
    have e := h.gap k b hb a hb'
    have := h.sym k a ha
    rw [e] at this; cases this
  have n2 : ¬ Btw k b a := fun hb' => by
    have e := h.gap k a ha b hb'
    have := h.sym k b hb
    rw [e] at this; cases this
  have ver : a.1 = k.1 → b.1 = k.1 → Btw a k b := fun e1 e2 => by
    rcases B1.tri (a := a.2) (k := k.2) (b := b.2) (fun e => a1 (pt_ext e1 e)) (fun e => b1 (pt_ext e2 e)) (fun e => hne (pt_ext (e1.trans e2.symm) e)) with h | h | h
    · exact .inl ⟨e1.trans e2.symm, e1.symm, h⟩
    · exact absurd (.inl ⟨e2.symm, e1, h⟩) n1
    · exact absurd (.inl ⟨e1.symm, e2, h⟩) n2
  have hor : a.2 = k.2 → b.2 = k.2 → Btw a k b := fun e1 e2 => by
    rcases B1.tri (a := a.1) (k := k.1) (b := b.1) (fun e => a1 (pt_ext e e1)) (fun e => b1 (pt_ext e e2)) (fun e => hne (pt_ext e (e1.trans e2.symm))) with h | h | h
    · exact .inr ⟨e1.trans e2.symm, e1.symm, h⟩
    · exact absurd (.inr ⟨e2.symm, e1, h⟩) n1
    · exact absurd (.inr ⟨e1.symm, e2, h⟩) n2
  rcases hal with e | e
  · rcases a2 with f | f
    · exact ver f (e.symm.trans f)
    · rcases b2 with f2 | f2
      · exact ver (e.trans f2) f2
      · exact hor f f2
  · rcases a2 with f | f
    · rcases b2 with f2 | f2
      · exact ver f f2
      · exact hor (e.trans f2) f2
    · exact hor f (e.symm.trans f)
theorem GridL.merge {cols rows : Nat} {L : Pt → List Pt} (h : GridL cols rows L) {k a b : Pt} (hL : L k = [a, b]) (hal : a.1 = b.1 ∨ a.2 = b.2) : GridL cols rows (mergeL L k a b) := by
  have ha : a ∈ L k := by rw [hL]; exact List.mem_cons_self
  have hb : b ∈ L k := by rw [hL]; exact List.mem_cons_of_mem _ List.mem_cons_self
  have hkb := h.between hL hal
  have ka := h.sym k a ha
  have kb := h.sym k b hb
  have hak : a ≠ k := (h.ali k a ha).2.2.1
  have hbk : b ≠ k := (h.ali k b hb).2.2.1
  have hab : a ≠ b := fun e => by
    subst e
    rcases hkb with ⟨_, _, h⟩ | ⟨_, _, h⟩ <;> exact h.ne.1 rfl
  have nab : b ∉ L a := fun hm => by
    have e := h.gap a b hm k hkb
    rw [hL] at e; cases e
  have nba : a ∉ L b := fun hm => nab (h.sym b a hm)
  have onlyk : ∀ x, k ∈ L x → x = a ∨ x = b := fun x hx => by
    have := h.sym x k hx
    rw [hL] at this
    simpa using this
  have mem : ∀ x z, z ∈ mergeL L k a b x ↔ (x ≠ k ∧ z ≠ k ∧ z ∈ L x) ∨ (x = a ∧ z = b) ∨ (x = b ∧ z = a) := fun x z => by
    have sb : ∀ {y c : Pt}, k ∈ L y → (z ∈ (L y).map (sub k c) ↔ (z ≠ k ∧ z ∈ L y) ∨ z = c ∨ (z = k ∧ k = c ∧ False)) := fun {y c} hy => by
      rw [List.mem_map]
      constructor
      · rintro ⟨t, ht, rfl⟩
        unfold sub
        split
        · exact .inr (.inl rfl)
        · rename_i e; exact .inl ⟨e, ht⟩
      · rintro (⟨h1, h2⟩ | rfl | ⟨_, _, hf⟩)
        · exact ⟨z, h2, by unfold sub; rw [if_neg h1]⟩
        · exact ⟨k, hy, by unfold sub; rw [if_pos rfl]⟩
        · exact hf.elim
    unfold mergeL updL
    by_cases e1 : x = k
    · rw [if_pos e1]
      subst e1
      simp [hak.symm, hbk.symm]
    · rw [if_neg e1]
      by_cases e2 : x = b
      · subst e2
        rw [if_pos rfl, sb kb]
        simp [e1, hab.symm]
      · rw [if_neg e2]
        by_cases e3 : x = a
        · subst e3
          rw [if_pos rfl, sb ka]
          simp [e1, e2]
        · rw [if_neg e3]
          simp only [ne_eq, e1, not_false_eq_true, true_and, e3, false_and, e2, or_false]
          constructor
          · intro hz
            refine ⟨fun e => ?_, hz⟩
            subst e
            rcases onlyk x hz with e | e
            · exact e3 e
            · exact e2 e
          · exact fun hz => hz.2
  have empty : ∀ m, L m = [] → mergeL L k a b m = [] := fun m hm => by
    apply List.eq_nil_iff_forall_not_mem.mpr
    intro z hz
    rcases (mem m z).mp hz with ⟨_, _, h3⟩ | ⟨h1, _⟩ | ⟨h1, _⟩
    · rw [hm] at h3; cases h3
    · rw [h1] at hm; rw [hm] at ka; cases ka
    · rw [h1] at hm; rw [hm] at kb; cases kb
  have emptyk : mergeL L k a b k = [] := by unfold mergeL updL; rw [if_pos rfl]
  have split : ∀ m, Btw a m b → m = k ∨ Btw k m a ∨ Btw k m b := fun m hm => by
    rcases hkb with ⟨h1, h2, h3⟩ | ⟨h1, h2, h3⟩ <;> rcases hm with ⟨g1, g2, g3⟩ | ⟨g1, g2, g3⟩
    · rcases h3.split g3 with e | e | e
      · exact .inl (pt_ext (g2.trans h2.symm) e)
      · exact .inr (.inl (.inl ⟨h2, g2.trans h2.symm, e⟩))
      · exact .inr (.inr (.inl ⟨h2.trans h1, g2.trans h2.symm, e⟩))
    · exact absurd g1 h3.ne.1
    · exact absurd g1 h3.ne.1
    · rcases h3.split g3 with e | e | e
      · exact .inl (pt_ext e (g2.trans h2.symm))
      · exact .inr (.inl (.inr ⟨h2, g2.trans h2.symm, e⟩))
      · exact .inr (.inr (.inr ⟨h2.trans h1, g2.trans h2.symm, e⟩))
  have gapab : ∀ m, Btw a m b → mergeL L k a b m = [] := fun m hm => by
    rcases split m hm with e | e | e
    · rw [e]; exact emptyk
    · exact empty m (h.gap k a ha m e)
    · exact empty m (h.gap k b hb m e)
  have dir : (b.1 = a.1 ↔ a.1 = k.1) ∧ (b.1 = a.1 ↔ b.1 = k.1) ∧ (a.1 = b.1 ↔ a.1 = k.1) ∧ (a.1 = b.1 ↔ b.1 = k.1) := by
    rcases hkb with ⟨h1, h2, h3⟩ | ⟨h1, h2, h3⟩
    · omega
    · have := h3.ne
      omega
  have crsab : ∀ x z m, z ∈ L x → Btw x m z → Btw a m b → (z.1 = x.1 ↔ b.1 = a.1) := fun x z m hz h1 h2 => by
    rcases split m h2 with e | e | e
    · subst e
      have := h.gap x z hz m h1
      rw [hL] at this; cases this
    · rw [h.crs x z k a hz ha m h1 e, dir.1]
    · rw [h.crs x z k b hz hb m h1 e, dir.2.1]
  refine ⟨fun x z hz => ?_, fun x z hz => ?_, fun x => ?_, fun x z hz m hm => ?_, fun x z x' z' hz hz' m h1 h2 => ?_⟩
  · rcases (mem x z).mp hz with ⟨_, _, h3⟩ | ⟨rfl, rfl⟩ | ⟨rfl, rfl⟩
    · exact h.ali x z h3
    · exact ⟨(h.ali k _ ha).2.1, (h.ali k _ hb).2.1, hab.symm, by omega⟩
    · exact ⟨(h.ali k _ hb).2.1, (h.ali k _ ha).2.1, hab, hal⟩
  · rcases (mem x z).mp hz with ⟨h1, h2, h3⟩ | ⟨rfl, rfl⟩ | ⟨rfl, rfl⟩
    · exact (mem z x).mpr (.inl ⟨h2, h1, h.sym x z h3⟩)
    · exact (mem _ _).mpr (.inr (.inr ⟨rfl, rfl⟩))
    · exact (mem _ _).mpr (.inr (.inl ⟨rfl, rfl⟩))
  · have nds : ∀ {y c : Pt}, c ∉ L y → ((L y).map (sub k c)).Nodup := fun {y c} hc => nodup_map_on (h.nd y) fun i hi j hj e => by
      unfold sub at e
      split at e
      · rename_i e1
        split at e
        · rename_i e2; rw [e1, e2]
        · rw [← e] at hj; exact absurd hj hc
      · split at e
        · rw [e] at hi; exact absurd hi hc
        · exact e
    unfold mergeL updL
    split
    · exact List.nodup_nil
    · split
      · exact nds nba
      · split
        · exact nds nab
        · exact h.nd x
  · rcases (mem x z).mp hz with ⟨_, _, h3⟩ | ⟨rfl, rfl⟩ | ⟨rfl, rfl⟩
    · exact empty m (h.gap x z h3 m hm)
    · exact gapab m hm
    · exact gapab m (btw_comm.mp hm)
  · rcases (mem x z).mp hz with ⟨_, _, h3⟩ | ⟨rfl, rfl⟩ | ⟨rfl, rfl⟩ <;> rcases (mem x' z').mp hz' with ⟨_, _, h4⟩ | ⟨rfl, rfl⟩ | ⟨rfl, rfl⟩
    · exact h.crs x z x' z' h3 h4 m h1 h2
    · exact crsab x z m h3 h1 h2
    · rw [crsab x z m h3 h1 (btw_comm.mp h2)]; exact eq_comm
    · rw [crsab x' z' m h4 h2 h1]
    · exact Iff.rfl
    · exact eq_comm
    · rw [crsab x' z' m h4 h2 (btw_comm.mp h1)]; exact eq_comm
    · exact eq_comm
    · exact Iff.rfl
theorem lk_put {kn : List Pt} {L : Pt → List Pt} {k : Pt} {l : List Pt} (hk : k ∈ kn) : putD (lkE kn L) (pairK k) (D.py (.list (l.map dPt))) = lkE kn (updL L k l) := by
  unfold putD
  rw [if_pos]
  · unfold lkE updL
    rw [List.map_map]
    refine List.map_congr_left fun x _ => ?_
    show (if pairK x = pairK k then (pairK x, D.py (.list (l.map dPt))) else (pairK x, D.py (.list ((L x).map dPt)))) = (pairK x, D.py (.list ((if x = k then l else L x).map dPt)))
    by_cases e : x = k
    · rw [if_pos (by rw [e]), if_pos e]
    · rw [if_neg fun h => e (pairK_inj' h), if_neg e]
  · refine List.any_eq_true.mpr ⟨(pairK k, D.py (.list ((L k).map dPt))), ?_, decide_eq_true rfl⟩
    unfold lkE
    exact List.mem_map.mpr ⟨k, hk, rfl⟩
end My
end

section
set_option Elab.async false
set_option linter.all false
set_option maxRecDepth 100000
set_option maxHeartbeats 4000000
namespace My
open PySem L2 G
open PySem.W (alike)
open PyProof.Rows (envOfC)
section
variable {P : Program} {w : World} {K : PySem.W.Frag} {mg : Str → Option Value} {base : Heap} {C CP CN : Addr}
structure MgQ where
  F : Addr
  n : Nat
  p : Addr
  cols : Nat
  rows : Nat
  kn : List Pt
  L : Pt → List Pt
def c__law_merged : Co := fun ds Ω Ψ => ∃ q : MgQ, ds = [.loc q.F, .loc q.p] ∧ Ω = [(q.F, .feed q.n), (q.p, .dt (lkE q.kn q.L))] ∧ (q.kn.length ≤ 100 ∧ (∀ k, k ∈ q.kn ↔ inG q.cols q.rows k) ∧ GridL q.cols q.rows q.L ∧ q.n ≤ 900000) ∧ ∀ n' L, n' ≤ q.n + 100 → GridL q.cols q.rows L → Ψ (.loc q.p) [(q.F, .feed n'), (q.p, .dt (lkE q.kn L))]
theorem sub_ne {k b t : Pt} : (if (!decide ((t.1, t.2) = (k.1, k.2))) = true then D.py (dPt t) else D.py (dPt b)) = D.py (dPt (sub k b t)) := by
  unfold sub
  by_cases e : t = k
  · subst e; simp
  · rw [if_neg e, decide_eq_false (show ¬ (t.1, t.2) = (k.1, k.2) from e)]; rfl
theorem sc__law_merged : FnScope ["_law_feed_here", "_law_links_here", "_law_knot", "_law_beside_it", "_law_one", "_law_other", "_law_there"] ["_law_feed_here", "_law_links_here"] (defScope s__law_merged) := ⟨rfl, rfl, rfl, by decide +kernel, rfl, by decide +kernel, by decide +kernel⟩
theorem okv__law_merged : okL ["_law_links_here", "_law_beside_it", "_law_feed_here"] (defScope s__law_merged) = true := by decide +kernel
theorem okg__law_merged : okG ["len", "_law_draw"] (defScope s__law_merged) = true := by decide +kernel
theorem ok__law_merged (T : Tx K mg C) (F : Df K mg "_law_merged" s__law_merged ["_law_feed_here", "_law_links_here"]) (g__law_draw : Fn P w K mg base CX0 "_law_draw" 1 ["_law_feed_here", "_law_many"] (spF c__law_draw)) : Fn P w K mg base CX0 "_law_merged" 2 ["_law_feed_here", "_law_links_here"] (spG c__law_merged) :=
  have nd := sc__law_merged.nd
  fn_mk F sc__law_merged (by rintro ds Ω Ψ ⟨_, rfl, _⟩; rfl) fun f cdv A outer s H E hr => by
    refine ⟨_, (pss_cons (ps_for PassesOwn.never rfl (pi_list (pb_srtDT T.b hr (pa_cons (pvA okv__law_merged 1 0) pa_nil))) (gn nd 2) (pss_cons (ps_asg (pe_dget (hu_of hr) (pvA okv__law_merged 1 0) (pv 2) (fun _ _ => rfl)) (gnA okv__law_merged nd 3 1)) (pss_one (ps_if (PW.pt (pw_and (pt_cmpR op_eq (kb_len K T.b (pa_cons (pvA okv__law_merged 3 1) pa_nil) (hg := glA okg__law_merged 0)) pe_int (nomark _)) (pw_and1 (pt_cmpR op_gt (pe_fn g__law_draw hr (by decide) (pa_cons (pvA okv__law_merged 0 2) (pa_cons pe_int pa_nil)) (hg := glA okg__law_merged 1)) pe_int (nomark _))))) (pss_cons (ps_asg (pvA okv__law_merged 3 1) (pgu (K := K) (n := 2) rfl (pgs_cons (gn nd 4) (pgs_cons (gn nd 5) pgs_nil)))) (pss_one (ps_if (PW.pt (pw_or (pt_cmpR op_eq (pe_ix (ixt K) (pv 4) pe_int (fun _ _ => rfl)) (pe_ix (ixt K) (pv 5) pe_int (fun _ _ => rfl)) (nomark _)) (pw_or1 (pt_cmpR op_eq (pe_ix (ixt K) (pv 4) pe_int (fun _ _ => rfl)) (pe_ix (ixt K) (pv 5) pe_int (fun _ _ => rfl)) (nomark _))))) (pss_cons (ps_dput (hu_of hr) (pvA okv__law_merged 1 0) (pv 4) (pe_lc (own := [("_law_there", 6)]) rfl nd (pi_list (pe_dget (hu_of hr) (pvA okv__law_merged 1 0) (pv 4) (fun _ _ => rfl))) (blkOk_by (own := [("_law_there", 6)]) (N := ["_law_feed_here", "_law_links_here", "_law_knot", "_law_beside_it", "_law_one", "_law_other", "_law_there"]) (sc := defScope s__law_merged) (by decide +kernel)) (fun _ _ _ _ _ => (gn nd 6)) (fun _ _ _ _ _ => pts_nil) (fun _ _ _ _ _ => (pe_ifExp (pt_cmpR (opn K hr.units) (pv 6) (pv 2) (nomark _)) (pv 6) (pv 5)))) rfl) (pss_cons (ps_dput (hu_of hr) (pvA okv__law_merged 1 0) (pv 5) (pe_lc (own := [("_law_there", 6)]) rfl nd (pi_list (pe_dget (hu_of hr) (pvA okv__law_merged 1 0) (pv 5) (fun _ _ => rfl))) (blkOk_by (own := [("_law_there", 6)]) (N := ["_law_feed_here", "_law_links_here", "_law_knot", "_law_beside_it", "_law_one", "_law_other", "_law_there"]) (sc := defScope s__law_merged) (by decide +kernel)) (fun _ _ _ _ _ => (gn nd 6)) (fun _ _ _ _ _ => pts_nil) (fun _ _ _ _ _ => (pe_ifExp (pt_cmpR (opn K hr.units) (pv 6) (pv 2) (nomark _)) (pv 6) (pv 4)))) rfl) (pss_one (ps_dput (hu_of hr) (pvA okv__law_merged 1 0) (pv 2) (pe_lst pa_nil) rfl)))) pss_nil))) pss_nil)))) (pss_one (ps_ret (pvA okv__law_merged 1 0)))), ?_⟩
    rintro ds Ω Ψ ⟨⟨F, n, p, cols, rows, kn, L0⟩, rfl, rfl, ⟨h1, hin, hL0, hn⟩, q⟩
    dsimp only at h1 hin hL0 hn q
    refine sw_seq (sw_forL (ev_srtDT (ks := kn) (ev_var rfl) (j := 1) rfl (by show (lkE kn L0).map (·.1) = kn.map pairK; unfold lkE; rw [List.map_map]; rfl) (by omega)) (fun i Γ Ω => ∃ a b c d e n' L, Γ = [some (.loc F), some (.loc p), a, b, c, d, e] ∧ Ω = [(F, .feed n'), (p, .dt (lkE kn L))] ∧ n' ≤ n + i ∧ GridL cols rows L) ⟨_, _, _, _, _, n, L0, rfl, rfl, by omega, hL0⟩ (fun i x Γ' Ω' hx J => ?_) fun Γ' Ω' J => ?_)
    · obtain ⟨a, b, c, d, e, n', L, rfl, rfl, hn', hL⟩ := J
      rw [List.getElem?_map] at hx
      cases ek : (kn.mergeSort (PySem.W.dataLe false dPr))[i]? with
      | none => rw [ek] at hx; cases hx
      | some k =>
        rw [ek] at hx
        cases hx
        have hi : i < kn.length := by
          have := (List.getElem?_eq_some_iff.mp ek).1
          rwa [List.length_mergeSort] at this
        have hk : k ∈ kn := List.mem_mergeSort.mp (List.mem_of_getElem? ek)
        refine tg_name ?_
        refine sw_seq (sw_set (ev_dgetOT (a := k.1) (b := k.2) (ev_var rfl) (ev_var rfl) (j := 1) rfl (atD_map hk)) ?_)
        try simp only [startD, List.map_cons, List.map_nil, List.cons_append, List.nil_append, List.set_cons_zero, List.set_cons_succ, List.length_cons, List.length_nil, List.replicate_succ, List.replicate_zero, Nat.reduceSub, Nat.reduceAdd]
        refine sw_ifW (TsW.imp (Q := fun b Ω1 => ∃ n2, n2 ≤ n' + 1 ∧ Ω1 = [(F, .feed n2), (p, .dt (lkE kn L))] ∧ (b = true → (L k).length = 2)) (ts_andW (TsD.toW (ts_T (ev_eqI (ev_lenL (ev_var rfl)) ev_int)) ?_)) fun b Ω1 ⟨n2, hn2, e, hb⟩ => ?_)
        · split
          · rename_i h2
            have h2 := of_decide_eq_true h2
            rw [List.length_map] at h2
            have h2 : (L k).length = 2 := by have h3 : ((L k).length : Int) = 2 := h2; omega
            exact ts_TW (ev_iBW (ev_draw rfl ev_int ⟨by decide, by decide, by omega⟩ fun r h5 h6 => ⟨r, rfl, EvD.toW ev_int ⟨0, rfl, _, rfl, n' + 1, by omega, rfl, fun _ => h2⟩⟩))
          · exact ⟨n', by omega, rfl, fun h => (nomatch h)⟩
        · subst e
          split
          · rename_i hbt
            have hl := hb hbt
            obtain ⟨a, b, hab⟩ : ∃ a b, L k = [a, b] := by
              match hz : L k, hl with
              | [a, b], _ => exact ⟨a, b, rfl⟩
            have ha : a ∈ L k := by rw [hab]; exact List.mem_cons_self
            have hb : b ∈ L k := by rw [hab]; exact List.mem_cons_of_mem _ List.mem_cons_self
            have hak := (hin _).mpr (hL.ali k a ha).2.1
            have hbk := (hin _).mpr (hL.ali k b hb).2.1
            have hne : a ≠ b := by
              have := hL.nd k
              rw [hab, List.nodup_cons] at this
              exact fun e => this.1 (by rw [e]; exact List.mem_cons_self)
            rw [hab]
            refine sw_seq (sw_asgW (EvD.toW (ev_var rfl) (tg_unl rfl (tgs_cons (tg_name (tgs_cons (tg_name (tgs_nil ?_))))))))
            try simp only [startD, List.map_cons, List.map_nil, List.cons_append, List.nil_append, List.set_cons_zero, List.set_cons_succ, List.length_cons, List.length_nil, List.replicate_succ, List.replicate_zero, Nat.reduceSub, Nat.reduceAdd]
            refine sw_if (ts_or (ts_T (ev_eqI (ev_ixT (ev_var rfl) ev_int rfl) (ev_ixT (ev_var rfl) ev_int rfl))) fun _ => (ts_T (ev_eqI (ev_ixT (ev_var rfl) ev_int rfl) (ev_ixT (ev_var rfl) ev_int rfl)))) (fun hc => ?_) fun hc => sw_next ⟨_, _, _, _, _, n2, L, rfl, rfl, by omega, hL⟩
            have hal : a.1 = b.1 ∨ a.2 = b.2 := by simpa using hc
            have len : ∀ x, (L x).length < 100000 := fun x => by
              have := sub_len (hL.nd x) (m := kn) fun y hy => (hin y).mpr (hL.ali x y hy).2.1
              omega
            have lenE : ∀ L : Pt → List Pt, (lkE kn L).length < 100000 := fun L => by unfold lkE; rw [List.length_map]; omega
            refine sw_seq (sw_putT (a := a.1) (b := a.2) (d := .py (.list (((L a).map (sub k b)).map dPt))) ((ev_lcL (L a) dPt (fun _ => true) (fun t => dPt (sub k b t)) (ev_dgetOT (a := a.1) (b := a.2) (ev_var rfl) (ev_var rfl) (j := 1) rfl (atD_map hak)) (to_name) (len a) fun t ht => tg_name ⟨rfl, ts_yes, fun _ => EvD.eq (ev_if (d := .py (dPt t)) (d' := .py (dPt b)) (ts_T (ev_neD (d := dPt t) (e := dPt k) (ev_var rfl) (ev_var rfl) rfl rfl)) (fun _ => (ev_var rfl)) (fun _ => (ev_var rfl))) (by rw [eqv_pair]; exact sub_ne)⟩).eq (by rw [fil_true, List.map_map]; rfl)) (ev_var rfl) (ev_var rfl) (j := 1) rfl (lenE _) ?_)
            rw [lk_put (k := (a.1, a.2)) hak]
            refine sw_seq (sw_putT (a := b.1) (b := b.2) (d := .py (.list (((L b).map (sub k a)).map dPt))) ((ev_lcL (L b) dPt (fun _ => true) (fun t => dPt (sub k a t)) (ev_dgetOT (a := b.1) (b := b.2) (ev_var rfl) (ev_var rfl) (j := 1) rfl ?_) (to_name) (len b) fun t ht => tg_name ⟨rfl, ts_yes, fun _ => EvD.eq (ev_if (d := .py (dPt t)) (d' := .py (dPt a)) (ts_T (ev_neD (d := dPt t) (e := dPt k) (ev_var rfl) (ev_var rfl) rfl rfl)) (fun _ => (ev_var rfl)) (fun _ => (ev_var rfl))) (by rw [eqv_pair]; exact sub_ne)⟩).eq (by rw [fil_true, List.map_map]; rfl)) (ev_var rfl) (ev_var rfl) (j := 1) rfl (lenE _) ?_)
            · refine (atD_map (f := fun x => D.py (.list ((updL L (a.1, a.2) ((L a).map (sub k b)) x).map dPt))) hbk).trans ?_
              show some (D.py (.list ((updL L a ((L a).map (sub k b)) b).map dPt))) = _
              unfold updL
              rw [if_neg fun e => hne e.symm]
            · show SW _ _ [(F, .feed n2), (p, .dt (putD (lkE kn (updL L (a.1, a.2) ((L a).map (sub k b)))) (pairK (b.1, b.2)) (.py (.list (((L b).map (sub k a)).map dPt)))))] _
              rw [lk_put (k := (b.1, b.2)) hbk]
              refine sw_putT (a := k.1) (b := k.2) (d := .py (.list (([] : List Pt).map dPt))) (ev_lst (ds := []) ar_nil) (ev_var rfl) (ev_var rfl) (j := 1) rfl (lenE _) ?_
              refine ⟨_, _, _, _, _, n2, mergeL L k a b, rfl, ?_, by omega, hL.merge hab hal⟩
              show [(F, Own.feed n2), (p, .dt (putD _ (pairK (k.1, k.2)) (.py (.list (([] : List Pt).map dPt)))))] = _
              rw [lk_put (k := (k.1, k.2)) hk]
              rfl
          · exact sw_next ⟨_, _, _, _, _, n2, L, rfl, rfl, by omega, hL⟩
    · obtain ⟨a, b, c, d, e, n', L, rfl, rfl, hn', hL⟩ := J
      rw [List.length_map, List.length_mergeSort] at hn'
      exact sw_ret (ev_var rfl) (q n' L (by omega) hL)
end
end My
end

section
set_option Elab.async false
set_option linter.all false
set_option maxRecDepth 100000
set_option maxHeartbeats 4000000
namespace G
open PySem L2
theorem ev_fnO {Γ : En} {Ω : Om} {C : Co} {t : TA} {Q : D → Om → Prop} (ha : ArW t Γ Ω fun ds Ω1 => ∃ Ωa Ωr, Ω1 = Ωa ++ Ωr ∧ C ds Ωa fun d Ω' => Q d (Ω' ++ Ωr)) : EvW (tCall (spG C) [] E0 t) Γ Ω Q := fun σ H0 H R s g k =>
  ha σ H0 H _ s g fun vs ds Ω1 H01 H1 q1 g1 c1 r1 => by
    obtain ⟨Ωa, Ωr, rfl, hc⟩ := q1
    refine ⟨H01, ds, Ωa, fun x Ω' => Q x (Ω' ++ Ωr), Hs.left g1, by rw [List.append_nil]; exact r1, hc, fun v x Ω' H0' H' q2 g' c r => ?_⟩
    obtain ⟨a, b⟩ := G.frame (Ω := Ωa) (Ωr := Ωr) g1 g' c
    exact k v x _ H0' H' q2 a (c1.trans b g1.ex) r
end G
namespace My
open PySem L2 G
open PySem.W (alike)
open PyProof.Rows (envOfC)
theorem lay_pts : ∀ l : List Pt, PyData.canLayAll0 (l.map dPt) = true ∧ PyData.depthAll (l.map dPt) ≤ 3
  | [] => ⟨rfl, by decide⟩
  | a :: l => by
    obtain ⟨h1, h2⟩ := lay_pts l
    refine ⟨?_, ?_⟩
    · exact Bool.and_eq_true_iff.mpr ⟨rfl, h1⟩
    · exact Nat.max_le.mpr ⟨Nat.le_of_ble_eq_true rfl, h2⟩
theorem shp_pts (l : List Pt) : SeqAt.shaped (.list (l.map dPt)) = true := by
  obtain ⟨h1, h2⟩ := lay_pts l
  refine Bool.and_eq_true_iff.mpr ⟨h1, decide_eq_true ?_⟩
  have : PyData.depth (.list (l.map dPt)) = PyData.depthAll (l.map dPt) + 1 := rfl
  omega
theorem eqv_nil (l : List Pt) : PyData.eqv (.list (l.map dPt)) (.list []) = decide (l = []) := by
  cases l <;> rfl
def ltP (k t : Pt) : Bool := HT.lexLt [k.1, k.2] [t.1, t.2]
def liveF (kn : List Pt) (L : Pt → List Pt) : List Pt := (kn.mergeSort (PySem.W.dataLe false dPr)).filter fun k => !decide (L k = [])
def numF (ks : List Pt) (ns : List Int) (k : Pt) : Int := ((ks.zip ns).lookup k).getD 0
def cornersF (ks : List Pt) (ns xs ys : List Int) : List Corner := ks.map fun k => (numF ks ns k, (xs.getD k.1.toNat 0, ys.getD k.2.toNat 0))
def shutsAt (ks : List Pt) (ns : List Int) (L : Pt → List Pt) (k : Pt) : List Wall := ((L k).filter fun t => ltP k t).map fun t => (numF ks ns k, numF ks ns t)
def shutsF (ks : List Pt) (ns : List Int) (L : Pt → List Pt) : List Wall := ks.flatMap (shutsAt ks ns L)
structure NetG (cols rows : Nat) (kn : List Pt) (L : Pt → List Pt) (xs ys ns : List Int) : Prop where
  cs : 2 ≤ cols ∧ cols ≤ 5
  rs : 2 ≤ rows ∧ rows ≤ 5
  knr : Kn cols rows 0 kn
  grid : GridL cols rows L
  lxs : LineR cols xs
  lys : LineR rows ys
  nd : ns.Nodup
  len : ns.length = (liveF kn L).length
def netG (kn : List Pt) (L : Pt → List Pt) (xs ys ns : List Int) : Net := ((cornersF (liveF kn L) ns xs ys).mergeSort (PySem.W.dataLe false dC), (shutsF (liveF kn L) ns L).mergeSort (PySem.W.dataLe false dW))
def GenNet (n : Net) : Prop := ∃ cols rows kn L xs ys ns, NetG cols rows kn L xs ys ns ∧ n = netG kn L xs ys ns
theorem flat_len {α β : Type} {f : α → List β} {m : Nat} (h : ∀ x, (f x).length ≤ m) : ∀ {l : List α}, (l.flatMap f).length ≤ l.length * m
  | [] => by simp
  | a :: l => by
    rw [List.flatMap_cons, List.length_append, List.length_cons, Nat.add_mul, Nat.one_mul]
    have := h a
    have := flat_len h (l := l)
    omega
theorem shut_len {ks : List Pt} {ns : List Int} {L : Pt → List Pt} {k : Pt} {m : Nat} (h : (L k).length ≤ m) : (shutsAt ks ns L k).length ≤ m := by
  unfold shutsAt
  rw [List.length_map]
  exact Nat.le_trans (List.length_filter_le _ _) h
theorem num_get {ks : List Pt} {ns : List Int} (hl : ns.length = ks.length) {k : Pt} (hk : k ∈ ks) : ((ks.zip ns).map fun q => (q.1, I q.2)).lookup (k.1, k.2) = some (I (numF ks ns k)) := by
  have : ∀ {ks : List Pt} {ns : List Int}, ns.length = ks.length → k ∈ ks → ((ks.zip ns).map fun q => (q.1, I q.2)).lookup k = some (I (((ks.zip ns).lookup k).getD 0)) := by
    intro ks
    induction ks with
    | nil => intro ns _ h; cases h
    | cons a ks ih =>
      intro ns hl hk
      cases ns with
      | nil => cases hl
      | cons m ns =>
        by_cases e : k = a
        · subst e; simp [List.lookup]
        · have e2 : (k == a) = false := by simpa using e
          simp only [List.zip_cons_cons, List.map_cons, List.lookup, e2]
          exact ih (by simpa using hl) ((List.mem_cons.mp hk).resolve_left e)
  exact this hl hk
theorem lk_get {kn : List Pt} {L : Pt → List Pt} {k : Pt} (hk : k ∈ kn) : (kn.map fun k => (k, D.py (.list ((L k).map dPt)))).lookup (k.1, k.2) = some (.py (.list ((L k).map dPt))) := by
  have : ∀ {kn : List Pt}, k ∈ kn → (kn.map fun k => (k, D.py (.list ((L k).map dPt)))).lookup k = some (.py (.list ((L k).map dPt))) := by
    intro kn
    induction kn with
    | nil => intro h; cases h
    | cons a kn ih =>
      intro hk
      by_cases e : k = a
      · subst e; simp [List.lookup]
      · have e2 : (k == a) = false := by simpa using e
        simp only [List.map_cons, List.lookup, e2]
        exact ih ((List.mem_cons.mp hk).resolve_left e)
  exact this hk
section
variable {P : Program} {w : World} {K : PySem.W.Frag} {mg : Str → Option Value} {base : Heap} {C CP CN : Addr}
def c__law_net : Cf := fun n ds Ψ => ∃ q : Int × Int, ds = [I q.1, I q.2] ∧ (q.1 = 5 ∧ 1 ≤ q.2 ∧ q.2 ≤ 10000 ∧ n ≤ 800000) ∧ ∀ net n', n' ≤ n + 600 → GenNet net → Ψ (.py (dNet net)) n'
theorem sc__law_net : FnScope ["_law_feed_here", "_law_most", "_law_scale", "_law_columns", "_law_rows", "_law_links_here", "_law_xs", "_law_ys", "_law_knots", "_law_knot", "_law_numbers_here", "_law_corners", "_law_i", "_law_j", "_law_shuts", "_law_there"] ["_law_feed_here", "_law_most", "_law_scale"] (defScope s__law_net) := ⟨rfl, rfl, rfl, by decide +kernel, rfl, by decide +kernel, by decide +kernel⟩
theorem okv__law_net : okL ["_law_most", "_law_feed_here", "_law_rows", "_law_columns", "_law_scale", "_law_knots", "_law_shuts", "_law_corners"] (defScope s__law_net) = true := by decide +kernel
theorem okg__law_net : okG ["_law_draw", "_law_links", "_law_merged", "_law_line", "len", "_law_numbers", "zip", "sorted", "tuple"] (defScope s__law_net) = true := by decide +kernel
theorem ok__law_net (T : Tx K mg C) (F : Df K mg "_law_net" s__law_net ["_law_feed_here", "_law_most", "_law_scale"]) (g__law_draw : Fn P w K mg base CX0 "_law_draw" 1 ["_law_feed_here", "_law_many"] (spF c__law_draw)) (g__law_line : Fn P w K mg base CX0 "_law_line" 2 ["_law_feed_here", "_law_many", "_law_scale"] (spF c__law_line)) (g__law_links : Fn P w K mg base CX0 "_law_links" 2 ["_law_feed_here", "_law_columns", "_law_rows"] (spG c__law_links)) (g__law_merged : Fn P w K mg base CX0 "_law_merged" 2 ["_law_feed_here", "_law_links_here"] (spG c__law_merged)) (g__law_numbers : Fn P w K mg base CX0 "_law_numbers" 2 ["_law_feed_here", "_law_many"] (spF c__law_numbers)) : Fn P w K mg base CX0 "_law_net" 3 ["_law_feed_here", "_law_most", "_law_scale"] (spF c__law_net) :=
  have nd := sc__law_net.nd
  fn_mk F sc__law_net (by first | (rintro ds Ω Ψ ⟨_, _, _, rfl, _, rfl, _⟩; rfl) | (rintro ds Ω Ψ ⟨_, _, _, rfl, _, _, rfl, _⟩; rfl) | (rintro ds Ω Ψ ⟨_, _, _, rfl, _, _, _, rfl, _⟩; rfl) | (rintro ds Ω Ψ ⟨_, _, _, rfl, _, _, _, _, rfl, _⟩; rfl)) fun f cdv A outer s H E hr => by
    refine ⟨_, (pss_cons (ps_par (i := 3) (j := 4) rfl nd rfl rfl (by decide) rfl rfl (pa_cons (pe_op op_add pe_int (pe_fn g__law_draw hr (by decide) (pa_cons (pvA okv__law_net 0 1) (pa_cons (pe_op op_sub (pvA okv__law_net 1 0) pe_int) pa_nil)) (hg := glA okg__law_net 0))) (pa_cons (pe_op op_add pe_int (pe_fn g__law_draw hr (by decide) (pa_cons (pvA okv__law_net 0 1) (pa_cons (pe_op op_sub (pvA okv__law_net 1 0) pe_int) pa_nil)) (hg := glA okg__law_net 0))) pa_nil)) (by rfl)) (pss_cons (ps_asg (pe_fn g__law_merged hr (by decide) (pa_cons (pvA okv__law_net 0 1) (pa_cons (pe_fn g__law_links hr (by decide) (pa_cons (pvA okv__law_net 0 1) (pa_cons (pvA okv__law_net 3 3) (pa_cons (pvA okv__law_net 4 2) pa_nil))) (hg := glA okg__law_net 1)) pa_nil)) (hg := glA okg__law_net 2)) (gn nd 5)) (pss_cons (ps_asg (pe_tup (pa_cons (pe_fn g__law_line hr (by decide) (pa_cons (pvA okv__law_net 0 1) (pa_cons (pvA okv__law_net 3 3) (pa_cons (pvA okv__law_net 2 4) pa_nil))) (hg := glA okg__law_net 3)) (pa_cons (pe_fn g__law_line hr (by decide) (pa_cons (pvA okv__law_net 0 1) (pa_cons (pvA okv__law_net 4 2) (pa_cons (pvA okv__law_net 2 4) pa_nil))) (hg := glA okg__law_net 3)) pa_nil))) (pgt K (n := 2) rfl (pgs_cons (gn nd 6) (pgs_cons (gn nd 7) pgs_nil)))) (pss_cons (ps_setLc (i := 8) (own := [("_law_knot", 9)]) rfl nd rfl rfl (sw_true rfl rfl rfl (by decide +kernel)) (pi_list (pb_srtDT T.b hr (pa_cons (pv 5) pa_nil))) (blkOk_by (own := [("_law_knot", 9)]) (N := ["_law_feed_here", "_law_most", "_law_scale", "_law_columns", "_law_rows", "_law_links_here", "_law_xs", "_law_ys", "_law_knots", "_law_knot", "_law_numbers_here", "_law_corners", "_law_i", "_law_j", "_law_shuts", "_law_there"]) (sc := defScope s__law_net) (by decide +kernel)) (fun _ _ _ _ _ => (gn nd 9)) (fun _ _ _ _ _ => (pts_one (pt_cmpR (opn K hr.units) (pe_dget (hu_of hr) (pv 5) (pv 9) (fun _ _ => rfl)) (pe_lst pa_nil) (nomark _)))) (fun _ _ _ _ _ => (pv 9))) (pss_cons (ps_asg (pe_dictzip hr T.b.dict T.b.zip (pa_cons (pvA okv__law_net 8 5) (pa_cons (pe_fn g__law_numbers hr (by decide) (pa_cons (pvA okv__law_net 0 1) (pa_cons (kb_len K T.b (pa_cons (pvA okv__law_net 8 5) pa_nil) (hg := glA okg__law_net 4)) pa_nil)) (hg := glA okg__law_net 5)) pa_nil))) (gn nd 10)) (pss_cons (ps_setLc (i := 11) (own := [("_law_i", 12), ("_law_j", 13)]) rfl nd rfl rfl (sw_true rfl rfl rfl (by decide +kernel)) (pi_list (pvA okv__law_net 8 5)) (blkOk_by (own := [("_law_i", 12), ("_law_j", 13)]) (N := ["_law_feed_here", "_law_most", "_law_scale", "_law_columns", "_law_rows", "_law_links_here", "_law_xs", "_law_ys", "_law_knots", "_law_knot", "_law_numbers_here", "_law_corners", "_law_i", "_law_j", "_law_shuts", "_law_there"]) (sc := defScope s__law_net) (by decide +kernel)) (fun _ _ _ _ _ => (pgt K (n := 2) rfl (pgs_cons (gn nd 12) (pgs_cons (gn nd 13) pgs_nil)))) (fun _ _ _ _ _ => pts_nil) (fun _ _ _ _ _ => (pe_tup (pa_cons (pe_dget (hu_of hr) (pv 10) (pe_tup (pa_cons (pv 12) (pa_cons (pv 13) pa_nil))) (fun _ _ => rfl)) (pa_cons (pe_ix (ixl K) (pv 6) (pv 12) (fun _ _ => rfl)) (pa_cons (pe_ix (ixl K) (pv 7) (pv 13) (fun _ _ => rfl)) pa_nil)))))) (pss_cons (ps_asg (pe_lst pa_nil) (gnA okv__law_net nd 14 6)) (pss_cons (ps_for PassesOwn.never rfl (pi_list (pvA okv__law_net 8 5)) (gn nd 9) (pss_one (ps_expr (pe_bm PySem.F.plainAttrs_list PySem.F.slot_list_extend PySem.F.type_list_extend mt_extend (pvA okv__law_net 14 6) (pa_cons (pe_lc (own := [("_law_there", 15)]) rfl nd (pi_list (pe_dget (hu_of hr) (pv 5) (pv 9) (fun _ _ => rfl))) (blkOk_by (own := [("_law_there", 15)]) (N := ["_law_feed_here", "_law_most", "_law_scale", "_law_columns", "_law_rows", "_law_links_here", "_law_xs", "_law_ys", "_law_knots", "_law_knot", "_law_numbers_here", "_law_corners", "_law_i", "_law_j", "_law_shuts", "_law_there"]) (sc := defScope s__law_net) (by decide +kernel)) (fun _ _ _ _ _ => (gn nd 15)) (fun _ _ _ _ _ => (pts_one (pt_cmpR (opl K hr.units0) (pv 9) (pv 15) (nomark _)))) (fun _ _ _ _ _ => (pe_tup (pa_cons (pe_dget (hu_of hr) (pv 10) (pv 9) (fun _ _ => rfl)) (pa_cons (pe_dget (hu_of hr) (pv 10) (pv 15) (fun _ _ => rfl)) pa_nil))))) pa_nil))))) (pss_one (ps_ret (pe_tup (pa_cons (pb_tuple T.b (pa_cons (pb_sorted T.b hr (pa_cons (pvA okv__law_net 11 7) pa_nil) (hg := glA okg__law_net 7)) pa_nil) (hg := glA okg__law_net 8)) (pa_cons (pb_tuple T.b (pa_cons (pb_sorted T.b hr (pa_cons (pvA okv__law_net 14 6) pa_nil) (hg := glA okg__law_net 7)) pa_nil) (hg := glA okg__law_net 8)) pa_nil))))))))))))), ?_⟩
    rintro ds Ω Ψ ⟨F, n, es, rfl, rfl, ⟨most, sc⟩, rfl, ⟨h1, h2, h3, hn⟩, q⟩
    dsimp only at h1 h2 h3 q
    subst h1
    refine sw_seq (sw_parW (ar_consW (ev_i0W (EvD.toW ev_int ⟨2, rfl, ev_draw (many := 4) rfl ((ev_i0 (f := fun i j => i - j) (i := 5) (j := 1) (ev_var rfl) ev_int).eq rfl) ⟨by decide, by decide, by omega⟩ fun r0 h4 h5 => ⟨r0, rfl, ar_consW (ev_i0W (EvD.toW ev_int ⟨2, rfl, ev_draw (many := 4) rfl ((ev_i0 (f := fun i j => i - j) (i := 5) (j := 1) (ev_var rfl) ev_int).eq rfl) ⟨by decide, by decide, by omega⟩ fun r1 h6 h7 => ⟨r1, rfl, ar_nilW ⟨_, _, rfl, ?_⟩⟩⟩))⟩⟩))))
    try simp only [startD, List.map_cons, List.map_nil, List.cons_append, List.nil_append, List.set_cons_zero, List.set_cons_succ, List.length_cons, List.length_nil, List.replicate_succ, List.replicate_zero, Nat.reduceSub, Nat.reduceAdd]
    obtain ⟨cols, hc⟩ : ∃ cols : Nat, (2 + r0 : Int) = cols := ⟨(2 + r0).toNat, by omega⟩
    obtain ⟨rows, hr'⟩ : ∃ rows : Nat, (2 + r1 : Int) = rows := ⟨(2 + r1).toNat, by omega⟩
    show SW _ [some (.loc F), some (I 5), some (I sc), some (I (2 + r0)), some (I (2 + r1)), none, none, none, none, none, none, none, none, none, none, none] _ _
    rw [hc, hr']
    refine sw_seq (sw_setW (ev_fnO (ar_consW (EvD.toW (ev_var rfl) (ar_consW (ev_fnO (ArD.toW (ds := [.loc F, I (cols : Int), I (rows : Int)]) (ar_cons (ev_var rfl) (ar_cons (ev_var rfl) (ar_cons (ev_var rfl) ar_nil))) ⟨[(F, .feed (n + 1 + 1))], [], rfl, ⟨F, n + 1 + 1, cols, rows⟩, rfl, rfl, ⟨by dsimp only; omega, by dsimp only; omega, by dsimp only; omega⟩, fun n1 p kn L hn1 hkn hL => ar_nilW ⟨_, [], rfl, ⟨F, n1, p, cols, rows, kn, L⟩, rfl, rfl, ⟨?_, ?_, hL.grid, by dsimp only at hn1 ⊢; omega⟩, fun n2 L2 hn2 hL2 => ?_⟩⟩)))))))
    try simp only [startD, List.map_cons, List.map_nil, List.cons_append, List.nil_append, List.set_cons_zero, List.set_cons_succ, List.length_cons, List.length_nil, List.replicate_succ, List.replicate_zero, Nat.reduceSub, Nat.reduceAdd]
    · have hkn : Kn cols rows 0 kn := hkn
      show kn.length ≤ 100
      rw [hkn.len]
      have : rows * cols ≤ 5 * 5 := Nat.mul_le_mul (by omega) (by omega)
      omega
    · intro k
      have hkn : Kn cols rows 0 kn := hkn
      show k ∈ kn ↔ inG cols rows k
      rw [hkn.mem]; unfold inG; omega
    have hkn : Kn cols rows 0 kn := hkn
    have hL2 : GridL cols rows L2 := hL2
    have hn2 : n2 ≤ n1 + 100 := hn2
    have hn1 : n1 ≤ n + 1 + 1 + 300 := hn1
    show SW _ _ [(F, .feed n2), (p, .dt (lkE kn L2))] _
    have hknl : kn.length ≤ 25 := by
      rw [hkn.len]
      have : rows * cols ≤ 5 * 5 := Nat.mul_le_mul (by omega) (by omega)
      omega
    refine sw_frzT (i := 5) (j := 1) (kvs := kn.map fun k => (k, D.py (.list ((L2 k).map dPt)))) rfl (by show some (p, Own.dt (lkE kn L2)) = _; unfold lkE; rw [List.map_map]; rfl) ?_
    show SW _ _ [(F, .feed n2)] _
    refine sw_seq (sw_asgW (ev_tupW (ar_consW (ev_fnF (ArD.toW (ds := [.loc F, I (cols : Int), I sc]) (ar_cons (ev_var rfl) (ar_cons (ev_var rfl) (ar_cons (ev_var rfl) ar_nil))) ⟨F, n2, [I (cols : Int), I sc], [], rfl, rfl, ((cols : Int), sc), rfl, ⟨by dsimp only; omega, by dsimp only; omega, h2, h3, by omega⟩, fun xs n3 hn3 hxs => ar_consW (ev_fnF (ArD.toW (ds := [.loc F, I (rows : Int), I sc]) (ar_cons (ev_var rfl) (ar_cons (ev_var rfl) (ar_cons (ev_var rfl) ar_nil))) ⟨F, n3, [I (rows : Int), I sc], [], rfl, rfl, ((rows : Int), sc), rfl, ⟨by dsimp only; omega, by dsimp only; omega, h2, h3, by omega⟩, fun ys n4 hn4 hys => ar_nilW ⟨[.list (xs.map PyData.int), .list (ys.map PyData.int)], rfl, Nat.le_of_ble_eq_true rfl, tg_tup rfl (tgs_cons (tg_name (tgs_cons (tg_name (tgs_nil ?_)))))⟩⟩))⟩)))))
    try simp only [startD, List.map_cons, List.map_nil, List.cons_append, List.nil_append, List.set_cons_zero, List.set_cons_succ, List.length_cons, List.length_nil, List.replicate_succ, List.replicate_zero, Nat.reduceSub, Nat.reduceAdd]
    have hsrt : (kn.mergeSort (PySem.W.dataLe false dPr)).length ≤ 25 := by rw [List.length_mergeSort]; omega
    have hlive : (liveF kn L2).length ≤ 25 := Nat.le_trans (List.length_filter_le _ _) hsrt
    have hlm : ∀ k ∈ liveF kn L2, k ∈ kn ∧ L2 k ≠ [] := fun k hk => by
      obtain ⟨h1, h2⟩ := List.mem_filter.mp hk
      exact ⟨List.mem_mergeSort.mp h1, by simpa using h2⟩
    have hlnd : (liveF kn L2).Nodup := List.Nodup.sublist List.filter_sublist ((List.Perm.nodup_iff (List.mergeSort_perm _ _)).mpr hkn.nd)
    refine sw_seq (sw_set (ev_lcL (kn.mergeSort (PySem.W.dataLe false dPr)) dPt (fun k => !decide (L2 k = [])) dPt (ev_srtDTf (ks := kn) (ev_var rfl) (by rw [List.map_map]; exact (List.map_congr_left fun _ _ => rfl).trans (List.map_id kn)) (by omega)) (to_name) (by omega) fun k hk => tg_name ⟨rfl, (ts_T (EvD.eq (ev_neD (d := .list ((L2 k).map dPt)) (e := .list []) (ev_dgetT (i := k.1) (j := k.2) (ev_var rfl) (ev_var rfl) (lk_get (List.mem_mergeSort.mp hk))) (ev_lst (ds := []) ar_nil) (shp_pts _) rfl) (by rw [eqv_nil]))), fun _ => (ev_var rfl)⟩) ?_)
    try simp only [startD, List.map_cons, List.map_nil, List.cons_append, List.nil_append, List.set_cons_zero, List.set_cons_succ, List.length_cons, List.length_nil, List.replicate_succ, List.replicate_zero, Nat.reduceSub, Nat.reduceAdd]
    refine sw_seq (sw_setW (ev_dz (ks := liveF kn L2) (ev_var rfl) hlnd (by omega) (ev_fnF (ArD.toW (ds := [.loc F, I ((liveF kn L2).length : Int)]) (ar_cons (ev_var rfl) (ar_cons ((ev_lenL (ds := (liveF kn L2).map dPt) (ev_var rfl)).eq (by rw [List.length_map])) ar_nil)) ⟨F, n4, [_], [], rfl, rfl, (liveF kn L2).length, rfl, ⟨by omega, by omega⟩, fun ns n5 hn5 hl hnd2 => ⟨ns, rfl, hl, ?_⟩⟩))))
    try simp only [startD, List.map_cons, List.map_nil, List.cons_append, List.nil_append, List.set_cons_zero, List.set_cons_succ, List.length_cons, List.length_nil, List.replicate_succ, List.replicate_zero, Nat.reduceSub, Nat.reduceAdd]
    have hL25 : ∀ x, (L2 x).length ≤ 25 := fun x => Nat.le_trans (sub_len (hL2.nd x) (m := kn) fun y hy => by
      have := (hL2.ali x y hy).2.1
      rw [hkn.mem]; unfold inG at this; omega) hknl
    have hbox : ∀ k ∈ liveF kn L2, (0 ≤ k.1 ∧ k.1.toNat < xs.length) ∧ (0 ≤ k.2 ∧ k.2.toNat < ys.length) := fun k hk => by
      have := (hkn.mem k).mp (hlm k hk).1
      have e1 : (xs.length : Int) = cols := hxs.len
      have e2 : (ys.length : Int) = rows := hys.len
      omega
    have hlt : ∀ k t, t ∈ L2 k → t ∈ liveF kn L2 := fun k t ht => by
      refine List.mem_filter.mpr ⟨List.mem_mergeSort.mpr ?_, ?_⟩
      · have := (hL2.ali k t ht).2.1
        rw [hkn.mem]; unfold inG at this; omega
      · have := hL2.sym k t ht
        have h : ¬ L2 t = [] := fun e => by rw [e] at this; cases this
        simpa using h
    refine sw_seq (sw_set ((ev_lcL (liveF kn L2) dPt (fun _ => true) (fun k => dC (numF (liveF kn L2) ns k, (xs.getD k.1.toNat 0, ys.getD k.2.toNat 0))) (ev_var rfl) (to_tup (tos_cons (h2 := (tos_cons (h2 := tos_nil))))) (by omega) fun k hk => tg_tup rfl (tgs_cons (tg_name (tgs_cons (tg_name (tgs_nil ⟨rfl, ts_yes, fun _ => (ev_tup (ds := [_, _, _]) (ar_cons (ev_dgetT (i := k.1) (j := k.2) (ev_var rfl) (ev_tup (ds := [_, _]) (ar_cons (ev_var rfl) (ar_cons (ev_var rfl) ar_nil))) (num_get hl hk)) (ar_cons (ev_ixL (ev_var rfl) (ev_var rfl) (atI_map (k := k.1.toNat) (by rw [Int.toNat_of_nonneg (hbox k hk).1.1]) (hbox k hk).1.2)) (ar_cons (ev_ixL (ev_var rfl) (ev_var rfl) (atI_map (k := k.2.toNat) (by rw [Int.toNat_of_nonneg (hbox k hk).2.1]) (hbox k hk).2.2)) ar_nil))))⟩)))))).eq (e := .py (.list ((cornersF (liveF kn L2) ns xs ys).map dC))) (by rw [fil_true]; unfold cornersF; rw [List.map_map]; rfl)) ?_)
    try simp only [startD, List.map_cons, List.map_nil, List.cons_append, List.nil_append, List.set_cons_zero, List.set_cons_succ, List.length_cons, List.length_nil, List.replicate_succ, List.replicate_zero, Nat.reduceSub, Nat.reduceAdd]
    refine sw_seq (sw_setW (ev_own0 fun sp => ?_))
    try simp only [startD, List.map_cons, List.map_nil, List.cons_append, List.nil_append, List.set_cons_zero, List.set_cons_succ, List.length_cons, List.length_nil, List.replicate_succ, List.replicate_zero, Nat.reduceSub, Nat.reduceAdd]
    refine sw_seq (sw_forL (ds := (liveF kn L2).map dPt) (ev_var rfl) (fun i Γ Ω => ∃ a, Γ = [some (.loc F), some (I 5), some (I sc), some (I (cols : Int)), some (I (rows : Int)), some (.ab (dictT (kn.map fun k => (k, D.py (.list ((L2 k).map dPt)))))), some (.py (.list (xs.map PyData.int))), some (.py (.list (ys.map PyData.int))), some (.py (.list ((liveF kn L2).map dPt))), a, some (.ab (dictT (((liveF kn L2).zip ns).map fun q => (q.1, I q.2)))), some (.py (.list ((cornersF (liveF kn L2) ns xs ys).map dC))), none, none, some (.loc sp), none] ∧ Ω = [(F, .feed n5), (sp, .lst (((((liveF kn L2).take i).flatMap (shutsAt (liveF kn L2) ns L2)).map dW).map D.py))]) ⟨none, rfl, rfl⟩ (fun i d Γ' Ω' hd J => ?_) fun Γ' Ω' J => ?_)
    · obtain ⟨a, rfl, rfl⟩ := J
      rw [List.getElem?_map] at hd
      cases e : (liveF kn L2)[i]? with
      | none => rw [e] at hd; cases hd
      | some k =>
        rw [e] at hd
        cases hd
        have hk := List.mem_of_getElem? e
        refine tg_name (sw_ext (es := (shutsAt (liveF kn L2) ns L2 k).map dW) (ev_var rfl) ((ev_lcL (L2 k) dPt (fun t => ltP k t) (fun t => dW (numF (liveF kn L2) ns k, numF (liveF kn L2) ns t)) (ev_dgetT (i := k.1) (j := k.2) (ev_var rfl) (ev_var rfl) (lk_get (hlm k hk).1)) (to_name) (by have := hL25 k; omega) fun t ht => tg_name ⟨rfl, (ts_T (ev_ltT (ns := [k.1, k.2]) (ms := [t.1, t.2]) (ev_var rfl) (ev_var rfl))), fun _ => (ev_tup (ds := [_, _]) (ar_cons (ev_dgetT (i := k.1) (j := k.2) (ev_var rfl) (ev_var rfl) (num_get hl hk)) (ar_cons (ev_dgetT (i := t.1) (j := t.2) (ev_var rfl) (ev_var rfl) (num_get hl (hlt k t ht))) ar_nil)))⟩).eq (by unfold shutsAt; rw [List.map_map]; rfl)) (j := 1) rfl ?_ ⟨_, rfl, ?_⟩)
        · have h1 := flat_len (l := (liveF kn L2).take i) (f := shutsAt (liveF kn L2) ns L2) (m := 25) fun x => shut_len (hL25 x)
          have h2 : (shutsAt (liveF kn L2) ns L2 k).length ≤ 25 := shut_len (hL25 k)
          have h3 : ((liveF kn L2).take i).length ≤ 25 := by rw [List.length_take]; omega
          have h4 : ((liveF kn L2).take i).length * 25 ≤ 25 * 25 := Nat.mul_le_mul_right _ h3
          rw [List.length_map, List.length_map, List.length_map]
          omega
        · rw [take_next e, List.flatMap_append, List.flatMap_singleton, List.map_append, List.map_append]; rfl
    · obtain ⟨a, rfl, rfl⟩ := J
      rw [List.length_map, List.take_length]
      have hsh : (shutsF (liveF kn L2) ns L2).length ≤ 625 := by
        have h1 := flat_len (l := liveF kn L2) (f := shutsAt (liveF kn L2) ns L2) (m := 25) fun x => shut_len (hL25 x)
        have h4 : (liveF kn L2).length * 25 ≤ 25 * 25 := Nat.mul_le_mul_right _ hlive
        unfold shutsF
        omega
      refine sw_frz (i := 14) (j := 1) (ds := (shutsF (liveF kn L2) ns L2).map dW) rfl rfl ?_
      refine sw_ret (ev_tup (ds := [_, _]) (ar_cons (ev_tuple (ev_srtE dC (PySem.W.dataLe false dC) (bs := cornersF (liveF kn L2) ns xs ys) (ev_var rfl) (fun a _ b _ => rfl) (fun a _ => ⟨_, _, rfl⟩) (fun a _ => Nat.le_of_ble_eq_true rfl) (by unfold cornersF; rw [List.length_map]; omega) (fun a _ b _ => rfl))) (ar_cons (ev_tuple (ev_srtE dW (PySem.W.dataLe false dW) (bs := shutsF (liveF kn L2) ns L2) (ev_var rfl) (fun a _ b _ => rfl) (fun a _ => ⟨_, _, rfl⟩) (fun a _ => Nat.le_of_ble_eq_true rfl) (by omega) (fun a _ b _ => rfl))) ar_nil))) ?_
      exact q (netG kn L2 xs ys ns) n5 (by omega) ⟨cols, rows, kn, L2, xs, ys, ns, ⟨by omega, by omega, hkn, hL2, hxs, hys, hnd2, hl⟩, rfl⟩
end
end My
end

section
set_option Elab.async false
set_option linter.all false
set_option maxRecDepth 100000
set_option maxHeartbeats 4000000
namespace My
open PySem L2 G
open PySem.W (alike)
open PyProof.Rows (envOfC)
structure NetB (n : Net) : Prop extends NetR n where
  few30 : n.1.length ≤ 30
  boxC : ∀ c ∈ n.1, (0 ≤ c.2.1 ∧ c.2.1 ≤ 1000000) ∧ (0 ≤ c.2.2 ∧ c.2.2 ≤ 1000000)
theorem spot_mem {n : Net} (hn : NetR n) {c : Corner} (hc : c ∈ n.1) : spot n c.1 = c.2 := by
  unfold spot
  rw [lookup_nd (b := c.2) hn.nd hc]; rfl
def cval (c : Corner) (r : Int) : Int := if r = 0 then c.2.1 else c.2.2
def axS (r : Int) : Str := if r = 0 then "x" else "y"
theorem atI_corner {c : Corner} {r : Int} (h0 : 0 ≤ r) (h1 : r < 2) : atI [PyData.int c.1, .int c.2.1, .int c.2.2] (1 + r) = some (.int (cval c r)) := by
  have : r = 0 ∨ r = 1 := by omega
  rcases this with rfl | rfl <;> rfl
theorem atI_xy {r : Int} (h0 : 0 ≤ r) (h1 : r < 2) : ∃ c, atI ("xy" : Str).cps.toList r = some c ∧ (⟨#[c]⟩ : Str) = axS r := by
  have : r = 0 ∨ r = 1 := by omega
  rcases this with rfl | rfl
  · exact ⟨120, rfl, rfl⟩
  · exact ⟨121, rfl, rfl⟩
theorem lay_cs : ∀ l : List Corner, PyData.canLayAll0 (l.map dC) = true ∧ PyData.depthAll (l.map dC) ≤ 3
  | [] => ⟨rfl, by decide⟩
  | a :: l => by
    obtain ⟨h1, h2⟩ := lay_cs l
    exact ⟨Bool.and_eq_true_iff.mpr ⟨rfl, h1⟩, Nat.max_le.mpr ⟨Nat.le_of_ble_eq_true rfl, h2⟩⟩
theorem shp_cs (l : List Corner) : SeqAt.shaped (.tuple (l.map dC)) = true := by
  obtain ⟨h1, h2⟩ := lay_cs l
  refine Bool.and_eq_true_iff.mpr ⟨h1, decide_eq_true ?_⟩
  have : PyData.depth (.tuple (l.map dC)) = PyData.depthAll (l.map dC) + 1 := rfl
  omega
theorem eqv_cs (l : List Corner) : PyData.eqv (.tuple (l.map dC)) (.tuple []) = decide (l = []) := by
  cases l <;> rfl
def okH (n : Net) (h : Hold) : Prop := HoldR n h ∧ holdF n h = true
theorem okH_of {n : Net} (hn : NetR n) {c d : Corner} (hc : c ∈ n.1) (hd : d ∈ n.1) {r lo hi : Int} (h0 : 0 ≤ r) (h1 : r < 2) (hlo : lo ≤ cval d r - cval c r) (hhi : cval d r - cval c r ≤ hi) (nm : Str) : okH n (nm, axS r, c.1, d.1, lo, hi) := by
  have hne : ¬ (("y" : Str) = ("x" : Str)) := by decide +kernel
  have e1 := spot_mem hn hc
  have e2 := spot_mem hn hd
  have k1 : c.1 ∈ keys n := List.mem_map_of_mem hc
  have k2 : d.1 ∈ keys n := List.mem_map_of_mem hd
  have : r = 0 ∨ r = 1 := by omega
  rcases this with rfl | rfl
  · refine ⟨⟨.inl rfl, k1, k2⟩, ?_⟩
    unfold holdF axF
    have c1 : ∀ x : Corner, cval x 0 = x.2.1 := fun x => rfl
    rw [c1, c1] at hlo hhi
    refine Bool.and_eq_true_iff.mpr ⟨decide_eq_true ?_, decide_eq_true ?_⟩
    · show lo ≤ (if ("x" : Str) = ("x" : Str) then (spot n d.1).1 else (spot n d.1).2) - (if ("x" : Str) = ("x" : Str) then (spot n c.1).1 else (spot n c.1).2)
      rw [if_pos rfl, if_pos rfl, e1, e2]; exact hlo
    · show (if ("x" : Str) = ("x" : Str) then (spot n d.1).1 else (spot n d.1).2) - (if ("x" : Str) = ("x" : Str) then (spot n c.1).1 else (spot n c.1).2) ≤ hi
      rw [if_pos rfl, if_pos rfl, e1, e2]; exact hhi
  · refine ⟨⟨.inr rfl, k1, k2⟩, ?_⟩
    unfold holdF axF
    have c1 : ∀ x : Corner, cval x 1 = x.2.2 := fun x => rfl
    rw [c1, c1] at hlo hhi
    refine Bool.and_eq_true_iff.mpr ⟨decide_eq_true ?_, decide_eq_true ?_⟩
    · show lo ≤ (if ("y" : Str) = ("x" : Str) then (spot n d.1).1 else (spot n d.1).2) - (if ("y" : Str) = ("x" : Str) then (spot n c.1).1 else (spot n c.1).2)
      rw [if_neg hne, if_neg hne, e1, e2]; exact hlo
    · show (if ("y" : Str) = ("x" : Str) then (spot n d.1).1 else (spot n d.1).2) - (if ("y" : Str) = ("x" : Str) then (spot n c.1).1 else (spot n c.1).2) ≤ hi
      rw [if_neg hne, if_neg hne, e1, e2]; exact hhi
section
variable {P : Program} {w : World} {K : PySem.W.Frag} {mg : Str → Option Value} {base : Heap} {C CP CN : Addr}
def c__law_holds : Cf := fun n ds Ψ => ∃ net : Net, ds = [.py (dNet net), I 3] ∧ (NetB net ∧ n ≤ 850000) ∧ ∀ (hs : List Hold) n', n' ≤ n + 100 → hs.length ≤ 3 → (∀ h ∈ hs, okH net h) → Ψ (.py (.tuple (hs.map dH))) n'
theorem sc__law_holds : FnScope ["_law_feed_here", "_law_net_here", "_law_most", "_law_found", "_law_name", "_law_one", "_law_other", "_law_axis", "_law_size", "_law_least", "_law_greatest"] ["_law_feed_here", "_law_net_here", "_law_most"] (defScope s__law_holds) := ⟨rfl, rfl, rfl, by decide +kernel, rfl, by decide +kernel, by decide +kernel⟩
theorem okv__law_holds : okL ["_law_net_here", "_law_found", "_law_most", "_law_feed_here", "_law_name", "_law_axis", "_law_other", "_law_one", "_law_size", "_law_least", "_law_greatest"] (defScope s__law_holds) = true := by decide +kernel
theorem okg__law_holds : okG ["_law_draw", "_law_names", "len", "max", "min", "sorted", "tuple"] (defScope s__law_holds) = true := by decide +kernel
theorem ok__law_holds (T : Tx K mg C) (F : Df K mg "_law_holds" s__law_holds ["_law_feed_here", "_law_net_here", "_law_most"]) (g__law_draw : Fn P w K mg base CX0 "_law_draw" 1 ["_law_feed_here", "_law_many"] (spF c__law_draw)) (g__law_names : Fn P w K mg base CX0 "_law_names" 2 ["_law_feed_here", "_law_many"] (spF c__law_names)) : Fn P w K mg base CX0 "_law_holds" 3 ["_law_feed_here", "_law_net_here", "_law_most"] (spF c__law_holds) :=
  have nd := sc__law_holds.nd
  fn_mk F sc__law_holds (by first | (rintro ds Ω Ψ ⟨_, _, _, rfl, _, rfl, _⟩; rfl) | (rintro ds Ω Ψ ⟨_, _, _, rfl, _, _, rfl, _⟩; rfl) | (rintro ds Ω Ψ ⟨_, _, _, rfl, _, _, _, rfl, _⟩; rfl) | (rintro ds Ω Ψ ⟨_, _, _, rfl, _, _, _, _, rfl, _⟩; rfl)) fun f cdv A outer s H E hr => by
    refine ⟨_, (pss_cons (ps_if (pt_cmpR (ope K hr.units) (pe_ix (ixt K) (pvA okv__law_holds 1 0) pe_int (fun _ _ => rfl)) (pe_tup pa_nil) (nomark _)) (pss_one (ps_ret (pe_tup pa_nil))) pss_nil) (pss_cons (ps_asg (pe_lst pa_nil) (gnA okv__law_holds nd 3 1)) (pss_cons (ps_for PassesOwn.never rfl (pi_list (pe_fn g__law_names hr (by decide) (pa_cons (pvA okv__law_holds 0 3) (pa_cons (pe_fn g__law_draw hr (by decide) (pa_cons (pvA okv__law_holds 0 3) (pa_cons (pe_op op_add (pvA okv__law_holds 2 2) pe_int) pa_nil)) (hg := glA okg__law_holds 0)) pa_nil)) (hg := glA okg__law_holds 1))) (gnA okv__law_holds nd 4 4) (pss_cons (ps_par (i := 5) (j := 6) rfl nd rfl rfl (by decide) rfl rfl (pa_cons (pe_ix (ixt K) (pe_ix (ixt K) (pvA okv__law_holds 1 0) pe_int (fun _ _ => rfl)) (pe_fn g__law_draw hr (by decide) (pa_cons (pvA okv__law_holds 0 3) (pa_cons (kb_len K T.b (pa_cons (pe_ix (ixt K) (pvA okv__law_holds 1 0) pe_int (fun _ _ => rfl)) pa_nil) (hg := glA okg__law_holds 2)) pa_nil)) (hg := glA okg__law_holds 0)) (fun _ _ => rfl)) (pa_cons (pe_ix (ixt K) (pe_ix (ixt K) (pvA okv__law_holds 1 0) pe_int (fun _ _ => rfl)) (pe_fn g__law_draw hr (by decide) (pa_cons (pvA okv__law_holds 0 3) (pa_cons (kb_len K T.b (pa_cons (pe_ix (ixt K) (pvA okv__law_holds 1 0) pe_int (fun _ _ => rfl)) pa_nil) (hg := glA okg__law_holds 2)) pa_nil)) (hg := glA okg__law_holds 0)) (fun _ _ => rfl)) pa_nil)) (by rfl)) (pss_cons (ps_asg (pe_fn g__law_draw hr (by decide) (pa_cons (pvA okv__law_holds 0 3) (pa_cons pe_int pa_nil)) (hg := glA okg__law_holds 0)) (gnA okv__law_holds nd 7 5)) (pss_cons (ps_asg (pe_op op_sub (pe_ix (ixt K) (pvA okv__law_holds 6 6) (pe_op op_add pe_int (pvA okv__law_holds 7 5)) (fun _ _ => rfl)) (pe_ix (ixt K) (pvA okv__law_holds 5 7) (pe_op op_add pe_int (pvA okv__law_holds 7 5)) (fun _ _ => rfl))) (gnA okv__law_holds nd 8 8)) (pss_cons (ps_par (i := 9) (j := 10) rfl nd rfl rfl (by decide) rfl rfl (pa_cons (pvA okv__law_holds 8 8) (pa_cons (pvA okv__law_holds 8 8) pa_nil)) (by rfl)) (pss_cons (ps_if (pt_cmpR op_eq (pe_fn g__law_draw hr (by decide) (pa_cons (pvA okv__law_holds 0 3) (pa_cons pe_int pa_nil)) (hg := glA okg__law_holds 0)) pe_int (nomark _)) (pss_cons (ps_asg (pb_max2 T.b (pa_cons (pe_un un_neg (pe_op op_pow pe_int pe_int)) (pa_cons (pe_op op_sub (pvA okv__law_holds 8 8) (pe_fn g__law_draw hr (by decide) (pa_cons (pvA okv__law_holds 0 3) (pa_cons pe_int pa_nil)) (hg := glA okg__law_holds 0))) pa_nil)) (hg := glA okg__law_holds 3)) (gnA okv__law_holds nd 9 9)) (pss_one (ps_asg (pb_min2 T.b (pa_cons (pe_op op_pow pe_int pe_int) (pa_cons (pe_op op_add (pvA okv__law_holds 8 8) (pe_fn g__law_draw hr (by decide) (pa_cons (pvA okv__law_holds 0 3) (pa_cons pe_int pa_nil)) (hg := glA okg__law_holds 0))) pa_nil)) (hg := glA okg__law_holds 4)) (gnA okv__law_holds nd 10 10)))) pss_nil) (pss_one (ps_expr (pe_bm PySem.F.plainAttrs_list PySem.F.slot_list_append PySem.F.type_list_append mt_append (pvA okv__law_holds 3 1) (pa_cons (pe_tup (pa_cons (pvA okv__law_holds 4 4) (pa_cons (pe_ix ix_str pe_str (pvA okv__law_holds 7 5) (fun _ _ => rfl)) (pa_cons (pe_ix (ixt K) (pvA okv__law_holds 5 7) pe_int (fun _ _ => rfl)) (pa_cons (pe_ix (ixt K) (pvA okv__law_holds 6 6) pe_int (fun _ _ => rfl)) (pa_cons (pvA okv__law_holds 9 9) (pa_cons (pvA okv__law_holds 10 10) pa_nil))))))) pa_nil)))))))))) (pss_one (ps_ret (pb_tuple T.b (pa_cons (pb_sorted T.b hr (pa_cons (pvA okv__law_holds 3 1) pa_nil) (hg := glA okg__law_holds 5)) pa_nil) (hg := glA okg__law_holds 6))))))), ?_⟩
    rintro ds Ω Ψ ⟨F, n, es, rfl, rfl, net, rfl, ⟨hnet, hn⟩, q⟩
    have hfew : net.1.length ≤ 30 := hnet.few30
    refine sw_seq (sw_if (ts_T (ev_eqD (d := .tuple (net.1.map dC)) (e := .tuple []) (ev_ixT (ev_var rfl) ev_int rfl) (ev_tup (ds := []) ar_nil) (shp_cs _) rfl)) (fun hb => ?_) fun hb => sw_next ?_)
    · exact sw_ret (ev_tup (ds := []) ar_nil) (q [] n (by omega) (by simp) (fun h hh => by cases hh))
    have hpos : 0 < net.1.length := by
      rw [eqv_cs] at hb
      have := of_decide_eq_false hb
      exact List.length_pos_iff.mpr this
    refine sw_seq (sw_setW (ev_own0 fun p => ?_))
    try simp only [startD, List.map_cons, List.map_nil, List.cons_append, List.nil_append, List.set_cons_zero, List.set_cons_succ, List.length_cons, List.length_nil, List.replicate_succ, List.replicate_zero, Nat.reduceSub, Nat.reduceAdd]
    refine sw_seq (sw_forLW (ev_fnF (ar_consW (EvD.toW (ev_var rfl) (ar_consW (ev_draw (many := 4) rfl ((ev_i0 (f := fun i j => i + j) (i := 3) (j := 1) (ev_var rfl) ev_int).eq rfl) ⟨by decide, by decide, by omega⟩ fun r0 hr0 hr1 => ar_nilW ⟨F, n + 1, [I r0], _, rfl, rfl, r0.toNat, by rw [Int.toNat_of_nonneg hr0], ⟨by omega, by omega⟩, fun ns hl hns => ⟨ns.map PyData.str, fun i Γ Ω => ∃ a b c d e f g hs n', Γ = [some (.loc F), some (.py (dNet net)), some (I 3), some (.loc p), a, b, c, d, e, f, g] ∧ Ω = [(F, .feed n'), (p, .lst ((hs.map dH).map D.py))] ∧ n' ≤ n + 3 + 10 * i ∧ hs.length = i ∧ ∀ h ∈ hs, okH net h, rfl, ⟨none, none, none, none, none, none, none, [], n + 1 + 2, rfl, rfl, by omega, rfl, fun h hh => by cases hh⟩, fun i x Γ' Ω' hx J => ?_, fun Γ' Ω' J => ?_⟩⟩))))))
    · obtain ⟨a, b, c, d, e, f, g, hs, n', rfl, rfl, hn', hlen, hok⟩ := J
      have hi : i < 3 := by
        have := (List.getElem?_eq_some_iff.mp hx).1
        rw [List.length_map, hl] at this
        omega
      rw [List.getElem?_map] at hx
      cases en : ns[i]? with
      | none => rw [en] at hx; cases hx
      | some nm =>
        rw [en] at hx
        cases hx
        have pick : ∀ r : Int, 0 ≤ r → r < (net.1.map dC).length → ∃ c, c ∈ net.1 ∧ atI (net.1.map dC) r = some (dC c) := fun r h0 h1 => by
          rw [List.length_map] at h1
          have h2 : r.toNat < net.1.length := by omega
          refine ⟨net.1.getD r.toNat (0, 0, 0), getD_mem h2, ?_⟩
          have := atI_mapD (f := dC) (a0 := (0, 0, 0)) h2
          rw [Int.toNat_of_nonneg h0] at this
          exact this
        have hlp : (0 : Int) < ((net.1.map dC).length : Int) := by rw [List.length_map]; omega
        have hlb : ((net.1.map dC).length : Int) < 1073741824 := by rw [List.length_map]; omega
        refine tg_name ?_
        refine sw_seq (sw_parW (ar_consW (ev_ixTW (ds := net.1.map dC) (ev_ixT (ev_var rfl) ev_int rfl) (ev_draw rfl (ev_lenT (ev_ixT (ev_var rfl) ev_int rfl)) ⟨hlp, hlb, by omega⟩ fun r1 h3 h4 => ?_))))
        try simp only [startD, List.map_cons, List.map_nil, List.cons_append, List.nil_append, List.set_cons_zero, List.set_cons_succ, List.length_cons, List.length_nil, List.replicate_succ, List.replicate_zero, Nat.reduceSub, Nat.reduceAdd]
        obtain ⟨c1, hc1, e1⟩ := pick r1 h3 h4
        refine ⟨r1, dC c1, rfl, e1, ar_consW (ev_ixTW (ds := net.1.map dC) (ev_ixT (ev_var rfl) ev_int rfl) (ev_draw rfl (ev_lenT (ev_ixT (ev_var rfl) ev_int rfl)) ⟨hlp, hlb, by omega⟩ fun r2 h5 h6 => ?_))⟩
        obtain ⟨c2, hc2, e2⟩ := pick r2 h5 h6
        refine ⟨r2, dC c2, rfl, e2, ar_nilW ⟨_, _, rfl, ?_⟩⟩
        refine sw_seq (sw_setW (ev_draw rfl ev_int ⟨by decide, by decide, by omega⟩ fun r3 h7 h8 => ?_))
        try simp only [startD, List.map_cons, List.map_nil, List.cons_append, List.nil_append, List.set_cons_zero, List.set_cons_succ, List.length_cons, List.length_nil, List.replicate_succ, List.replicate_zero, Nat.reduceSub, Nat.reduceAdd]
        refine sw_seq (sw_set (ev_i0 (ev_ixT (ev_var rfl) (ev_i0 ev_int (ev_var rfl)) (atI_corner h7 h8)) (ev_ixT (ev_var rfl) (ev_i0 ev_int (ev_var rfl)) (atI_corner h7 h8))) ?_)
        try simp only [startD, List.map_cons, List.map_nil, List.cons_append, List.nil_append, List.set_cons_zero, List.set_cons_succ, List.length_cons, List.length_nil, List.replicate_succ, List.replicate_zero, Nat.reduceSub, Nat.reduceAdd]
        have hsz : -1000000 ≤ cval c2 r3 - cval c1 r3 ∧ cval c2 r3 - cval c1 r3 ≤ 1000000 := by
          have b1 := hnet.boxC c1 hc1
          have b2 := hnet.boxC c2 hc2
          unfold cval
          split <;> omega
        have p6 : (10 : Int) ^ (6 : Int).toNat = 1000000 := by decide
        refine sw_seq (sw_par (ar_cons (ev_var rfl) (ar_cons (ev_var rfl) ar_nil)) ?_)
        try simp only [startD, List.map_cons, List.map_nil, List.cons_append, List.nil_append, List.set_cons_zero, List.set_cons_succ, List.length_cons, List.length_nil, List.replicate_succ, List.replicate_zero, Nat.reduceSub, Nat.reduceAdd]
        refine sw_seqE (α := { q : Int × Int × Nat // q.1 ≤ cval c2 r3 - cval c1 r3 ∧ cval c2 r3 - cval c1 r3 ≤ q.2.1 ∧ q.2.2 ≤ n' + 6 }) (fun q => [some (.loc F), some (.py (dNet net)), some (I 3), some (.loc p), some (S nm), some (.py (dC c1)), some (.py (dC c2)), some (I r3), some (I (cval c2 r3 - cval c1 r3)), some (I q.1.1), some (I q.1.2.1)]) (fun q => [(F, .feed q.1.2.2), (p, .lst ((hs.map dH).map D.py))]) (sw_ifW (ts_TW (ev_eqIW (ev_draw rfl ev_int ⟨by decide, by decide, by omega⟩ fun r4 _ _ => ⟨r4, rfl, EvD.toW ev_int ⟨0, rfl, _, rfl, ?_⟩⟩)))) fun ⟨⟨lo, hi, n2⟩, hlo, hhi, hn2⟩ => ?_
        · split
          · refine sw_seq (sw_setW (ev_max2W (EvD.toW (ev_neg (ev_iC ev_int ev_int ⟨by decide, by decide, by decide⟩)) ⟨_, rfl, ev_i0W (EvD.toW (ev_var rfl) ⟨_, rfl, ev_draw rfl ev_int ⟨by decide, by decide, by omega⟩ fun r5 h9 h10 => ⟨r5, rfl, _, rfl, ?_⟩⟩)⟩)))
            refine sw_setW (ev_min2W (EvD.toW (ev_iC ev_int ev_int ⟨by decide, by decide, by decide⟩) ⟨_, rfl, ev_i0W (EvD.toW (ev_var rfl) ⟨_, rfl, ev_draw rfl ev_int ⟨by decide, by decide, by omega⟩ fun r6 h11 h12 => ⟨r6, rfl, _, rfl, ⟨(_, _, _), ?_, ?_, ?_⟩, rfl, rfl⟩⟩)⟩))
            · dsimp only; rw [p6]; omega
            · dsimp only; rw [p6]; omega
            · dsimp only; omega
          · exact sw_next ⟨⟨(_, _, _), by dsimp only; omega, by dsimp only; omega, by dsimp only; omega⟩, rfl, rfl⟩
        · obtain ⟨c, hc, hcs⟩ := atI_xy h7 h8
          refine sw_app (ev_var rfl) ((ev_tup (ds := [_, _, _, _, _, _]) (ar_cons (ev_var rfl) (ar_cons (ev_ixS ev_str (ev_var rfl) (by decide +kernel) hc) (ar_cons (ev_ixT (ev_var rfl) ev_int rfl) (ar_cons (ev_ixT (ev_var rfl) ev_int rfl) (ar_cons (ev_var rfl) (ar_cons (ev_var rfl) ar_nil))))))).eq (e := .py (dH (nm, axS r3, c1.1, c2.1, lo, hi))) (by rw [hcs])) (j := 1) rfl (by rw [List.length_map, List.length_map]; omega) ⟨_, _, _, _, _, _, _, hs ++ [(nm, axS r3, c1.1, c2.1, lo, hi)], n2, rfl, ?_, by dsimp only at hn2; omega, by rw [List.length_append, hlen]; rfl, fun h hh => ?_⟩
          · rw [List.map_append, List.map_append]; rfl
          · rcases List.mem_append.mp hh with hh | hh
            · exact hok h hh
            · rw [List.mem_singleton.mp hh]
              exact okH_of hnet.toNetR hc1 hc2 h7 h8 hlo hhi nm
    · obtain ⟨a, b, c, d, e, f, g, hs, n', rfl, rfl, hn', hlen, hok⟩ := J
      rw [List.length_map, hl] at hn' hlen
      have h3 : hs.length ≤ 3 := by omega
      refine sw_frz (i := 3) (j := 1) (ds := hs.map dH) rfl rfl ?_
      refine sw_ret (ev_tuple (ev_srtE dH (PySem.W.dataLe false dH) (bs := hs) (ev_var rfl) (fun a _ b _ => rfl) (fun a _ => ⟨_, _, rfl⟩) (fun a _ => Nat.le_of_ble_eq_true rfl) (by omega) (fun a _ b _ => rfl))) (q _ n' (by omega) (by rw [List.length_mergeSort]; exact h3) fun h hh => hok h (List.mem_mergeSort.mp hh))
end
end My
end

section
set_option Elab.async false
set_option linter.all false
set_option maxRecDepth 100000
set_option maxHeartbeats 4000000
namespace My
open PySem L2 G
open PySem.W (alike)
open PyProof.Rows (envOfC)
/-- a net whose walls are unlike and go forward -/
structure NetW (n : Net) : Prop extends NetB n where
  ndW : n.2.Nodup
  neW : ∀ w ∈ n.2, w.1 ≠ w.2
  few2 : n.2.length ≤ 100
  long : ∀ w ∈ n.2, 0 < lengthF (endsF n w) ∧ lengthF (endsF n w) ≤ 1000000
/-- an opening as the law draws them: its stretch is (s, s + width) -/
structure OpG (n : Net) (o : Opening) (s : Int) : Prop where
  wall : o.2.2.1 ∈ n.2
  end_ : o.2.2.2.1 = o.2.2.1.1 ∧ o.2.2.2.2.1 = s ∨ o.2.2.2.1 = o.2.2.1.2 ∧ o.2.2.2.2.1 = lengthF (endsF n o.2.2.1) - s - o.2.2.2.2.2
  pos : 0 ≤ s
  width : 1 ≤ o.2.2.2.2.2
  fits : s + o.2.2.2.2.2 ≤ lengthF (endsF n o.2.2.1)
theorem OpG.span {n : Net} {o : Opening} {s : Int} (hn : NetW n) (h : OpG n o s) : spanF n o = (s, s + o.2.2.2.2.2) := by
  have hne := hn.neW _ h.wall
  unfold spanF
  rcases h.end_ with ⟨e1, e2⟩ | ⟨e1, e2⟩
  · rw [if_pos e1, e2]
  · rw [if_neg (by rw [e1]; exact fun e => hne e.symm), e2]
    refine Prod.ext ?_ ?_
    · show _ = s; dsimp only; omega
    · show _ = s + _; dsimp only; omega
theorem OpG.alone {n : Net} {o : Opening} {s : Int} (h : OpG n o s) : aloneF n o = true := by
  unfold aloneF
  have := h.pos
  have := h.fits
  rcases h.end_ with ⟨e1, e2⟩ | ⟨e1, e2⟩ <;> rw [e2] <;> exact decide_eq_true (by omega)
theorem OpG.at {n : Net} {o : Opening} {s : Int} (hn : NetW n) (h : OpG n o s) : oblAt n o = s := by
  have hne := hn.neW _ h.wall
  unfold oblAt
  rcases h.end_ with ⟨e1, e2⟩ | ⟨e1, e2⟩
  · rw [if_neg (by rw [e1]; exact hne), e2]
  · rw [if_pos e1, e2]; omega
/-- the openings so far: those of wall wl end by here -/
structure OpsI (n : Net) (os : List Opening) (wl : Wall) (here : Int) : Prop where
  all : ∀ o ∈ os, ∃ s, OpG n o s ∧ (o.2.2.1 = wl → s + o.2.2.2.2.2 ≤ here)
  apart : ∀ a ∈ os, ∀ b ∈ os, a ≠ b → apartF n a b = true
theorem OpsI.add {n : Net} {os : List Opening} {wl : Wall} {here : Int} (hn : NetW n) (h : OpsI n os wl here) {o : Opening} {s : Int} (ho : OpG n o s) (hw : o.2.2.1 = wl) (hs : here ≤ s) : OpsI n (os ++ [o]) wl (s + o.2.2.2.2.2) := by
  have one : ∀ a ∈ os, apartF n a o = true ∧ apartF n o a = true := fun a ha => by
    obtain ⟨s', h1, h2⟩ := h.all a ha
    unfold apartF
    by_cases e : a.2.2.1 = o.2.2.1
    · rw [if_pos e, if_pos e.symm, h1.span hn, ho.span hn]
      have := h2 (e.trans hw)
      exact ⟨Bool.or_eq_true_iff.mpr (.inl (decide_eq_true (by show s' + _ ≤ s; omega))), Bool.or_eq_true_iff.mpr (.inr (decide_eq_true (by show s' + _ ≤ s; omega)))⟩
    · rw [if_neg e, if_neg fun h => e h.symm]
      exact ⟨rfl, rfl⟩
  have hwid := ho.width
  refine ⟨fun a ha => ?_, fun a ha b hb hab => ?_⟩
  · rcases List.mem_append.mp ha with ha | ha
    · obtain ⟨s', h1, h2⟩ := h.all a ha
      exact ⟨s', h1, fun e => by have := h2 e; omega⟩
    · rw [List.mem_singleton.mp ha]
      exact ⟨s, ho, fun _ => Int.le_refl _⟩
  · rcases List.mem_append.mp ha with ha | ha <;> rcases List.mem_append.mp hb with hb | hb
    · exact h.apart a ha b hb hab
    · rw [List.mem_singleton.mp hb]; exact (one a ha).1
    · rw [List.mem_singleton.mp ha]; exact (one b hb).2
    · rw [List.mem_singleton.mp ha, List.mem_singleton.mp hb] at hab
      exact absurd rfl hab
structure OpsG (n : Net) (os : List Opening) : Prop where
  all : ∀ o ∈ os, ∃ s, OpG n o s
  apart : ∀ a ∈ os, ∀ b ∈ os, a ≠ b → apartF n a b = true
theorem OpsI.start {n : Net} {os : List Opening} {k : Nat} {wl : Wall} (hn : NetW n) (h : OpsG n os) (ht : ∀ o ∈ os, o.2.2.1 ∈ n.2.take k) (hw : n.2[k]? = some wl) : OpsI n os wl 0 := by
  refine ⟨fun o ho => ?_, h.apart⟩
  obtain ⟨s, hs⟩ := h.all o ho
  refine ⟨s, hs, fun e => ?_⟩
  have h1 := ht o ho
  rw [e] at h1
  obtain ⟨i, hi⟩ := List.getElem?_of_mem h1
  have hik : i < k := by
    have := (List.getElem?_eq_some_iff.mp hi).1
    rw [List.length_take] at this; omega
  rw [List.getElem?_take_of_lt hik] at hi
  exact absurd (L2.nd_ix hn.ndW hi hw) (by omega)
section
variable {P : Program} {w : World} {K : PySem.W.Frag} {mg : Str → Option Value} {base : Heap} {C CP CN : Addr}
def c__law_openings : Cf := fun n ds Ψ => ∃ net : Net, ds = [.py (dNet net), I 9] ∧ (NetW net ∧ n ≤ 850000) ∧ ∀ (os : List Opening) n', n' ≤ n + 2500 → os.length ≤ 9 → OpsG net os → Ψ (.py (.tuple (os.map dO))) n'
theorem sc__law_openings : FnScope ["_law_feed_here", "_law_net_here", "_law_most", "_law_found", "_law_names_here", "_law_shut", "_law_here", "_law_length_here", "_law_turn", "_law_size", "_law_end", "_law_at"] ["_law_feed_here", "_law_net_here", "_law_most"] (defScope s__law_openings) := ⟨rfl, rfl, rfl, by decide +kernel, rfl, by decide +kernel, by decide +kernel⟩
theorem okv__law_openings : okL ["_law_found", "_law_feed_here", "_law_names_here", "_law_net_here", "_law_shut", "_law_here", "_law_length_here", "_law_turn", "_law_size", "_law_most", "_law_at", "_law_end"] (defScope s__law_openings) = true := by decide +kernel
theorem okg__law_openings : okG ["_law_names", "_law_length", "range", "max", "_law_draw", "len", "sorted", "tuple"] (defScope s__law_openings) = true := by decide +kernel
theorem ok__law_openings (T : Tx K mg C) (F : Df K mg "_law_openings" s__law_openings ["_law_feed_here", "_law_net_here", "_law_most"]) (g__law_draw : Fn P w K mg base CX0 "_law_draw" 1 ["_law_feed_here", "_law_many"] (spF c__law_draw)) (g__law_length : Fn P w K mg base CX0 "_law_length" 2 ["_law_net_here", "_law_shut"] (spP c__law_length)) (g__law_names : Fn P w K mg base CX0 "_law_names" 2 ["_law_feed_here", "_law_many"] (spF c__law_names)) : Fn P w K mg base CX0 "_law_openings" 3 ["_law_feed_here", "_law_net_here", "_law_most"] (spF c__law_openings) :=
  have nd := sc__law_openings.nd
  fn_mk F sc__law_openings (by first | (rintro ds Ω Ψ ⟨_, _, _, rfl, _, rfl, _⟩; rfl) | (rintro ds Ω Ψ ⟨_, _, _, rfl, _, _, rfl, _⟩; rfl) | (rintro ds Ω Ψ ⟨_, _, _, rfl, _, _, _, rfl, _⟩; rfl) | (rintro ds Ω Ψ ⟨_, _, _, rfl, _, _, _, _, rfl, _⟩; rfl)) fun f cdv A outer s H E hr => by
    refine ⟨_, (pss_cons (ps_asg (pe_lst pa_nil) (gnA okv__law_openings nd 3 0)) (pss_cons (ps_asg (pe_fn g__law_names hr (by decide) (pa_cons (pvA okv__law_openings 0 1) (pa_cons pe_int pa_nil)) (hg := glA okg__law_openings 0)) (gnA okv__law_openings nd 4 2)) (pss_cons (ps_for PassesOwn.never rfl (pi_tup (pe_ix (ixt K) (pvA okv__law_openings 1 3) pe_int (fun _ _ => rfl))) (gnA okv__law_openings nd 5 4) (pss_cons (ps_asg pe_int (gnA okv__law_openings nd 6 5)) (pss_cons (ps_asg (pe_fn g__law_length hr (by decide) (pa_cons (pvA okv__law_openings 1 3) (pa_cons (pvA okv__law_openings 5 4) pa_nil)) (hg := glA okg__law_openings 1)) (gnA okv__law_openings nd 7 6)) (pss_one (ps_for PassesOwn.never rfl (pi_range1 (glA okg__law_openings 2) T.b.range (pa_cons pe_int pa_nil)) (gnA okv__law_openings nd 8 7) (pss_cons (ps_asg (pe_op op_add pe_int (pe_fn g__law_draw hr (by decide) (pa_cons (pvA okv__law_openings 0 1) (pa_cons (pe_ix (ixl K) (pe_lst (pa_cons pe_int (pa_cons (pb_max2 T.b (pa_cons pe_int (pa_cons (pe_op op_fdiv (pvA okv__law_openings 7 6) pe_int) pa_nil)) (hg := glA okg__law_openings 3)) pa_nil))) (pe_fn g__law_draw hr (by decide) (pa_cons (pvA okv__law_openings 0 1) (pa_cons pe_int pa_nil)) (hg := glA okg__law_openings 4)) (fun _ _ => rfl)) pa_nil)) (hg := glA okg__law_openings 4))) (gnA okv__law_openings nd 9 8)) (pss_cons (ps_asg (pe_op op_add (pvA okv__law_openings 6 5) (pe_fn g__law_draw hr (by decide) (pa_cons (pvA okv__law_openings 0 1) (pa_cons pe_int pa_nil)) (hg := glA okg__law_openings 4))) (gnA okv__law_openings nd 6 5)) (pss_one (ps_if (PW.pt (pw_and (pt_cmpR op_le (pe_op op_add (pvA okv__law_openings 6 5) (pvA okv__law_openings 9 8)) (pvA okv__law_openings 7 6) (nomark _)) (pw_and (pt_cmpR op_lt (kb_len K T.b (pa_cons (pvA okv__law_openings 3 0) pa_nil) (hg := glA okg__law_openings 5)) (pvA okv__law_openings 2 9) (nomark _)) (pw_and1 (pt_cmpR op_eq (pe_fn g__law_draw hr (by decide) (pa_cons (pvA okv__law_openings 0 1) (pa_cons pe_int pa_nil)) (hg := glA okg__law_openings 4)) pe_int (nomark _)))))) (pss_cons (ps_par (i := 10) (j := 11) rfl nd rfl rfl (by decide) rfl rfl (pa_cons (pe_ix (ixt K) (pvA okv__law_openings 5 4) pe_int (fun _ _ => rfl)) (pa_cons (pvA okv__law_openings 6 5) pa_nil)) (by rfl)) (pss_cons (ps_if (pt_cmpR op_eq (pe_fn g__law_draw hr (by decide) (pa_cons (pvA okv__law_openings 0 1) (pa_cons pe_int pa_nil)) (hg := glA okg__law_openings 4)) pe_int (nomark _)) (pss_one (ps_par (i := 10) (j := 11) rfl nd rfl rfl (by decide) rfl rfl (pa_cons (pe_ix (ixt K) (pvA okv__law_openings 5 4) pe_int (fun _ _ => rfl)) (pa_cons (pe_op op_sub (pe_op op_sub (pvA okv__law_openings 7 6) (pvA okv__law_openings 6 5)) (pvA okv__law_openings 9 8)) pa_nil)) (by rfl))) pss_nil) (pss_cons (ps_expr (pe_bm PySem.F.plainAttrs_list PySem.F.slot_list_append PySem.F.type_list_append mt_append (pvA okv__law_openings 3 0) (pa_cons (pe_tup (pa_cons (pe_ix (ixl K) (pvA okv__law_openings 4 2) (kb_len K T.b (pa_cons (pvA okv__law_openings 3 0) pa_nil) (hg := glA okg__law_openings 5)) (fun _ _ => rfl)) (pa_cons (pe_ix (ixl K) (pe_lst (pa_cons pe_str (pa_cons pe_str pa_nil))) (pe_op op_fdiv (pe_fn g__law_draw hr (by decide) (pa_cons (pvA okv__law_openings 0 1) (pa_cons pe_int pa_nil)) (hg := glA okg__law_openings 4)) pe_int) (fun _ _ => rfl)) (pa_cons (pvA okv__law_openings 5 4) (pa_cons (pvA okv__law_openings 10 11) (pa_cons (pvA okv__law_openings 11 10) (pa_cons (pvA okv__law_openings 9 8) pa_nil))))))) pa_nil))) (pss_one (ps_asg (pe_op op_add (pvA okv__law_openings 6 5) (pvA okv__law_openings 9 8)) (gnA okv__law_openings nd 6 5)))))) pss_nil))))))))) (pss_one (ps_ret (pb_tuple T.b (pa_cons (pb_sorted T.b hr (pa_cons (pvA okv__law_openings 3 0) pa_nil) (hg := glA okg__law_openings 6)) pa_nil) (hg := glA okg__law_openings 7))))))), ?_⟩
    rintro ds Ω Ψ ⟨F, n, es, rfl, rfl, net, rfl, ⟨hnet, hn⟩, q⟩
    refine sw_seq (sw_setW (ev_own0 fun p => ?_))
    try simp only [startD, List.map_cons, List.map_nil, List.cons_append, List.nil_append, List.set_cons_zero, List.set_cons_succ, List.length_cons, List.length_nil, List.replicate_succ, List.replicate_zero, Nat.reduceSub, Nat.reduceAdd]
    refine sw_seq (sw_setW (ev_fnF (ArD.toW (ds := [.loc F, I 41]) (ar_cons (ev_var rfl) (ar_cons ev_int ar_nil)) ⟨F, n, [I 41], [(p, .lst [])], rfl, rfl, 41, rfl, ⟨by omega, by omega⟩, fun ns hl hns => ?_⟩)))
    try simp only [startD, List.map_cons, List.map_nil, List.cons_append, List.nil_append, List.set_cons_zero, List.set_cons_succ, List.length_cons, List.length_nil, List.replicate_succ, List.replicate_zero, Nat.reduceSub, Nat.reduceAdd]
    refine sw_seq (sw_forT (ds := net.2.map dW) (ev_ixT (ev_var rfl) ev_int rfl) (fun k Γ Ω => ∃ a b c d e f g os n', Γ = [some (.loc F), some (.py (dNet net)), some (I 9), some (.loc p), some (.py (.list (ns.map PyData.str))), a, b, c, d, e, f, g] ∧ Ω = [(F, .feed n'), (p, .lst ((os.map dO).map D.py))] ∧ n' ≤ n + 2 + 20 * k ∧ os.length ≤ 9 ∧ OpsG net os ∧ ∀ o ∈ os, o.2.2.1 ∈ net.2.take k) ⟨none, none, none, none, none, none, none, [], n + 2, rfl, rfl, by omega, by simp, ⟨fun o h => (nomatch h), fun a h => (nomatch h)⟩, fun o h => (nomatch h)⟩ (fun k x Γ' Ω' hx J => ?_) fun Γ' Ω' J => ?_)
    · obtain ⟨a, b, c, d, e, f, g, os, n', rfl, rfl, hn', hos, hG, ht⟩ := J
      rw [List.getElem?_map] at hx
      cases ek : net.2[k]? with
      | none => rw [ek] at hx; cases hx
      | some wl =>
        rw [ek] at hx
        cases hx
        have hwl := List.mem_of_getElem? ek
        have hk : k < 100 := Nat.lt_of_lt_of_le (List.getElem?_eq_some_iff.mp ek).1 hnet.few2
        have hI := OpsI.start hnet hG ht ek
        have hlen := hnet.long wl hwl
        refine tg_name ?_
        refine sw_seq (sw_set ev_int ?_)
        try simp only [startD, List.map_cons, List.map_nil, List.cons_append, List.nil_append, List.set_cons_zero, List.set_cons_succ, List.length_cons, List.length_nil, List.replicate_succ, List.replicate_zero, Nat.reduceSub, Nat.reduceAdd]
        refine sw_seq (sw_set (ev_fn (ar_cons (ev_var rfl) (ar_cons (ev_var rfl) ar_nil)) fun Ψ q => ⟨net, wl, rfl, ⟨hnet.toNetR, hnet.ends wl hwl⟩, q⟩) ?_)
        try simp only [startD, List.map_cons, List.map_nil, List.cons_append, List.nil_append, List.set_cons_zero, List.set_cons_succ, List.length_cons, List.length_nil, List.replicate_succ, List.replicate_zero, Nat.reduceSub, Nat.reduceAdd]
        have tk : ∀ o : Opening, o.2.2.1 ∈ net.2.take k → o.2.2.1 ∈ net.2.take (k + 1) := fun o ho => by
          rw [take_next ek]; exact List.mem_append_left _ ho
        refine sw_forR (n := 2) (ar_cons ev_int ar_nil) (by omega) (by omega) (fun i Γ Ω => ∃ d e f g os n' here, Γ = [some (.loc F), some (.py (dNet net)), some (I 9), some (.loc p), some (.py (.list (ns.map PyData.str))), some (.py (dW wl)), some (I here), some (I (lengthF (endsF net wl))), d, e, f, g] ∧ Ω = [(F, .feed n'), (p, .lst ((os.map dO).map D.py))] ∧ (n' ≤ n + 2 + 20 * k + 10 * i ∧ os.length ≤ 9 ∧ 0 ≤ here) ∧ OpsI net os wl here ∧ ∀ o ∈ os, o.2.2.1 ∈ net.2.take (k + 1)) ⟨_, _, _, _, os, n', 0, rfl, rfl, ⟨by omega, hos, by omega⟩, hI, fun o ho => tk o (ht o ho)⟩ (fun i Γ' Ω' hi J => ?_) fun Γ' Ω' J => ?_
        · obtain ⟨d, e, f, g, os, n', here, rfl, rfl, ⟨h1, h2, h3⟩, hI, ht⟩ := J
          have hi2 : i < 2 := by omega
          refine tg_name ?_
          refine sw_seq (sw_setW (ev_i0W (EvD.toW ev_int ⟨1, rfl, ev_drawW rfl (ev_ixLW (ds := [.int 3, .int (max 1 (lengthF (endsF net wl) / 2))]) (ev_lst (ds := [_, _]) (ar_cons ev_int (ar_cons (ev_max2 ev_int (ev_iC (ev_var rfl) ev_int ⟨by decide, by decide⟩)) ar_nil))) (ev_draw rfl ev_int ⟨by decide, by decide, by omega⟩ fun r0 h4 h5 => ⟨r0, .int (if r0 = 0 then 3 else max 1 (lengthF (endsF net wl) / 2)), rfl, ?_, _, n' + 1, _, rfl, rfl, ?_, fun r1 h6 h7 => ⟨r1, rfl, ?_⟩⟩))⟩)))
          try simp only [startD, List.map_cons, List.map_nil, List.cons_append, List.nil_append, List.set_cons_zero, List.set_cons_succ, List.length_cons, List.length_nil, List.replicate_succ, List.replicate_zero, Nat.reduceSub, Nat.reduceAdd]
          · have : r0 = 0 ∨ r0 = 1 := by omega
            rcases this with rfl | rfl <;> rfl
          · refine ⟨?_, ?_, by omega⟩ <;> split <;> omega
          refine sw_seq (sw_setW (ev_i0W (EvD.toW (ev_var rfl) ⟨_, rfl, ev_draw rfl ev_int ⟨by decide, by decide, by omega⟩ fun r2 h8 h9 => ⟨r2, rfl, ?_⟩⟩)))
          try simp only [startD, List.map_cons, List.map_nil, List.cons_append, List.nil_append, List.set_cons_zero, List.set_cons_succ, List.length_cons, List.length_nil, List.replicate_succ, List.replicate_zero, Nat.reduceSub, Nat.reduceAdd]
          refine sw_ifW (TsW.imp (Q := fun b Ω1 => ∃ n2, n2 ≤ n' + 4 ∧ Ω1 = [(F, .feed n2), (p, .lst ((os.map dO).map D.py))] ∧ (b = true → here + r2 + (1 + r1) ≤ lengthF (endsF net wl) ∧ os.length < 9)) (ts_andW (TsD.toW (ts_T (ev_iB (ev_i0 (ev_var rfl) (ev_var rfl)) (ev_var rfl))) ?_)) fun b Ω1 ⟨n2, hn2, e2, hb⟩ => ?_)
          · split
            · rename_i hc1
              have hc1 := of_decide_eq_true hc1
              refine ts_andW (TsD.toW (ts_T (ev_iB (ev_lenO (ev_var rfl) (j := 1) rfl) (ev_var rfl))) ?_)
              split
              · rename_i hc2
                have hc2 := of_decide_eq_true hc2
                rw [List.length_map, List.length_map] at hc2
                have hc3 : os.length < 9 := by have : ((os.length : Nat) : Int) < 9 := hc2; omega
                exact ts_TW (ev_eqIW (ev_draw rfl ev_int ⟨by decide, by decide, by omega⟩ fun r3 _ _ => ⟨r3, rfl, EvD.toW ev_int ⟨0, rfl, _, rfl, n' + 1 + 1 + 1 + 1, by omega, rfl, fun _ => ⟨hc1, hc3⟩⟩⟩))
              · exact ⟨n' + 1 + 1 + 1, by omega, rfl, fun h => (nomatch h)⟩
            · exact ⟨n' + 1 + 1 + 1, by omega, rfl, fun h => (nomatch h)⟩
          · subst e2
            split
            · rename_i hbt
              obtain ⟨hb1, hb2⟩ := hb hbt
              refine sw_seq (sw_par (ar_cons (ev_ixT (ev_var rfl) ev_int rfl) (ar_cons (ev_var rfl) ar_nil)) ?_)
              try simp only [startD, List.map_cons, List.map_nil, List.cons_append, List.nil_append, List.set_cons_zero, List.set_cons_succ, List.length_cons, List.length_nil, List.replicate_succ, List.replicate_zero, Nat.reduceSub, Nat.reduceAdd]
              refine sw_seqE (α := { q : Int × Int × Nat // (q.1 = wl.1 ∧ q.2.1 = here + r2 ∨ q.1 = wl.2 ∧ q.2.1 = lengthF (endsF net wl) - (here + r2) - (1 + r1)) ∧ q.2.2 ≤ n' + 5 }) (fun q => [some (.loc F), some (.py (dNet net)), some (I 9), some (.loc p), some (.py (.list (ns.map PyData.str))), some (.py (dW wl)), some (I (here + r2)), some (I (lengthF (endsF net wl))), some (I (i : Int)), some (I (1 + r1)), some (I q.1.1), some (I q.1.2.1)]) (fun q => [(F, .feed q.1.2.2), (p, .lst ((os.map dO).map D.py))]) (sw_ifW (ts_TW (ev_eqIW (ev_draw rfl ev_int ⟨by decide, by decide, by omega⟩ fun r4 _ _ => ⟨r4, rfl, EvD.toW ev_int ⟨0, rfl, _, rfl, ?_⟩⟩)))) fun ⟨⟨en, at_, n3⟩, hea, hn3⟩ => ?_
              · split
                · exact sw_par (ar_cons (ev_ixT (ev_var rfl) ev_int rfl) (ar_cons (ev_i0 (ev_i0 (ev_var rfl) (ev_var rfl)) (ev_var rfl)) ar_nil)) ⟨⟨(_, _, _), .inr ⟨rfl, rfl⟩, by dsimp only; omega⟩, rfl, rfl⟩
                · exact sw_next ⟨⟨(_, _, _), .inl ⟨rfl, rfl⟩, by dsimp only; omega⟩, rfl, rfl⟩
              · have hos2 : ((os.map dO).map D.py).length = os.length := by rw [List.length_map, List.length_map]
                have hn3 : n3 ≤ n' + 5 := hn3
                have hea : en = wl.1 ∧ at_ = here + r2 ∨ en = wl.2 ∧ at_ = lengthF (endsF net wl) - (here + r2) - (1 + r1) := hea
                show SW _ [some (.loc F), some (.py (dNet net)), some (I 9), some (.loc p), some (.py (.list (ns.map PyData.str))), some (.py (dW wl)), some (I (here + r2)), some (I (lengthF (endsF net wl))), some (I (i : Int)), some (I (1 + r1)), some (I en), some (I at_)] [(F, .feed n3), (p, .lst ((os.map dO).map D.py))] _
                refine sw_seq (sw_appW (ev_var rfl) (j0 := 1) rfl (ev_tupW (ar_consW (EvD.toW (ev_ixL (ev_var rfl) (ev_lenO (ev_var rfl) (j := 1) rfl) (atI_str (k := os.length) (by rw [hos2]) (by omega))) (ar_consW (ev_ixLW (ds := [.str "door", .str "window"]) (ev_lst (ds := [_, _]) (ar_cons ev_str (ar_cons ev_str ar_nil))) (ev_iCW (ev_draw rfl ev_int ⟨by decide, by decide, by omega⟩ fun r5 h10 h11 => ⟨r5, rfl, EvD.toW ev_int ⟨2, rfl, ⟨by decide, by decide⟩, r5 / 2, .str (if r5 = 2 then "window" else "door"), rfl, ?_, ArD.toW (ds := [.py (dW wl), I en, I at_, I (1 + r1)]) (ar_cons (ev_var rfl) (ar_cons (ev_var rfl) (ar_cons (ev_var rfl) (ar_cons (ev_var rfl) ar_nil)))) ⟨[_, _, _, _, _, _], rfl, Nat.le_of_ble_eq_true rfl, 1, _, rfl, by rw [hos2]; omega, ?_⟩⟩⟩))))))))
                · have : r5 = 0 ∨ r5 = 1 ∨ r5 = 2 := by omega
                  rcases this with rfl | rfl | rfl <;> rfl
                · refine sw_set (ev_i0 (ev_var rfl) (ev_var rfl)) ?_
                  have hO : OpG net (ns.getD os.length "", (if r5 = 2 then "window" else "door" : Str), wl, en, at_, 1 + r1) (here + r2) := ⟨hwl, hea, by omega, by show 1 ≤ 1 + r1; omega, hb1⟩
                  refine ⟨_, _, _, _, os ++ [(ns.getD os.length "", (if r5 = 2 then "window" else "door" : Str), wl, en, at_, 1 + r1)], n3 + 1, here + r2 + (1 + r1), rfl, ?_, ⟨by omega, by rw [List.length_append]; simp; omega, by omega⟩, ?_, fun o ho => ?_⟩
                  · rw [List.map_append, List.map_append]; rfl
                  · exact OpsI.add hnet hI hO rfl (by omega)
                  · rcases List.mem_append.mp ho with ho | ho
                    · exact ht o ho
                    · rw [List.mem_singleton.mp ho, take_next ek]
                      exact List.mem_append_right _ (List.mem_singleton.mpr rfl)
            · exact sw_next ⟨_, _, _, _, os, n2, here + r2, rfl, rfl, ⟨by omega, h2, by omega⟩, ⟨fun o ho => (hI.all o ho).imp fun s h => ⟨h.1, fun e => by have := h.2 e; omega⟩, hI.apart⟩, ht⟩
        · obtain ⟨d, e, f, g, os, n', here, rfl, rfl, ⟨h1, h2, h3⟩, hI, ht⟩ := J
          exact ⟨_, _, _, _, _, _, _, os, n', rfl, rfl, by simp at h1; omega, h2, ⟨fun o ho => (hI.all o ho).imp fun s h => h.1, hI.apart⟩, ht⟩
    · obtain ⟨a, b, c, d, e, f, g, os, n', rfl, rfl, hn', hos, hG, ht⟩ := J
      rw [List.length_map] at hn'
      have := hnet.few2
      refine sw_frz (i := 3) (j := 1) (ds := os.map dO) rfl rfl ?_
      refine sw_ret (ev_tuple (ev_srtE dO (PySem.W.dataLe false dO) (bs := os) (ev_var rfl) (fun a _ b _ => rfl) (fun a _ => ⟨_, _, rfl⟩) (fun a _ => Nat.le_of_ble_eq_true rfl) (by omega) (fun a _ b _ => rfl))) (q _ n' (by omega) (by rw [List.length_mergeSort]; exact hos) ⟨fun o ho => hG.all o (List.mem_mergeSort.mp ho), fun a ha b hb => hG.apart a (List.mem_mergeSort.mp ha) b (List.mem_mergeSort.mp hb)⟩)
end
end My
end

section
set_option Elab.async false
set_option linter.all false
set_option maxRecDepth 100000
set_option maxHeartbeats 4000000
namespace Tp
abbrev Pt := Int × Int
abbrev Sd := Int × Int
def way (p q : Pt) : Int := if p.2 = q.2 then 2 * (if q.1 < p.1 then 1 else 0) else 1 + 2 * (if q.2 < p.2 then 1 else 0)
/-- sides by numbers, their spots -/
structure Geo (P : Int → Pt) (S : Sd → Prop) : Prop where
  sym : ∀ s, S s → S (s.2, s.1)
  ali : ∀ s, S s → (P s.1).1 = (P s.2).1 ∧ (P s.1).2 ≠ (P s.2).2 ∨ (P s.1).2 = (P s.2).2 ∧ (P s.1).1 ≠ (P s.2).1
  box : ∀ s, S s → 0 ≤ (P s.1).1 ∧ 0 ≤ (P s.1).2
  inj : ∀ s t, S s → S t → P s.1 = P t.1 → s.1 = t.1
  in1 : ∀ s t, S s → S t → (P s.1).1 = (P s.2).1 → (P t.1).1 = (P s.1).1 → ¬ ((P s.1).2 < (P t.1).2 ∧ (P t.1).2 < (P s.2).2)
  in2 : ∀ s t, S s → S t → (P s.1).2 = (P s.2).2 → (P t.1).2 = (P s.1).2 → ¬ ((P s.1).1 < (P t.1).1 ∧ (P t.1).1 < (P s.2).1)
  crs : ∀ s t, S s → S t → (P s.1).1 = (P s.2).1 → (P t.1).2 = (P t.2).2 → ¬ ((P s.1).2 < (P t.1).2 ∧ (P t.1).2 < (P s.2).2 ∧ (P t.1).1 < (P s.1).1 ∧ (P s.1).1 < (P t.2).1)
def VE (P : Int → Pt) (S : Sd → Prop) (p y : Int) : Prop := ∃ s, S s ∧ (P s.1).1 = p ∧ (P s.2).1 = p ∧ (P s.1).2 ≤ y ∧ y < (P s.2).2
def HE (P : Int → Pt) (S : Sd → Prop) (x q : Int) : Prop := ∃ s, S s ∧ (P s.1).2 = q ∧ (P s.2).2 = q ∧ (P s.1).1 ≤ x ∧ x < (P s.2).1
inductive U (P : Int → Pt) (S : Sd → Prop) : Int → Int → Prop
  | base {x y : Int} : y < 0 → U P S x y
  | right {x y : Int} : U P S x y → ¬ VE P S (x + 1) y → U P S (x + 1) y
  | left {x y : Int} : U P S (x + 1) y → ¬ VE P S (x + 1) y → U P S x y
  | up {x y : Int} : U P S x y → ¬ HE P S x (y + 1) → U P S x (y + 1)
  | down {x y : Int} : U P S x (y + 1) → ¬ HE P S x (y + 1) → U P S x y
def wt (P : Int → Pt) (s : Sd) (x y : Int) : Int := if (P s.1).1 = (P s.2).1 ∧ (P s.1).1 ≤ x then (if (P s.2).2 ≤ y ∧ y < (P s.1).2 then 1 else if (P s.1).2 ≤ y ∧ y < (P s.2).2 then -1 else 0) else 0
def sm {α : Type} (ss : List α) (f : α → Int) : Int := (ss.map f).sum
theorem sm_nil {α : Type} {f : α → Int} : sm [] f = 0 := rfl
theorem sm_cons {α : Type} {a : α} {ss : List α} {f : α → Int} : sm (a :: ss) f = f a + sm ss f := by unfold sm; rw [List.map_cons, List.sum_cons]
theorem sm_eq {α : Type} {f g : α → Int} : ∀ {ss : List α}, (∀ s ∈ ss, f s = g s) → sm ss f = sm ss g
  | [], _ => rfl
  | a :: ss, h => by rw [sm_cons, sm_cons, h a List.mem_cons_self, sm_eq fun s hs => h s (List.mem_cons_of_mem _ hs)]
theorem sm_add {α : Type} {f g : α → Int} : ∀ {ss : List α}, sm ss (fun s => f s + g s) = sm ss f + sm ss g
  | [] => rfl
  | a :: ss => by rw [sm_cons, sm_cons, sm_cons, sm_add]; omega
theorem sm_sub {α : Type} {f g : α → Int} : ∀ {ss : List α}, sm ss (fun s => f s - g s) = sm ss f - sm ss g
  | [] => rfl
  | a :: ss => by rw [sm_cons, sm_cons, sm_cons, sm_sub]; omega
theorem sm_mul {α : Type} {k : Int} {f : α → Int} : ∀ {ss : List α}, sm ss (fun s => k * f s) = k * sm ss f
  | [] => by simp [sm]
  | a :: ss => by rw [sm_cons, sm_cons, sm_mul, Int.mul_add]
theorem sm_le {α : Type} {f g : α → Int} : ∀ {ss : List α}, (∀ s ∈ ss, f s ≤ g s) → sm ss f ≤ sm ss g
  | [], _ => Int.le_refl _
  | a :: ss, h => by
    rw [sm_cons, sm_cons]
    have := h a List.mem_cons_self
    have := sm_le (ss := ss) fun s hs => h s (List.mem_cons_of_mem _ hs)
    omega
theorem sm_zero {α : Type} {f : α → Int} {ss : List α} (h : ∀ s ∈ ss, f s = 0) : sm ss f = 0 := by
  rw [sm_eq (g := fun _ => 0) h]
  induction ss with
  | nil => rfl
  | cons a ss ih => rw [sm_cons, ih fun s hs => h s (List.mem_cons_of_mem _ hs)]; rfl
abbrev Wn (P : Int → Pt) (ss : List Sd) (x y : Int) : Int := sm ss fun s => wt P s x y
def Closed (P : Int → Pt) (ss : List Sd) : Prop := ∀ f : Pt → Int, sm ss (fun s => f (P s.2) - f (P s.1)) = 0
section
variable {P : Int → Pt} {S : Sd → Prop} (G : Geo P S)
include G
theorem box2 {s : Sd} (h : S s) : 0 ≤ (P s.2).1 ∧ 0 ≤ (P s.2).2 := G.box _ (G.sym s h)
theorem wt_low {s : Sd} (h : S s) {x y : Int} (hy : y < 0) : wt P s x y = 0 := by
  have h1 := G.box s h
  have h2 := box2 G h
  unfold wt
  split
  · rw [if_neg (by omega), if_neg (by omega)]
  · rfl
omit G in
theorem wt_pos {s : Sd} {x y : Int} (hp : (P s.1).1 = (P s.2).1) (hx : (P s.1).1 ≤ x) : wt P s x y = (if (P s.2).2 ≤ y ∧ y < (P s.1).2 then 1 else if (P s.1).2 ≤ y ∧ y < (P s.2).2 then -1 else 0) := if_pos ⟨hp, hx⟩
omit G in
theorem wt_neg {s : Sd} {x y : Int} (h : (P s.1).1 = (P s.2).1 → ¬ (P s.1).1 ≤ x) : wt P s x y = 0 := if_neg fun hh => h hh.1 hh.2
theorem wt_x {s : Sd} (h : S s) {x y : Int} (hv : ¬ VE P S (x + 1) y) : wt P s (x + 1) y = wt P s x y := by
  by_cases hp : (P s.1).1 = (P s.2).1
  · by_cases hx : (P s.1).1 ≤ x
    · rw [wt_pos hp (by omega), wt_pos hp hx]
    · rw [wt_neg (x := x) (fun _ => hx)]
      by_cases hc : (P s.1).1 ≤ x + 1
      · rw [wt_pos hp hc]
        have e : (P s.1).1 = x + 1 := by omega
        rw [if_neg, if_neg]
        · exact fun hh => hv ⟨s, h, e, by omega, hh.1, hh.2⟩
        · exact fun hh => hv ⟨_, G.sym s h, by dsimp only; omega, e, hh.1, hh.2⟩
      · rw [wt_neg (fun _ => hc)]
  · rw [wt_neg (fun h => absurd h hp), wt_neg (fun h => absurd h hp)]
def phi (x y : Int) (Q : Pt) : Int := if Q.1 ≤ x ∧ Q.2 = y then 1 else 0
theorem wt_y {s : Sd} (h : S s) {x y : Int} (hv : ¬ HE P S x (y + 1)) : wt P s x (y + 1) - wt P s x y = phi x (y + 1) (P s.2) - phi x (y + 1) (P s.1) := by
  have ha := G.ali s h
  unfold wt phi
  by_cases hp : (P s.1).1 = (P s.2).1
  · by_cases hx : (P s.1).1 ≤ x
    · have hx2 : (P s.2).1 ≤ x := by omega
      simp only [hp, hx2, true_and, and_self, if_true]
      by_cases c1 : (P s.2).2 ≤ y + 1 <;> by_cases c2 : y + 1 < (P s.1).2 <;> by_cases c3 : (P s.1).2 ≤ y + 1 <;> by_cases c4 : y + 1 < (P s.2).2 <;> by_cases c5 : (P s.2).2 ≤ y <;> by_cases c6 : y < (P s.1).2 <;> by_cases c7 : (P s.1).2 ≤ y <;> by_cases c8 : y < (P s.2).2 <;> by_cases c9 : (P s.2).2 = y + 1 <;> by_cases c10 : (P s.1).2 = y + 1 <;> first | omega | (simp [c1, c2, c3, c4, c5, c6, c7, c8, c9, c10]; done) | (simp [c1, c2, c3, c4, c5, c6, c7, c8, c9, c10]; omega)
    · rw [if_neg (fun h => hx h.2), if_neg (fun h => hx h.2), if_neg (fun h => hx (by omega)), if_neg (fun h => hx h.1)]
  · rw [if_neg (fun h => hp h.1), if_neg (fun h => hp h.1)]
    have hl : (P s.1).2 = (P s.2).2 := by omega
    by_cases c1 : (P s.2).1 ≤ x ∧ (P s.2).2 = y + 1
    · have c2 : (P s.1).1 ≤ x ∧ (P s.1).2 = y + 1 := by
        refine ⟨?_, by omega⟩
        by_cases c : (P s.1).1 ≤ x
        · exact c
        · exact absurd ⟨_, G.sym s h, c1.2, (by dsimp only; omega), c1.1, (by dsimp only; omega)⟩ hv
      rw [if_pos c1, if_pos c2]; rfl
    · have c2 : ¬ ((P s.1).1 ≤ x ∧ (P s.1).2 = y + 1) := fun c => by
        by_cases c' : (P s.2).1 ≤ x
        · exact c1 ⟨c', by omega⟩
        · exact hv ⟨s, h, c.2, by omega, c.1, by omega⟩
      rw [if_neg c1, if_neg c2]
theorem wn_U {ss : List Sd} (hs : ∀ s ∈ ss, S s) (hc : Closed P ss) {x y : Int} (h : U P S x y) : Wn P ss x y = 0 := by
  induction h with
  | base hy => exact sm_zero fun s h => wt_low G (hs s h) hy
  | right _ hv ih => rw [← ih]; exact sm_eq fun s h => wt_x G (hs s h) hv
  | left _ hv ih => rw [← ih]; exact (sm_eq fun s h => wt_x G (hs s h) hv).symm
  | @up x y _ hv ih =>
    have h1 := sm_sub (ss := ss) (f := fun s => wt P s x (y + 1)) (g := fun s => wt P s x y)
    have h2 : sm ss (fun s => wt P s x (y + 1) - wt P s x y) = sm ss (fun s => phi x (y + 1) (P s.2) - phi x (y + 1) (P s.1)) := sm_eq fun s h => wt_y G (hs s h) hv
    have h3 := hc (phi x (y + 1))
    unfold Wn at ih ⊢
    omega
  | @down x y _ hv ih =>
    have h1 := sm_sub (ss := ss) (f := fun s => wt P s x (y + 1)) (g := fun s => wt P s x y)
    have h2 : sm ss (fun s => wt P s x (y + 1) - wt P s x y) = sm ss (fun s => phi x (y + 1) (P s.2) - phi x (y + 1) (P s.1)) := sm_eq fun s h => wt_y G (hs s h) hv
    have h3 := hc (phi x (y + 1))
    unfold Wn at ih ⊢
    omega
omit G in
theorem mvH {y : Int} : ∀ (n : Nat) {x : Int}, (∀ z, x < z → z ≤ x + n → ¬ VE P S z y) → (U P S x y ↔ U P S (x + n) y)
  | 0, x, _ => by simp
  | n + 1, x, h => by
    rw [mvH n fun z h1 h2 => h z h1 (by omega)]
    have hv : ¬ VE P S (x + n + 1) y := h _ (by omega) (by omega)
    have e : x + ((n + 1 : Nat) : Int) = x + n + 1 := by omega
    rw [e]
    exact ⟨fun hu => .right hu hv, fun hu => .left hu hv⟩
omit G in
theorem mvV {x : Int} : ∀ (n : Nat) {y : Int}, (∀ z, y < z → z ≤ y + n → ¬ HE P S x z) → (U P S x y ↔ U P S x (y + n))
  | 0, y, _ => by simp
  | n + 1, y, h => by
    rw [mvV n fun z h1 h2 => h z h1 (by omega)]
    have hv : ¬ HE P S x (y + n + 1) := h _ (by omega) (by omega)
    have e : y + ((n + 1 : Nat) : Int) = y + n + 1 := by omega
    rw [e]
    exact ⟨fun hu => .up hu hv, fun hu => .down hu hv⟩
omit G in
theorem mvH2 {x x' y : Int} (h : ∀ z, x < z ∧ z ≤ x' ∨ x' < z ∧ z ≤ x → ¬ VE P S z y) : U P S x y → U P S x' y := by
  rcases Int.le_total x x' with c | c
  · have e : x' = x + ((x' - x).toNat : Int) := by omega
    rw [e]
    exact (mvH _ fun z h1 h2 => h z (.inl ⟨h1, by omega⟩)).mp
  · have e : x = x' + ((x - x').toNat : Int) := by omega
    rw [e]
    exact (mvH _ fun z h1 h2 => h z (.inr ⟨h1, by omega⟩)).mpr
omit G in
theorem mvV2 {x y y' : Int} (h : ∀ z, y < z ∧ z ≤ y' ∨ y' < z ∧ z ≤ y → ¬ HE P S x z) : U P S x y → U P S x y' := by
  rcases Int.le_total y y' with c | c
  · have e : y' = y + ((y' - y).toNat : Int) := by omega
    rw [e]
    exact (mvV _ fun z h1 h2 => h z (.inl ⟨h1, by omega⟩)).mp
  · have e : y = y' + ((y - y').toNat : Int) := by omega
    rw [e]
    exact (mvV _ fun z h1 h2 => h z (.inr ⟨h1, by omega⟩)).mpr
/-- a wall's interior is met by no other -/
theorem noV {s : Sd} (h : S s) (hl : (P s.1).2 = (P s.2).2) {z y : Int} (hz : (P s.1).1 < z ∧ z < (P s.2).1) (hy : y = (P s.1).2 ∨ y = (P s.1).2 - 1) : ¬ VE P S z y := by
  rintro ⟨t, ht, e1, e2, h1, h2⟩
  have a1 := G.in2 s t h ht hl
  have a2 := G.in2 s (t.2, t.1) h (G.sym t ht) hl
  have a3 := G.crs t s ht h (by omega) hl
  dsimp only at a2
  rcases hy with rfl | rfl
  · by_cases c : (P t.1).2 = (P s.1).2
    · exact a1 c ⟨by omega, by omega⟩
    · exact a3 ⟨by omega, by omega, by omega, by omega⟩
  · by_cases c : (P t.2).2 = (P s.1).2
    · exact a2 c ⟨by omega, by omega⟩
    · exact a3 ⟨by omega, by omega, by omega, by omega⟩
theorem noH {s : Sd} (h : S s) (hl : (P s.1).1 = (P s.2).1) {z x : Int} (hz : (P s.1).2 < z ∧ z < (P s.2).2) (hx : x = (P s.1).1 ∨ x = (P s.1).1 - 1) : ¬ HE P S x z := by
  rintro ⟨t, ht, e1, e2, h1, h2⟩
  have a1 := G.in1 s t h ht hl
  have a2 := G.in1 s (t.2, t.1) h (G.sym t ht) hl
  have a3 := G.crs s t h ht hl (by omega)
  dsimp only at a2
  rcases hx with rfl | rfl
  · by_cases c : (P t.1).1 = (P s.1).1
    · exact a1 c ⟨by omega, by omega⟩
    · exact a3 ⟨by omega, by omega, by omega, by omega⟩
  · by_cases c : (P t.2).1 = (P s.1).1
    · exact a2 c ⟨by omega, by omega⟩
    · exact a3 ⟨by omega, by omega, by omega, by omega⟩
/-- the cells to the left of a side -/
def LC (P : Int → Pt) (s : Sd) (x y : Int) : Prop :=
  ((P s.1).2 = (P s.2).2 ∧ ((P s.1).1 ≤ x ∧ x < (P s.2).1 ∧ y = (P s.1).2 ∨ (P s.2).1 ≤ x ∧ x < (P s.1).1 ∧ y = (P s.1).2 - 1)) ∨
  ((P s.1).1 = (P s.2).1 ∧ ((P s.1).2 ≤ y ∧ y < (P s.2).2 ∧ x = (P s.1).1 - 1 ∨ (P s.2).2 ≤ y ∧ y < (P s.1).2 ∧ x = (P s.1).1))
theorem lc_along {s : Sd} (h : S s) {x y x' y' : Int} (h1 : LC P s x y) (h2 : LC P s x' y') (hu : U P S x y) : U P S x' y' := by
  have ha := G.ali s h
  have hr := G.sym s h
  rcases h1 with ⟨e, h1⟩ | ⟨e, h1⟩
  · rcases h2 with ⟨_, h2⟩ | ⟨e2, _⟩
    · rcases h1 with ⟨a1, a2, rfl⟩ | ⟨a1, a2, rfl⟩
      · rcases h2 with ⟨b1, b2, rfl⟩ | ⟨b1, b2, _⟩
        · exact mvH2 (fun z hz => noV G h e (by omega) (.inl rfl)) hu
        · omega
      · rcases h2 with ⟨b1, b2, _⟩ | ⟨b1, b2, rfl⟩
        · omega
        · exact mvH2 (fun z hz => noV G hr e.symm (by dsimp only; omega) (.inr (by dsimp only; omega))) hu
    · omega
  · rcases h2 with ⟨e2, _⟩ | ⟨_, h2⟩
    · omega
    · rcases h1 with ⟨a1, a2, rfl⟩ | ⟨a1, a2, rfl⟩
      · rcases h2 with ⟨b1, b2, rfl⟩ | ⟨b1, b2, _⟩
        · exact mvV2 (fun z hz => noH G h e (by omega) (.inr rfl)) hu
        · omega
      · rcases h2 with ⟨b1, b2, _⟩ | ⟨b1, b2, rfl⟩
        · omega
        · exact mvV2 (fun z hz => noH G hr e.symm (by dsimp only; omega) (.inl (by dsimp only; omega))) hu
def No (P : Int → Pt) (S : Sd → Prop) (b k : Int) : Prop := ∀ v, S (b, v) → way (P b) (P v) ≠ k
def Nx (P : Int → Pt) (S : Sd → Prop) (s t : Sd) : Prop := t.1 = s.2 ∧ S t ∧ (way (P t.1) (P t.2) = (way (P s.1) (P s.2) + 1) % 4 ∨ (No P S s.2 ((way (P s.1) (P s.2) + 1) % 4) ∧ (way (P t.1) (P t.2) = way (P s.1) (P s.2) ∨
  (No P S s.2 (way (P s.1) (P s.2)) ∧ (way (P t.1) (P t.2) = (way (P s.1) (P s.2) + 3) % 4 ∨ (No P S s.2 ((way (P s.1) (P s.2) + 3) % 4) ∧ way (P t.1) (P t.2) = (way (P s.1) (P s.2) + 2) % 4))))))
theorem no0 {s : Sd} (h : S s) (hn : No P S s.1 0) : ¬ HE P S (P s.1).1 (P s.1).2 := by
  rintro ⟨t, ht, e1, e2, h1, h2⟩
  have a1 := G.in2 t s ht h (by omega) e1.symm
  have e : (P t.1).1 = (P s.1).1 := by omega
  have e' := G.inj t s ht h (Prod.ext e e1)
  refine hn t.2 (by rw [← e']; exact ht) ?_
  unfold way
  rw [if_pos (by omega), if_neg (by omega)]; rfl
theorem no1 {s : Sd} (h : S s) (hn : No P S s.1 1) : ¬ VE P S (P s.1).1 (P s.1).2 := by
  rintro ⟨t, ht, e1, e2, h1, h2⟩
  have a1 := G.in1 t s ht h (by omega) e1.symm
  have e : (P t.1).2 = (P s.1).2 := by omega
  have e' := G.inj t s ht h (Prod.ext e1 e)
  refine hn t.2 (by rw [← e']; exact ht) ?_
  unfold way
  rw [if_neg (by omega), if_neg (by omega)]; rfl
theorem no2 {s : Sd} (h : S s) (hn : No P S s.1 2) : ¬ HE P S ((P s.1).1 - 1) (P s.1).2 := by
  rintro ⟨t, ht, e1, e2, h1, h2⟩
  have a1 := G.in2 t s ht h (by omega) e1.symm
  have hr := G.sym t ht
  have e : (P t.2).1 = (P s.1).1 := by omega
  have e' := G.inj _ s hr h (Prod.ext e e2)
  refine hn t.1 (by rw [← e']; exact hr) ?_
  unfold way
  rw [if_pos (by omega), if_pos (by omega)]; rfl
theorem no3 {s : Sd} (h : S s) (hn : No P S s.1 3) : ¬ VE P S (P s.1).1 ((P s.1).2 - 1) := by
  rintro ⟨t, ht, e1, e2, h1, h2⟩
  have a1 := G.in1 t s ht h (by omega) e1.symm
  have hr := G.sym t ht
  have e : (P t.2).2 = (P s.1).2 := by omega
  have e' := G.inj _ s hr h (Prod.ext e2 e)
  refine hn t.1 (by rw [← e']; exact hr) ?_
  unfold way
  rw [if_neg (by omega), if_pos (by omega)]; rfl
def qd (k : Int) (B : Pt) : Pt := if k = 0 then B else if k = 1 then (B.1 - 1, B.2) else if k = 2 then (B.1 - 1, B.2 - 1) else (B.1, B.2 - 1)
abbrev UQ (P : Int → Pt) (S : Sd → Prop) (k : Int) (B : Pt) : Prop := U P S (qd k B).1 (qd k B).2
theorem turn {s : Sd} (h : S s) {k : Int} (hk : k = 0 ∨ k = 1 ∨ k = 2 ∨ k = 3) (hn : No P S s.1 k) (hu : UQ P S k (P s.1)) : UQ P S ((k + 3) % 4) (P s.1) := by
  rcases hk with rfl | rfl | rfl | rfl
  · have hv := no0 G h hn
    show U P S (P s.1).1 ((P s.1).2 - 1)
    refine .down ?_ ?_
    · rw [Int.sub_add_cancel]; exact hu
    · rw [Int.sub_add_cancel]; exact hv
  · have hv := no1 G h hn
    show U P S (P s.1).1 (P s.1).2
    have := U.right (P := P) (S := S) (x := (P s.1).1 - 1) (y := (P s.1).2) hu (by rw [Int.sub_add_cancel]; exact hv)
    rw [Int.sub_add_cancel] at this; exact this
  · have hv := no2 G h hn
    show U P S ((P s.1).1 - 1) (P s.1).2
    have := U.up (P := P) (S := S) (x := (P s.1).1 - 1) (y := (P s.1).2 - 1) hu (by rw [Int.sub_add_cancel]; exact hv)
    rw [Int.sub_add_cancel] at this; exact this
  · have hv := no3 G h hn
    show U P S ((P s.1).1 - 1) ((P s.1).2 - 1)
    refine .left ?_ ?_
    · rw [Int.sub_add_cancel]; exact hu
    · rw [Int.sub_add_cancel]; exact hv
theorem way_cases {s : Sd} (h : S s) : ((P s.1).2 = (P s.2).2 ∧ (P s.1).1 < (P s.2).1 ∧ way (P s.1) (P s.2) = 0) ∨ ((P s.1).1 = (P s.2).1 ∧ (P s.1).2 < (P s.2).2 ∧ way (P s.1) (P s.2) = 1) ∨
    ((P s.1).2 = (P s.2).2 ∧ (P s.2).1 < (P s.1).1 ∧ way (P s.1) (P s.2) = 2) ∨ ((P s.1).1 = (P s.2).1 ∧ (P s.2).2 < (P s.1).2 ∧ way (P s.1) (P s.2) = 3) := by
  have ha := G.ali s h
  unfold way
  by_cases e : (P s.1).2 = (P s.2).2
  · rw [if_pos e]
    by_cases c : (P s.2).1 < (P s.1).1
    · rw [if_pos c]; omega
    · rw [if_neg c]; omega
  · rw [if_neg e]
    by_cases c : (P s.2).2 < (P s.1).2
    · rw [if_pos c]; omega
    · rw [if_neg c]; omega
/-- the last cell to the left, the first one -/
theorem lc_last {s : Sd} (h : S s) : LC P s (qd ((way (P s.1) (P s.2) + 1) % 4) (P s.2)).1 (qd ((way (P s.1) (P s.2) + 1) % 4) (P s.2)).2 := by
  rcases way_cases G h with ⟨a, b, e⟩ | ⟨a, b, e⟩ | ⟨a, b, e⟩ | ⟨a, b, e⟩ <;> rw [e]
  · show LC P s ((P s.2).1 - 1) (P s.2).2
    unfold LC; omega
  · show LC P s ((P s.2).1 - 1) ((P s.2).2 - 1)
    unfold LC; omega
  · show LC P s (P s.2).1 ((P s.2).2 - 1)
    unfold LC; omega
  · show LC P s (P s.2).1 (P s.2).2
    unfold LC; omega
theorem lc_first {s : Sd} (h : S s) : LC P s (qd (way (P s.1) (P s.2)) (P s.1)).1 (qd (way (P s.1) (P s.2)) (P s.1)).2 := by
  rcases way_cases G h with ⟨a, b, e⟩ | ⟨a, b, e⟩ | ⟨a, b, e⟩ | ⟨a, b, e⟩ <;> rw [e]
  · show LC P s (P s.1).1 (P s.1).2
    unfold LC; omega
  · show LC P s ((P s.1).1 - 1) (P s.1).2
    unfold LC; omega
  · show LC P s ((P s.1).1 - 1) ((P s.1).2 - 1)
    unfold LC; omega
  · show LC P s (P s.1).1 ((P s.1).2 - 1)
    unfold LC; omega
def LU (P : Int → Pt) (S : Sd → Prop) (s : Sd) : Prop := ∀ x y, LC P s x y → U P S x y
theorem lu_of {s : Sd} (h : S s) {x y : Int} (hl : LC P s x y) (hu : U P S x y) : LU P S s := fun _ _ h2 => lc_along G h hl h2 hu
theorem turn' {s : Sd} {b : Int} (h : S s) (e : s.1 = b) {k : Int} (hk : k = 0 ∨ k = 1 ∨ k = 2 ∨ k = 3) (hn : No P S b k) (hu : UQ P S k (P b)) : UQ P S ((k + 3) % 4) (P b) := by
  subst e; exact turn G h hk hn hu
theorem lu_next {s t : Sd} (h : S s) (hn : Nx P S s t) (hu : LU P S s) : LU P S t := by
  obtain ⟨e, ht, hn⟩ := hn
  have h0 : UQ P S ((way (P s.1) (P s.2) + 1) % 4) (P s.2) := hu _ _ (lc_last G h)
  have hw : way (P s.1) (P s.2) = 0 ∨ way (P s.1) (P s.2) = 1 ∨ way (P s.1) (P s.2) = 2 ∨ way (P s.1) (P s.2) = 3 := by rcases way_cases G h with h | h | h | h <;> omega
  refine lu_of G ht (lc_first G ht) ?_
  show UQ P S (way (P t.1) (P t.2)) (P t.1)
  have fin : ∀ k, way (P t.1) (P t.2) = k → UQ P S k (P s.2) → UQ P S (way (P t.1) (P t.2)) (P t.1) := fun k hk hu => by rw [hk, e]; exact hu
  rcases hn with hn | ⟨n1, hn⟩
  · exact fin _ hn h0
  · have h1 := turn' G ht e (by omega) n1 h0
    have e1 : ((way (P s.1) (P s.2) + 1) % 4 + 3) % 4 = way (P s.1) (P s.2) := by omega
    rw [e1] at h1
    rcases hn with hn | ⟨n2, hn⟩
    · exact fin _ hn h1
    · have h2 := turn' G ht e hw n2 h1
      rcases hn with hn | ⟨n3, hn⟩
      · exact fin _ hn h2
      · have h3 := turn' G ht e (by omega) n3 h2
        have e3 : ((way (P s.1) (P s.2) + 3) % 4 + 3) % 4 = (way (P s.1) (P s.2) + 2) % 4 := by omega
        rw [e3] at h3
        exact fin _ hn h3
/-- where all cells to the left are reached: nowhere more than nought -/
theorem wn_step {ss : List Sd} (hs : ∀ s ∈ ss, S s) (hc : Closed P ss) (hl : ∀ s ∈ ss, LU P S s) {x y : Int} (h : Wn P ss x y ≤ 0) : Wn P ss (x + 1) y ≤ 0 := by
  by_cases hd : ∃ s ∈ ss, (P s.1).1 = (P s.2).1 ∧ (P s.1).1 = x + 1 ∧ (P s.2).2 ≤ y ∧ y < (P s.1).2
  · obtain ⟨s, h1, h2, h3, h4, h5⟩ := hd
    rw [wn_U G hs hc (hl s h1 (x + 1) y (.inr ⟨h2, .inr ⟨h4, h5, h3.symm⟩⟩))]
    exact Int.le_refl _
  · refine Int.le_trans (sm_le fun s hss => ?_) h
    have : ¬ ((P s.1).1 = (P s.2).1 ∧ (P s.1).1 = x + 1 ∧ (P s.2).2 ≤ y ∧ y < (P s.1).2) := fun hh => hd ⟨s, hss, hh⟩
    by_cases hp : (P s.1).1 = (P s.2).1
    · by_cases hx : (P s.1).1 ≤ x
      · rw [wt_pos hp (by omega), wt_pos hp hx]; exact Int.le_refl _
      · rw [wt_neg (x := x) (fun _ => hx)]
        by_cases hc : (P s.1).1 ≤ x + 1
        · rw [wt_pos hp hc, if_neg (by omega)]
          split <;> omega
        · rw [wt_neg (fun _ => hc)]; exact Int.le_refl _
    · rw [wt_neg (fun h => absurd h hp), wt_neg (fun h => absurd h hp)]; exact Int.le_refl _
theorem wn_neg {ss : List Sd} (hs : ∀ s ∈ ss, S s) {x y : Int} (hx : x < 0) : Wn P ss x y = 0 := sm_zero fun s h => by
  have := G.box s (hs s h)
  unfold wt
  rw [if_neg (by omega)]
theorem wn_le {ss : List Sd} (hs : ∀ s ∈ ss, S s) (hc : Closed P ss) (hl : ∀ s ∈ ss, LU P S s) (y : Int) : ∀ n : Nat, Wn P ss (n : Int) y ≤ 0
  | 0 => by
    have h1 := wn_neg G hs (x := -1) (y := y) (by omega)
    exact wn_step G hs hc hl (x := -1) (Int.le_of_eq h1)
  | n + 1 => by
    have := wn_step G hs hc hl (wn_le hs hc hl y n)
    exact this
end
/-! sums over cells -/
def sN : Nat → (Nat → Int) → Int
  | 0, _ => 0
  | n + 1, f => sN n f + f n
theorem sN_le {f : Nat → Int} (h : ∀ k, f k ≤ 0) : ∀ n, sN n f ≤ 0
  | 0 => Int.le_refl _
  | n + 1 => by
    have := sN_le h n
    have := h n
    unfold sN; omega
theorem sN_eq {f g : Nat → Int} (h : ∀ k, f k = g k) : ∀ n, sN n f = sN n g
  | 0 => rfl
  | n + 1 => by unfold sN; rw [sN_eq h n, h n]
theorem sN_sm {α : Type} {f : α → Nat → Int} (ss : List α) : ∀ n, sN n (fun k => sm ss fun s => f s k) = sm ss fun s => sN n (f s)
  | 0 => (sm_zero fun _ _ => rfl).symm
  | n + 1 => by
    unfold sN
    rw [sN_sm ss n, ← sm_add]
theorem sN_rows {lo hi : Int} (h0 : 0 ≤ lo) {c : Int} : ∀ n : Nat, sN n (fun y => if lo ≤ (y : Int) ∧ (y : Int) < hi then c else 0) = max 0 (min (n : Int) hi - lo) * c
  | 0 => by
    have : max 0 (min ((0 : Nat) : Int) hi - lo) = 0 := by omega
    rw [this, Int.zero_mul]; rfl
  | n + 1 => by
    unfold sN
    rw [sN_rows h0 n]
    dsimp only
    split
    · have : max 0 (min ((n + 1 : Nat) : Int) hi - lo) = max 0 (min (n : Int) hi - lo) + 1 := by omega
      rw [this, Int.add_mul, Int.one_mul]
    · have : max 0 (min ((n + 1 : Nat) : Int) hi - lo) = max 0 (min (n : Int) hi - lo) := by omega
      rw [this, Int.add_zero]
theorem sN_cols {p : Int} (h0 : 0 ≤ p) {c : Int} : ∀ n : Nat, sN n (fun x => if p ≤ (x : Int) then c else 0) = max 0 ((n : Int) - p) * c
  | 0 => by
    have : max 0 (((0 : Nat) : Int) - p) = 0 := by omega
    rw [this, Int.zero_mul]; rfl
  | n + 1 => by
    unfold sN
    rw [sN_cols h0 n]
    dsimp only
    split
    · have : max 0 (((n + 1 : Nat) : Int) - p) = max 0 ((n : Int) - p) + 1 := by omega
      rw [this, Int.add_mul, Int.one_mul]
    · have : max 0 (((n + 1 : Nat) : Int) - p) = max 0 ((n : Int) - p) := by omega
      rw [this, Int.add_zero]
def gS (P : Int → Pt) (s : Sd) : Int := if (P s.1).1 = (P s.2).1 then (P s.1).1 * ((P s.2).2 - (P s.1).2) else 0
section
variable {P : Int → Pt} {S : Sd → Prop} (G : Geo P S)
include G
theorem wt_cells {s : Sd} (h : S s) {M : Nat} (hM : (P s.1).1 ≤ M ∧ (P s.1).2 ≤ M ∧ (P s.2).2 ≤ M) : sN M (fun x => sN M fun y => wt P s x y) = M * ((P s.1).2 - (P s.2).2) + gS P s := by
  have ha := G.ali s h
  have hb := G.box s h
  have hb2 := box2 G h
  by_cases hp : (P s.1).1 = (P s.2).1
  · have hr : ∀ x : Nat, sN M (fun y => wt P s x y) = if (P s.1).1 ≤ (x : Int) then (P s.1).2 - (P s.2).2 else 0 := fun x => by
      by_cases hx : (P s.1).1 ≤ (x : Int)
      · rw [if_pos hx]
        rcases Int.lt_or_gt_of_ne (show (P s.1).2 ≠ (P s.2).2 by omega) with c | c
        · rw [sN_eq (g := fun y => if (P s.1).2 ≤ (y : Int) ∧ (y : Int) < (P s.2).2 then -1 else 0) (fun y => by unfold wt; rw [if_pos ⟨hp, hx⟩, if_neg (by omega)]), sN_rows hb.2]
          have : max 0 (min (M : Int) (P s.2).2 - (P s.1).2) = (P s.2).2 - (P s.1).2 := by omega
          rw [this]; omega
        · rw [sN_eq (g := fun y => if (P s.2).2 ≤ (y : Int) ∧ (y : Int) < (P s.1).2 then 1 else 0) (fun y => by
            unfold wt
            rw [if_pos ⟨hp, hx⟩]
            split
            · rfl
            · rw [if_neg (by omega)]), sN_rows hb2.2]
          have : max 0 (min (M : Int) (P s.1).2 - (P s.2).2) = (P s.1).2 - (P s.2).2 := by omega
          rw [this]; omega
      · rw [if_neg hx, sN_eq (g := fun y => if (0 : Int) ≤ (y : Int) ∧ (y : Int) < 0 then 1 else 0) (fun y => by unfold wt; rw [if_neg (fun h => hx h.2), if_neg (by omega)]), sN_rows (Int.le_refl _)]
        have : max 0 (min (M : Int) 0 - 0) = 0 := by omega
        rw [this]; rfl
    rw [sN_eq hr, sN_cols hb.1]
    have : max 0 ((M : Int) - (P s.1).1) = M - (P s.1).1 := by omega
    unfold gS
    rw [this, if_pos hp, Int.sub_mul]
    have : (P s.1).1 * ((P s.2).2 - (P s.1).2) = -((P s.1).1 * ((P s.1).2 - (P s.2).2)) := by rw [← Int.mul_neg]; congr 1; omega
    rw [this]; omega
  · have hr : ∀ x : Nat, sN M (fun y => wt P s x y) = if (0 : Int) ≤ (x : Int) then 0 else 0 := fun x => by
      rw [sN_eq (g := fun y => if (0 : Int) ≤ (y : Int) ∧ (y : Int) < 0 then 1 else 0) (fun y => by unfold wt; rw [if_neg (fun h => hp h.1), if_neg (by omega)]), sN_rows (Int.le_refl _)]
      have : max 0 (min (M : Int) 0 - 0) = 0 := by omega
      rw [this]; simp
    rw [sN_eq hr, sN_cols (Int.le_refl _)]
    unfold gS
    rw [if_neg hp]
    have : (P s.1).2 - (P s.2).2 = 0 := by omega
    rw [this]; simp
theorem gS_sum {ss : List Sd} (hs : ∀ s ∈ ss, S s) (hc : Closed P ss) (hl : ∀ s ∈ ss, LU P S s) {M : Nat} (hM : ∀ s ∈ ss, (P s.1).1 ≤ M ∧ (P s.1).2 ≤ M ∧ (P s.2).2 ≤ M) : sm ss (gS P) ≤ 0 := by
  have h1 : sN M (fun x => sN M fun y => Wn P ss x y) ≤ 0 := sN_le (fun x => sN_le (fun y => wn_le G hs hc hl y x) M) M
  have h2 : sN M (fun x => sN M fun y => Wn P ss x y) = sm ss fun s => sN M (fun x => sN M fun y => wt P s x y) := by
    rw [← sN_sm]
    exact sN_eq (fun x => sN_sm (f := fun s (y : Nat) => wt P s (x : Int) (y : Int)) ss M) M
  have h3 : sm ss (fun s => sN M (fun x => sN M fun y => wt P s x y)) = sm ss fun s => (M : Int) * ((P s.1).2 - (P s.2).2) + gS P s := sm_eq fun s h => wt_cells G (hs s h) (hM s h)
  have h4 := hc (fun Q => Q.2)
  have h5 : sm ss (fun s => (P s.1).2 - (P s.2).2) = 0 := by
    have e : sm ss (fun s => (P s.1).2 - (P s.2).2) = sm ss (fun s => (-1 : Int) * ((P s.2).2 - (P s.1).2)) := sm_eq fun s _ => by omega
    rw [e, sm_mul, h4]; rfl
  rw [h2, h3, sm_add, sm_mul, h5, Int.mul_zero] at h1
  omega
def shoe (P : Int → Pt) (s : Sd) : Int := (P s.1).1 * (P s.2).2 - (P s.2).1 * (P s.1).2
theorem shoe_gS {s : Sd} (h : S s) : shoe P s = 2 * gS P s - ((fun Q : Pt => Q.1 * Q.2) (P s.2) - (fun Q : Pt => Q.1 * Q.2) (P s.1)) := by
  unfold shoe gS
  dsimp only
  rcases G.ali s h with ⟨e, _⟩ | ⟨e, c⟩
  · rw [if_pos e, e, Int.mul_sub]; omega
  · rw [if_neg c, e]; omega
theorem shoe_le {ss : List Sd} (hs : ∀ s ∈ ss, S s) (hc : Closed P ss) (hl : ∀ s ∈ ss, LU P S s) {M : Nat} (hM : ∀ s ∈ ss, (P s.1).1 ≤ M ∧ (P s.1).2 ≤ M ∧ (P s.2).2 ≤ M) : sm ss (shoe P) ≤ 0 := by
  have h1 := gS_sum G hs hc hl hM
  have h2 : sm ss (shoe P) = sm ss (fun s => 2 * gS P s - ((fun Q : Pt => Q.1 * Q.2) (P s.2) - (fun Q : Pt => Q.1 * Q.2) (P s.1))) := sm_eq fun s h => shoe_gS G (hs s h)
  have h3 := hc fun Q => Q.1 * Q.2
  rw [sm_sub, sm_mul, h3] at h2
  omega
/-- the cell to the west of the least corner -/
theorem least_U {ss : List Sd} (hs : ∀ s ∈ ss, S s) (hc : Closed P ss) (hl : ∀ s ∈ ss, LU P S s) {s t : Sd} (h1 : s ∈ ss) (h2 : t ∈ ss) (hn : Nx P S s t)
    (hm : ∀ u ∈ ss, (P t.1).1 < (P u.1).1 ∨ (P t.1).1 = (P u.1).1 ∧ (P t.1).2 ≤ (P u.1).2) (hm2 : ∀ u ∈ ss, (P t.1).1 < (P u.2).1 ∨ (P t.1).1 = (P u.2).1 ∧ (P t.1).2 ≤ (P u.2).2) : U P S ((P t.1).1 - 1) (P t.1).2 := by
  have hS := hs s h1
  have hT := hs t h2
  have upside : ∀ u ∈ ss, (P u.1).1 = (P u.2).1 → (P u.1).1 = (P t.1).1 → (P u.1).2 ≤ (P t.1).2 → (P t.1).2 < (P u.2).2 → U P S ((P t.1).1 - 1) (P t.1).2 := fun u hu a b c d => hl u hu _ _ (.inr ⟨a, .inl ⟨c, d, by omega⟩⟩)
  have downside : ∀ u ∈ ss, (P u.1).1 = (P u.2).1 → (P u.1).1 = (P t.1).1 → (P u.2).2 ≤ (P t.1).2 → (P t.1).2 < (P u.1).2 → U P S ((P t.1).1 - 1) (P t.1).2 := fun u hu a b c d => by
    have hU : U P S (P t.1).1 (P t.1).2 := hl u hu _ _ (.inr ⟨a, .inr ⟨c, d, b.symm⟩⟩)
    have w0 := wn_U G hs hc hU
    by_cases he : ∃ v ∈ ss, (P v.1).1 = (P v.2).1 ∧ (P v.1).1 = (P t.1).1 ∧ (P v.1).2 ≤ (P t.1).2 ∧ (P t.1).2 < (P v.2).2
    · obtain ⟨v, hv, e1, e2, e3, e4⟩ := he
      exact upside v hv e1 e2 e3 e4
    · exfalso
      have hge : ∀ v ∈ ss, 0 ≤ wt P v (P t.1).1 (P t.1).2 := fun v hv => by
        have n1 : ¬ ((P v.1).1 = (P v.2).1 ∧ (P v.1).1 = (P t.1).1 ∧ (P v.1).2 ≤ (P t.1).2 ∧ (P t.1).2 < (P v.2).2) := fun h => he ⟨v, hv, h⟩
        have m1 := hm v hv
        unfold wt
        split
        · split
          · omega
          · rw [if_neg (by omega)]; omega
        · omega
      have hpos : ∀ {l : List Sd}, (∀ v ∈ l, 0 ≤ wt P v (P t.1).1 (P t.1).2) → u ∈ l → 1 ≤ Wn P l (P t.1).1 (P t.1).2 := by
        intro l
        induction l with
        | nil => intro _ h; cases h
        | cons v l ih =>
          intro hg hu
          unfold Wn
          rw [sm_cons]
          have g0 := hg v List.mem_cons_self
          have gs : 0 ≤ sm l (fun v => wt P v (P t.1).1 (P t.1).2) := by
            have := sm_le (f := fun _ => 0) (g := fun v => wt P v (P t.1).1 (P t.1).2) (ss := l) fun v hv => hg v (List.mem_cons_of_mem _ hv)
            rw [sm_zero fun _ _ => rfl] at this
            exact this
          rcases List.mem_cons.mp hu with e | hu
          · subst e
            have : wt P u (P t.1).1 (P t.1).2 = 1 := by
              unfold wt
              rw [if_pos ⟨a, by omega⟩, if_pos ⟨c, d⟩]
            omega
          · have := ih (fun v hv => hg v (List.mem_cons_of_mem _ hv)) hu
            unfold Wn at this
            omega
      have := hpos hge hu
      omega
  have t2 := hm2 t h2
  have s1 := hm s h1
  obtain ⟨e, _, hn⟩ := hn
  rcases way_cases G hT with ⟨a, b, c⟩ | ⟨a, b, c⟩ | ⟨a, b, c⟩ | ⟨a, b, c⟩
  · -- to the east
    have hU : U P S (P t.1).1 (P t.1).2 := hl t h2 _ _ (.inl ⟨a, .inl ⟨Int.le_refl _, b, rfl⟩⟩)
    by_cases hv : VE P S (P t.1).1 (P t.1).2
    · rcases way_cases G hS with ⟨a', b', c'⟩ | ⟨a', b', c'⟩ | ⟨a', b', c'⟩ | ⟨a', b', c'⟩
      · rw [← e] at a' b'; omega
      · rw [← e] at a' b'; omega
      · rw [c', c, ← e] at hn
        exfalso
        rcases hn with hn | ⟨_, hn | ⟨_, hn | ⟨hn, _⟩⟩⟩
        · exact absurd hn (by decide)
        · exact absurd hn (by decide)
        · exact absurd hn (by decide)
        · exact no1 G hT hn hv
      · exact downside s h1 a' (by rw [e]; exact a') (by rw [e]; exact Int.le_refl _) (by rw [e]; exact b')
    · exact .left (by rw [Int.sub_add_cancel]; exact hU) (by rw [Int.sub_add_cancel]; exact hv)
  · exact upside t h2 a rfl (Int.le_refl _) b
  · omega
  · omega
/-- far to the east all is reached -/
theorem far_U {x : Int} (hx : ∀ s, S s → (P s.1).1 ≤ x) (y : Int) : U P S x y := by
  by_cases hy : y < 0
  · exact .base hy
  · have e : y = -1 + ((y + 1).toNat : Int) := by omega
    rw [e]
    refine (mvV _ fun z _ _ => ?_).mp (.base (by omega))
    rintro ⟨t, ht, _, _, h1, h2⟩
    have := hx _ (G.sym t ht)
    dsimp only at this
    omega
end
end Tp
end

section
set_option Elab.async false
set_option linter.all false
set_option maxRecDepth 100000
set_option maxHeartbeats 4000000
namespace My
open PySem G
/-! plain: the walk of a ring comes back; what numbers stand for -/
structure NetT (n : Net) : Prop extends NetL n where
  ndW : n.2.Nodup
  fwd : ∀ w ∈ n.2, ((spot n w.1).1 = (spot n w.2).1 ∧ (spot n w.1).2 < (spot n w.2).2) ∨ ((spot n w.1).2 = (spot n w.2).2 ∧ (spot n w.1).1 < (spot n w.2).1)
  geo : Tp.Geo (spot n) (isSide n)
theorem way_eq (p q : Pt) : Tp.way p q = wayF p q := rfl
theorem side_rev {n : Net} {s : Wall} (h : isSide n s) : isSide n (s.2, s.1) := by
  rcases h with h | h
  · exact .inr h
  · exact .inl h
theorem nbr_mem {n : Net} (hn : NetL n) {c v : Int} (h : isSide n (c, v)) : (wayF (spot n c) (spot n v), v) ∈ nbrs n c := by
  refine List.mem_filterMap.mpr ?_
  rcases h with h | h
  · exact ⟨_, h, by unfold nbr; rw [if_pos rfl]⟩
  · refine ⟨_, h, ?_⟩
    have := hn.ne _ h
    unfold nbr
    dsimp only at this ⊢
    rw [if_neg this, if_pos rfl]
theorem nbr_way {n : Net} {c : Int} {q : Int × Int} (h : q ∈ nbrs n c) : q.1 = wayF (spot n c) (spot n q.2) := by
  obtain ⟨w, hw, e⟩ := List.mem_filterMap.mp h
  unfold nbr at e
  split at e
  · rename_i h1
    cases e
    rw [← h1]
  · split at e
    · rename_i h1
      cases e
      rw [← h1]
    · cases e
theorem lk_none {n : Net} (hn : NetL n) {b k : Int} (h : (nbrs n b).lookup k = none) : Tp.No (spot n) (isSide n) b k := fun v hv e => by
  have := lookup_nd (hn.ways b) (nbr_mem hn hv)
  rw [way_eq] at e
  rw [e, h] at this
  cases this
theorem lk_some {n : Net} {b k v : Int} (h : (nbrs n b).lookup k = some v) : isSide n (b, v) ∧ wayF (spot n b) (spot n v) = k := by
  have := lookup_mem h
  exact ⟨nbr_side this, (nbr_way this).symm⟩
theorem way4 {n : Net} (hn : NetT n) {s : Wall} (hs : isSide n s) : (wayF (spot n s.1) (spot n s.2) = 0 ∨ wayF (spot n s.1) (spot n s.2) = 1 ∨ wayF (spot n s.1) (spot n s.2) = 2 ∨ wayF (spot n s.1) (spot n s.2) = 3) ∧
    wayF (spot n s.2) (spot n s.1) = (wayF (spot n s.1) (spot n s.2) + 2) % 4 := by
  have h1 := Tp.way_cases hn.geo hs
  have h2 := Tp.way_cases hn.geo (side_rev hs)
  simp only [way_eq] at h1 h2
  rcases h1 with ⟨a, b, e⟩ | ⟨a, b, e⟩ | ⟨a, b, e⟩ | ⟨a, b, e⟩ <;> rcases h2 with ⟨a', b', e'⟩ | ⟨a', b', e'⟩ | ⟨a', b', e'⟩ | ⟨a', b', e'⟩ <;> first | omega | (rw [e, e']; omega)
theorem next_nx {n : Net} (hn : NetT n) {s : Wall} (hs : isSide n s) : Tp.Nx (spot n) (isSide n) s (nextF n s) := by
  have hw := (way4 hn hs).1
  have hrev := (way4 hn hs).2
  refine ⟨next_fst, next_side hs, ?_⟩
  simp only [way_eq]
  unfold nextF
  cases l1 : (nbrs n s.2).lookup ((wayF (spot n s.1) (spot n s.2) + 1) % 4) with
  | some v =>
    left
    simp only [turnsF, l1]
    exact (lk_some l1).2
  | none =>
    refine .inr ⟨lk_none hn.toNetL l1, ?_⟩
    have e0 : (wayF (spot n s.1) (spot n s.2) + 0) % 4 = wayF (spot n s.1) (spot n s.2) := by omega
    cases l0 : (nbrs n s.2).lookup ((wayF (spot n s.1) (spot n s.2) + 0) % 4) with
    | some v =>
      left
      simp only [turnsF, l1, l0]
      rw [(lk_some l0).2, e0]
    | none =>
      refine .inr ⟨by have := lk_none hn.toNetL l0; rw [e0] at this; exact this, ?_⟩
      cases l3 : (nbrs n s.2).lookup ((wayF (spot n s.1) (spot n s.2) + 3) % 4) with
      | some v =>
        left
        simp only [turnsF, l1, l0, l3]
        exact (lk_some l3).2
      | none =>
        refine .inr ⟨lk_none hn.toNetL l3, ?_⟩
        cases l2 : (nbrs n s.2).lookup ((wayF (spot n s.1) (spot n s.2) + 2) % 4) with
        | some v =>
          simp only [turnsF, l1, l0, l3, l2]
          exact (lk_some l2).2
        | none =>
          simp only [turnsF, l1, l0, l3, l2]
          exact hrev
/-- one way of two sides: one side -/
theorem way_uniq {n : Net} (hn : NetL n) {b v v' : Int} (h : isSide n (b, v)) (h' : isSide n (b, v')) (e : wayF (spot n b) (spot n v) = wayF (spot n b) (spot n v')) : v = v' := by
  have h1 := lookup_nd (hn.ways b) (nbr_mem hn h)
  have h2 := lookup_nd (hn.ways b) (nbr_mem hn h')
  rw [e, h2] at h1
  exact (Option.some.inj h1).symm
theorem turns_inj {a b d : Int} (ha : a = 0 ∨ a = 1 ∨ a = 2 ∨ a = 3) (hb : b = 0 ∨ b = 1 ∨ b = 2 ∨ b = 3) (h1 : d = (a + 1) % 4 ∨ ((b + 2) % 4 ≠ (a + 1) % 4) ∧ (d = a ∨ ((b + 2) % 4 ≠ a) ∧ (d = (a + 3) % 4 ∨ ((b + 2) % 4 ≠ (a + 3) % 4) ∧ d = (a + 2) % 4)))
    (h2 : d = (b + 1) % 4 ∨ ((a + 2) % 4 ≠ (b + 1) % 4) ∧ (d = b ∨ ((a + 2) % 4 ≠ b) ∧ (d = (b + 3) % 4 ∨ ((a + 2) % 4 ≠ (b + 3) % 4) ∧ d = (b + 2) % 4))) : a = b := by
  rcases ha with rfl | rfl | rfl | rfl <;> rcases hb with rfl | rfl | rfl | rfl <;> simp at h1 h2 <;> first | rfl | (exfalso; omega)
theorem next_inj {n : Net} (hn : NetT n) {s t : Wall} (hs : isSide n s) (ht : isSide n t) (e : nextF n s = nextF n t) : s = t := by
  have e2 : s.2 = t.2 := by rw [← next_fst (n := n) (s := s), ← next_fst (n := n) (s := t), e]
  have ns := (next_nx hn hs).2.2
  have nt := (next_nx hn ht).2.2
  rw [← e] at nt
  simp only [way_eq] at ns nt
  obtain ⟨ws, rs⟩ := way4 hn hs
  obtain ⟨wt, rt⟩ := way4 hn ht
  have ps : ∀ k, Tp.No (spot n) (isSide n) s.2 k → (wayF (spot n s.1) (spot n s.2) + 2) % 4 ≠ k ∧ (wayF (spot n t.1) (spot n t.2) + 2) % 4 ≠ k := fun k hk => by
    constructor
    · rw [← rs]; exact hk s.1 (side_rev hs)
    · rw [← rt, ← e2]; exact hk t.1 (by rw [e2]; exact side_rev ht)
  have pt : ∀ k, Tp.No (spot n) (isSide n) t.2 k → (wayF (spot n s.1) (spot n s.2) + 2) % 4 ≠ k := fun k hk => (ps k (by rw [e2]; exact hk)).1
  have hw : wayF (spot n s.1) (spot n s.2) = wayF (spot n t.1) (spot n t.2) := by
    have qs : wayF (spot n (nextF n s).1) (spot n (nextF n s).2) = (wayF (spot n s.1) (spot n s.2) + 1) % 4 ∨ (((wayF (spot n t.1) (spot n t.2) + 2) % 4 ≠ (wayF (spot n s.1) (spot n s.2) + 1) % 4) ∧ (wayF (spot n (nextF n s).1) (spot n (nextF n s).2) = wayF (spot n s.1) (spot n s.2) ∨ ((wayF (spot n t.1) (spot n t.2) + 2) % 4 ≠ wayF (spot n s.1) (spot n s.2)) ∧ (wayF (spot n (nextF n s).1) (spot n (nextF n s).2) = (wayF (spot n s.1) (spot n s.2) + 3) % 4 ∨ ((wayF (spot n t.1) (spot n t.2) + 2) % 4 ≠ (wayF (spot n s.1) (spot n s.2) + 3) % 4) ∧ wayF (spot n (nextF n s).1) (spot n (nextF n s).2) = (wayF (spot n s.1) (spot n s.2) + 2) % 4))) :=
      ns.imp id fun ⟨h1, h⟩ => ⟨(ps _ h1).2, h.imp id fun ⟨h2, h⟩ => ⟨(ps _ h2).2, h.imp id fun ⟨h3, h⟩ => ⟨(ps _ h3).2, h⟩⟩⟩
    have qt : wayF (spot n (nextF n s).1) (spot n (nextF n s).2) = (wayF (spot n t.1) (spot n t.2) + 1) % 4 ∨ (((wayF (spot n s.1) (spot n s.2) + 2) % 4 ≠ (wayF (spot n t.1) (spot n t.2) + 1) % 4) ∧ (wayF (spot n (nextF n s).1) (spot n (nextF n s).2) = wayF (spot n t.1) (spot n t.2) ∨ ((wayF (spot n s.1) (spot n s.2) + 2) % 4 ≠ wayF (spot n t.1) (spot n t.2)) ∧ (wayF (spot n (nextF n s).1) (spot n (nextF n s).2) = (wayF (spot n t.1) (spot n t.2) + 3) % 4 ∨ ((wayF (spot n s.1) (spot n s.2) + 2) % 4 ≠ (wayF (spot n t.1) (spot n t.2) + 3) % 4) ∧ wayF (spot n (nextF n s).1) (spot n (nextF n s).2) = (wayF (spot n t.1) (spot n t.2) + 2) % 4))) :=
      nt.imp id fun ⟨h1, h⟩ => ⟨pt _ h1, h.imp id fun ⟨h2, h⟩ => ⟨pt _ h2, h.imp id fun ⟨h3, h⟩ => ⟨pt _ h3, h⟩⟩⟩
    exact turns_inj ws wt qs qt
  have hv : s.1 = t.1 := way_uniq hn.toNetL (b := s.2) (side_rev hs) (by rw [e2]; exact side_rev ht) (by
    rw [rs, hw, ← rt, e2])
  exact Prod.ext hv e2
theorem iter_side {n : Net} : ∀ (k : Nat) {s : Wall}, isSide n s → isSide n (iterF n k s)
  | 0, _, h => h
  | k + 1, _, h => iter_side k (next_side h)
theorem iter_succ {n : Net} : ∀ (k : Nat) {s : Wall}, iterF n (k + 1) s = nextF n (iterF n k s)
  | 0, _ => rfl
  | k + 1, s => iter_succ k (s := nextF n s)
theorem iter_back {n : Net} (hn : NetT n) : ∀ (i k : Nat) {s : Wall}, isSide n s → iterF n (i + k) s = iterF n i s → iterF n k s = s
  | 0, k, s, _, h => by rw [Nat.zero_add] at h; exact h
  | i + 1, k, s, hs, h => by
    rw [show i + 1 + k = (i + k) + 1 by omega, iter_succ, iter_succ] at h
    exact iter_back hn i k hs (next_inj hn (iter_side _ hs) (iter_side _ hs) h)
theorem subl {α : Type} [DecidableEq α] : ∀ {l m : List α}, l.Nodup → (∀ x ∈ l, x ∈ m) → l.length ≤ m.length
  | [], m, _, _ => Nat.zero_le _
  | a :: l, m, nd, h => by
    rw [List.nodup_cons] at nd
    have ha := h a List.mem_cons_self
    have := subl (m := m.erase a) nd.2 fun x hx => (List.mem_erase_of_ne (fun e => nd.1 (by rw [← e]; exact hx))).mpr (h x (List.mem_cons_of_mem _ hx))
    rw [List.length_erase_of_mem ha] at this
    have : 0 < m.length := List.length_pos_of_mem ha
    rw [List.length_cons]
    omega
theorem cyc_of {n : Net} (hn : NetT n) {s : Wall} (hs : isSide n s) : ∃ k, k < 2 * n.2.length ∧ iterF n (k + 1) s = s := by
  have hN : ((List.range (2 * n.2.length + 1)).map fun i => iterF n i s).length = 2 * n.2.length + 1 := by simp
  have hnd : ¬ ((List.range (2 * n.2.length + 1)).map fun i => iterF n i s).Nodup := fun nd => by
    have := subl nd (m := sidesF n) fun x hx => by
      obtain ⟨i, _, rfl⟩ := List.mem_map.mp hx
      exact mem_sides.mpr (iter_side i hs)
    rw [hN] at this
    unfold sidesF at this
    rw [List.length_mergeSort, List.length_append, List.length_map] at this
    omega
  have hex : ∃ i j, i < j ∧ j < 2 * n.2.length + 1 ∧ iterF n i s = iterF n j s := Classical.byContradiction fun hh => hnd (by
    refine List.pairwise_iff_getElem.mpr fun i j hi hj hij e => hh ⟨i, j, hij, by rw [hN] at hj; exact hj, ?_⟩
    simpa using e)
  obtain ⟨i, j, h1, h2, h3⟩ := hex
  refine ⟨j - i - 1, by omega, ?_⟩
  rw [show j - i - 1 + 1 = j - i by omega]
  exact iter_back hn i (j - i) hs (by rw [show i + (j - i) = j by omega]; exact h3.symm)
theorem NetT.netC {n : Net} (hn : NetT n) : NetC n := ⟨hn.toNetL, fun s hs => cyc_of hn hs⟩
/-! the orbit -/
theorem run_eq {n : Net} {s : Wall} : ∀ (m fuel : Nat) (h : Wall), m ≤ fuel → iterF n m h = s → (∀ i, i < m → iterF n i h ≠ s) → runF n s fuel h = (List.range m).map fun i => iterF n i h
  | 0, 0, h, _, _, _ => rfl
  | 0, f + 1, h, _, e, _ => by
    unfold runF
    rw [if_pos (show h = s from e)]; rfl
  | m + 1, 0, _, hf, _, _ => by omega
  | m + 1, f + 1, h, hf, e, hm => by
    unfold runF
    rw [if_neg (show ¬ h = s from hm 0 (by omega)), run_eq m f (nextF n h) (by omega) e fun i hi => hm (i + 1) (by omega), List.range_succ_eq_map, List.map_cons, List.map_map]
    rfl
def orb (n : Net) (s : Wall) : List Wall := s :: runF n s (2 * n.2.length) (nextF n s)
theorem least_ex {p : Nat → Prop} : ∀ (N : Nat), p N → ∃ m, m ≤ N ∧ p m ∧ ∀ i, i < m → ¬ p i
  | 0, h => ⟨0, Nat.le_refl _, h, fun i hi => by omega⟩
  | N + 1, h => by
    by_cases h0 : p 0
    · exact ⟨0, by omega, h0, fun i hi => by omega⟩
    · obtain ⟨m, h1, h2, h3⟩ := least_ex (p := fun k => p (k + 1)) N h
      refine ⟨m + 1, by omega, h2, fun i hi => ?_⟩
      cases i with
      | zero => exact h0
      | succ i => exact h3 i (by omega)
theorem orb_eq {n : Net} (hn : NetT n) {s : Wall} (hs : isSide n s) : ∃ p, 0 < p ∧ orb n s = (List.range p).map (fun i => iterF n i s) ∧ iterF n p s = s := by
  obtain ⟨k, hk, e⟩ := cyc_of hn hs
  obtain ⟨m, h1, h2, h3⟩ := least_ex (p := fun i => iterF n (i + 1) s = s) k e
  refine ⟨m + 1, by omega, ?_, h2⟩
  unfold orb
  rw [run_eq m _ (nextF n s) (by omega) h2 fun i hi => h3 i hi, List.range_succ_eq_map, List.map_cons, List.map_map]
  rfl
theorem ring_orb {n : Net} {s : Wall} : ringF n s = (orb n s).map (·.1) := rfl
theorem sidesR_orb {n : Net} (hn : NetT n) {s : Wall} (hs : isSide n s) : sidesR (ringF n s) = orb n s := by
  obtain ⟨p, hp, e, ep⟩ := orb_eq hn hs
  rw [ring_orb, e]
  unfold sidesR
  simp only [List.length_map, List.length_range]
  refine List.map_congr_left fun k hk => ?_
  have hk := List.mem_range.mp hk
  have g : ∀ j, j < p → (((List.range p).map fun i => iterF n i s).map (·.1)).getD j 0 = (iterF n j s).1 := fun j hj => by
    simp [List.getD, hj]
  rw [g k hk]
  have e2 : (iterF n (k + 1) s).1 = (iterF n k s).2 := by rw [iter_succ]; exact next_fst
  by_cases c : k + 1 < p
  · rw [Nat.mod_eq_of_lt c, g _ c, e2]
  · have : k + 1 = p := by omega
    rw [this, Nat.mod_self, g 0 hp]
    rw [this, ep] at e2
    show ((iterF n k s).1, s.1) = _
    rw [e2]
theorem orb_side {n : Net} {s : Wall} (hs : isSide n s) : ∀ x ∈ orb n s, isSide n x := fun x hx => by
  rcases List.mem_cons.mp hx with e | hx
  · rw [e]; exact hs
  · exact run_side _ _ (next_side hs) x hx
theorem orb_next {n : Net} (hn : NetT n) {s : Wall} (hs : isSide n s) : ∀ x ∈ orb n s, nextF n x ∈ orb n s ∧ ∃ y ∈ orb n s, nextF n y = x := fun x hx => by
  obtain ⟨p, hp, e, ep⟩ := orb_eq hn hs
  rw [e] at hx ⊢
  obtain ⟨i, hi, rfl⟩ := List.mem_map.mp hx
  have hi := List.mem_range.mp hi
  constructor
  · rw [← iter_succ]
    by_cases c : i + 1 < p
    · exact List.mem_map.mpr ⟨i + 1, List.mem_range.mpr c, rfl⟩
    · have : i + 1 = p := by omega
      rw [this, ep]
      exact List.mem_map.mpr ⟨0, List.mem_range.mpr hp, rfl⟩
  · cases i with
    | zero =>
      refine ⟨iterF n (p - 1) s, List.mem_map.mpr ⟨p - 1, List.mem_range.mpr (by omega), rfl⟩, ?_⟩
      rw [← iter_succ, show p - 1 + 1 = p by omega, ep]; rfl
    | succ i => exact ⟨iterF n i s, List.mem_map.mpr ⟨i, List.mem_range.mpr (by omega), rfl⟩, (iter_succ i).symm⟩
theorem tele {f : Nat → Int} : ∀ p, Tp.sm (List.range p) (fun k => f (k + 1) - f k) = f p - f 0
  | 0 => by simp [Tp.sm]
  | p + 1 => by
    have h := tele (f := f) p
    unfold Tp.sm at h ⊢
    rw [List.range_succ, List.map_append, List.sum_append, h]
    simp; omega
theorem orb_closed {n : Net} (hn : NetT n) {s : Wall} (hs : isSide n s) : Tp.Closed (spot n) (orb n s) := fun f => by
  obtain ⟨p, hp, e, ep⟩ := orb_eq hn hs
  rw [e]
  have h := tele (f := fun k => f (spot n (iterF n k s).1)) p
  rw [ep] at h
  have e2 : Tp.sm ((List.range p).map fun i => iterF n i s) (fun s => f (spot n s.2) - f (spot n s.1)) = Tp.sm (List.range p) (fun k => f (spot n (iterF n (k + 1) s).1) - f (spot n (iterF n k s).1)) := by
    unfold Tp.sm
    rw [List.map_map]
    refine congrArg _ (List.map_congr_left fun k _ => ?_)
    show f (spot n (iterF n k s).2) - _ = _
    rw [iter_succ, next_fst]
  rw [e2, h]
  show f (spot n s.1) - f (spot n s.1) = 0
  omega
/-! all rings -/
theorem seen_mem {l seen : List Wall} {x : Wall} : x ∈ l.foldl seenPut seen ↔ x ∈ seen ∨ x ∈ l := by
  induction l generalizing seen with
  | nil => simp
  | cons a l ih =>
    rw [List.foldl_cons, ih]
    unfold seenPut
    split
    · rename_i h
      constructor
      · rintro (h1 | h1)
        · exact .inl h1
        · exact .inr (List.mem_cons_of_mem _ h1)
      · rintro (h1 | h1)
        · exact .inl h1
        · rcases List.mem_cons.mp h1 with e | h1
          · rw [e]; exact .inl h
          · exact .inr h1
    · simp [or_assoc]
theorem rings_of {n : Net} (hn : NetT n) : (∀ r ∈ ringsF n, ∃ s, isSide n s ∧ r = ringF n s) ∧ ∀ s, isSide n s → ∃ r ∈ ringsF n, s ∈ sidesR r := by
  have key : ∀ (l : List Wall) (a : List Wall × List (List Int)), (∀ s ∈ l, isSide n s) → (∀ r ∈ a.2, ∃ s, isSide n s ∧ r = ringF n s) → (∀ x ∈ a.1, ∃ r ∈ a.2, x ∈ sidesR r) →
      (∀ r ∈ (l.foldl (ringsStep n) a).2, ∃ s, isSide n s ∧ r = ringF n s) ∧ (∀ x ∈ (l.foldl (ringsStep n) a).1, ∃ r ∈ (l.foldl (ringsStep n) a).2, x ∈ sidesR r) ∧ (∀ x, x ∈ a.1 ∨ x ∈ l → x ∈ (l.foldl (ringsStep n) a).1) := by
    intro l
    induction l with
    | nil => intro a _ h1 h2; exact ⟨h1, h2, fun x hx => hx.resolve_right (by simp)⟩
    | cons s l ih =>
      intro a hl h1 h2
      rw [List.foldl_cons]
      have hs := hl s List.mem_cons_self
      have h3 : (∀ r ∈ (ringsStep n a s).2, ∃ s, isSide n s ∧ r = ringF n s) ∧ (∀ x ∈ (ringsStep n a s).1, ∃ r ∈ (ringsStep n a s).2, x ∈ sidesR r) ∧ (∀ x, x ∈ a.1 ∨ x = s → x ∈ (ringsStep n a s).1) := by
        unfold ringsStep
        split
        · rename_i h
          exact ⟨h1, h2, fun x hx => by
            rcases hx with hx | rfl
            · exact hx
            · exact h⟩
        · refine ⟨fun r hr => ?_, fun x hx => ?_, fun x hx => ?_⟩
          · rcases List.mem_append.mp hr with hr | hr
            · exact h1 r hr
            · exact ⟨s, hs, List.mem_singleton.mp hr⟩
          · rcases seen_mem.mp hx with hx | hx
            · obtain ⟨r, hr, hx⟩ := h2 x hx
              exact ⟨r, List.mem_append_left _ hr, hx⟩
            · exact ⟨ringF n s, List.mem_append_right _ (List.mem_singleton.mpr rfl), hx⟩
          · refine seen_mem.mpr ?_
            rcases hx with hx | rfl
            · exact .inl hx
            · right
              rw [sidesR_orb hn hs]
              exact List.mem_cons_self
      obtain ⟨k1, k2, k3⟩ := ih (ringsStep n a s) (fun x hx => hl x (List.mem_cons_of_mem _ hx)) h3.1 h3.2.1
      refine ⟨k1, k2, fun x hx => k3 x ?_⟩
      rcases hx with hx | hx
      · exact .inl (h3.2.2 x (.inl hx))
      · rcases List.mem_cons.mp hx with e | hx
        · exact .inl (h3.2.2 x (.inr e))
        · exact .inr hx
  obtain ⟨k1, k2, k3⟩ := key (sidesF n) ([], []) (fun s hs => mem_sides.mp hs) (fun r h => by cases h) (fun x h => by cases h)
  exact ⟨k1, fun s hs => k2 s (k3 s (.inr (mem_sides.mpr hs)))⟩
theorem put_look {α : Type} [DecidableEq α] [BEq α] [LawfulBEq α] {v : Nat} : ∀ {d : List (α × Nat)} {s t : α}, (putD d s v).lookup t = if t = s then some v else d.lookup t := by
  intro d s t
  unfold putD
  split
  · rename_i h
    induction d with
    | nil => simp at h
    | cons a d ih =>
      rw [List.map_cons]
      by_cases e : a.1 = s
      · rw [if_pos e]
        subst e
        by_cases e2 : t = a.1
        · subst e2; simp [List.lookup]
        · have e3 : (t == a.1) = false := by simpa using e2
          rw [if_neg e2]
          simp only [List.lookup, e3]
          have : ∀ {d : List (α × Nat)}, (d.map fun kv => if kv.1 = a.1 then (kv.1, v) else kv).lookup t = d.lookup t := by
            intro d
            induction d with
            | nil => rfl
            | cons b d ih =>
              rw [List.map_cons]
              by_cases e4 : b.1 = a.1
              · rw [if_pos e4]
                have e5 : (t == b.1) = false := by rw [e4]; exact e3
                simp only [List.lookup, e5]; exact ih
              · rw [if_neg e4]
                by_cases e5 : t = b.1
                · subst e5; simp [List.lookup]
                · have e6 : (t == b.1) = false := by simpa using e5
                  simp only [List.lookup, e6]; exact ih
          exact this
      · rw [if_neg e]
        have h' : (d.any fun kv => decide (kv.1 = s)) = true := by
          rw [List.any_cons] at h
          simpa [e] using h
        by_cases e2 : t = a.1
        · have : t ≠ s := fun h => e (e2.symm.trans h)
          rw [if_neg this]
          subst e2; simp [List.lookup]
        · have e3 : (t == a.1) = false := by simpa using e2
          simp only [List.lookup, e3]
          exact ih h'
  · rename_i h
    have hn : d.lookup s = none := by
      cases hl : d.lookup s with
      | none => rfl
      | some b => exact absurd (List.any_eq_true.mpr ⟨_, lookup_mem hl, by simp⟩) h
    have ap : ∀ {d : List (α × Nat)}, (d ++ [(s, v)]).lookup t = match d.lookup t with | some b => some b | none => if t = s then some v else none := by
      intro d
      induction d with
      | nil =>
        by_cases e : t = s
        · subst e; simp [List.lookup]
        · have e3 : (t == s) = false := by simpa using e
          simp [List.lookup, e3, e]
      | cons a d ih =>
        by_cases e : t = a.1
        · subst e; simp [List.lookup]
        · have e3 : (t == a.1) = false := by simpa using e
          rw [List.cons_append]
          simp only [List.lookup, e3]
          exact ih
    rw [ap]
    by_cases e : t = s
    · subst e; rw [hn]
    · rw [if_neg e, if_neg e]
      cases d.lookup t <;> rfl
theorem by_of {n : Net} (hn : NetT n) {s : Wall} (hs : isSide n s) : ∃ k, (ringByF n).lookup s = some k ∧ ∃ h : k < (ringsF n).length, s ∈ sidesR ((ringsF n)[k]) := by
  have one : ∀ (l : List Wall) (d : List (Wall × Nat)) (v : Nat) (t : Wall), (l.foldl (fun d s => putD d s v) d).lookup t = if t ∈ l then some v else d.lookup t := by
    intro l
    induction l with
    | nil => intro d v t; simp
    | cons a l ih =>
      intro d v t
      rw [List.foldl_cons, ih, put_look]
      by_cases h1 : t ∈ l
      · rw [if_pos h1, if_pos (List.mem_cons_of_mem _ h1)]
      · rw [if_neg h1]
        by_cases h2 : t = a
        · rw [if_pos h2, if_pos (by rw [h2]; exact List.mem_cons_self)]
        · rw [if_neg h2, if_neg (fun h => (List.mem_cons.mp h).elim h2 h1)]
  have key : ∀ (l : List (List Int × Nat)) (d : List (Wall × Nat)), (∀ t k, d.lookup t = some k → ∃ r, (ringsF n)[k]? = some r ∧ t ∈ sidesR r) → (∀ q ∈ l, (ringsF n)[q.2]? = some q.1) →
      (∀ t k, (l.foldl byPut d).lookup t = some k → ∃ r, (ringsF n)[k]? = some r ∧ t ∈ sidesR r) ∧ (∀ t, ((d.lookup t).isSome ∨ ∃ q ∈ l, t ∈ sidesR q.1) → ((l.foldl byPut d).lookup t).isSome) := by
    intro l
    induction l with
    | nil => intro d h1 _; exact ⟨h1, fun t h => h.resolve_right (by simp)⟩
    | cons q l ih =>
      intro d h1 h2
      rw [List.foldl_cons]
      obtain ⟨k1, k2⟩ := ih (byPut d q) (fun t k hk => by
        unfold byPut at hk
        rw [one] at hk
        split at hk
        · rename_i hm
          cases hk
          exact ⟨q.1, h2 q List.mem_cons_self, hm⟩
        · exact h1 t k hk) (fun x hx => h2 x (List.mem_cons_of_mem _ hx))
      refine ⟨k1, fun t ht => k2 t ?_⟩
      unfold byPut
      rw [one]
      by_cases hm : t ∈ sidesR q.1
      · rw [if_pos hm]; exact .inl rfl
      · rw [if_neg hm]
        rcases ht with ht | ⟨x, hx, ht⟩
        · exact .inl ht
        · rcases List.mem_cons.mp hx with e | hx
          · rw [e] at ht; exact absurd ht hm
          · exact .inr ⟨x, hx, ht⟩
  obtain ⟨k1, k2⟩ := key (ringsF n).zipIdx [] (fun t k h => by cases h) (fun q hq => by
    obtain ⟨r, i⟩ := q
    simpa using List.mem_zipIdx_iff_getElem?.mp hq)
  obtain ⟨r, hr, hx⟩ := (rings_of hn).2 s hs
  obtain ⟨i, hi, e⟩ := List.mem_iff_getElem.mp hr
  have := k2 s (.inr ⟨(r, i), by
    rw [List.mem_zipIdx_iff_getElem?]
    simp [hi, e], hx⟩)
  obtain ⟨k, hk⟩ := Option.isSome_iff_exists.mp this
  obtain ⟨r', h1, h2⟩ := k1 s k hk
  obtain ⟨hl, he⟩ := List.getElem?_eq_some_iff.mp h1
  exact ⟨k, hk, hl, by rw [he]; exact h2⟩
/-- the ring of a side's number -/
theorem num_ring {n : Net} (hn : NetT n) {s : Wall} (hs : isSide n s) : ∃ b, isSide n b ∧ (ringsF n)[numOf n s]? = some (ringF n b) ∧ s ∈ orb n b := by
  obtain ⟨k, h1, h2, h3⟩ := by_of hn hs
  have e : numOf n s = k := by unfold numOf; rw [h1]; rfl
  obtain ⟨b, hb, hr⟩ := (rings_of hn).1 _ (List.getElem_mem h2)
  refine ⟨b, hb, by rw [e, List.getElem?_eq_getElem h2, hr], ?_⟩
  rw [hr, sidesR_orb hn hb] at h3
  exact h3
/-! the least corner of a ring -/
def lexle (p q : Pt) : Prop := p.1 < q.1 ∨ p.1 = q.1 ∧ p.2 ≤ q.2
theorem best_le (ps : List Pt) : ∀ k, argBest (fun i j => PySem.W.dataLt ((ps.map dPt).getD i .none) ((ps.map dPt).getD j .none)) k ≤ k ∧ (k < ps.length → ∀ j, j ≤ k → lexle (ps.getD (argBest (fun i j => PySem.W.dataLt ((ps.map dPt).getD i .none) ((ps.map dPt).getD j .none)) k) (0, 0)) (ps.getD j (0, 0)))
  | 0 => ⟨Nat.le_refl _, fun _ j hj => by
    have : j = 0 := by omega
    subst this
    exact .inr ⟨rfl, Int.le_refl _⟩⟩
  | k + 1 => by
    obtain ⟨h1, h2⟩ := best_le ps k
    unfold argBest
    by_cases c : k + 1 < ps.length
    · have g : ∀ i, i < ps.length → (ps.map dPt).getD i .none = dPt (ps.getD i (0, 0)) := fun i hi => by simp [List.getD, hi]
      have e : PySem.W.dataLt ((ps.map dPt).getD (k + 1) .none) ((ps.map dPt).getD (argBest (fun i j => PySem.W.dataLt ((ps.map dPt).getD i .none) ((ps.map dPt).getD j .none)) k) .none) = decide ((ps.getD (k + 1) (0, 0)).1 < (ps.getD (argBest (fun i j => PySem.W.dataLt ((ps.map dPt).getD i .none) ((ps.map dPt).getD j .none)) k) (0, 0)).1 ∨ ((ps.getD (k + 1) (0, 0)).1 = (ps.getD (argBest (fun i j => PySem.W.dataLt ((ps.map dPt).getD i .none) ((ps.map dPt).getD j .none)) k) (0, 0)).1 ∧ (ps.getD (k + 1) (0, 0)).2 < (ps.getD (argBest (fun i j => PySem.W.dataLt ((ps.map dPt).getD i .none) ((ps.map dPt).getD j .none)) k) (0, 0)).2)) := by
        rw [g _ c, g _ (by omega)]
        exact PySem.W.dataLt_ii _ _ _ _
      have h3 := h2 (by omega)
      generalize argBest (fun i j => PySem.W.dataLt ((ps.map dPt).getD i .none) ((ps.map dPt).getD j .none)) k = b at *
      split
      · rename_i hb
        rw [e] at hb
        have hb := of_decide_eq_true hb
        refine ⟨Nat.le_refl _, fun _ j hj => ?_⟩
        by_cases hj2 : j = k + 1
        · subst hj2; exact .inr ⟨rfl, Int.le_refl _⟩
        · have := h3 j (by omega)
          unfold lexle at this ⊢
          omega
      · rename_i hb
        rw [e] at hb
        have hb : ¬ _ := fun h => hb (decide_eq_true h)
        refine ⟨by omega, fun _ j hj => ?_⟩
        by_cases hj2 : j = k + 1
        · subst hj2; unfold lexle; omega
        · exact h3 j (by omega)
    · refine ⟨?_, fun h => absurd h c⟩
      split
      · exact Nat.le_refl _
      · omega
theorem minP_of {n : Net} {r : List Int} (hr : r ≠ []) : (∀ c ∈ r, lexle (minP n r) (spot n c)) ∧ ∃ c ∈ r, minP n r = spot n c := by
  have hl : 0 < r.length := List.length_pos_iff.mpr hr
  obtain ⟨h1, h2⟩ := best_le (ptsOf n r) ((ptsOf n r).length - 1)
  have el : (ptsOf n r).length = r.length := List.length_map ..
  have eb : minP n r = (ptsOf n r).getD (argBest (fun i j => PySem.W.dataLt (((ptsOf n r).map dPt).getD i .none) (((ptsOf n r).map dPt).getD j .none)) ((ptsOf n r).length - 1)) (0, 0) := by
    unfold minP bestAt
    rw [List.length_map]
  have g : ∀ i (hi : i < r.length), (ptsOf n r).getD i (0, 0) = spot n (r[i]) := fun i hi => by
    unfold ptsOf
    simp [List.getD, hi]
  constructor
  · intro c hc
    obtain ⟨i, hi, e⟩ := List.mem_iff_getElem.mp hc
    have := h2 (by omega) i (by omega)
    rw [← eb, g i hi, e] at this
    exact this
  · rw [eb]
    exact ⟨r[_]'(by omega), List.getElem_mem _, g _ (by omega)⟩
theorem ring_ne {n : Net} {s : Wall} : ringF n s ≠ [] := by unfold ringF; simp
theorem num_getD {n : Net} {k : Nat} {r : List Int} (h : (ringsF n)[k]? = some r) : (ringsF n).getD k [] = r ∧ (areasF n).getD k 0 = areaF n r := by
  constructor
  · rw [List.getD, h]; rfl
  · unfold areasF
    rw [List.getD, List.getElem?_map, h]; rfl
theorem orb_fst {n : Net} {b s : Wall} (h : s ∈ orb n b) : s.1 ∈ ringF n b := by rw [ring_orb]; exact List.mem_map_of_mem h
theorem dec_of {n : Net} (hn : NetT n) {s t : Wall} (hs : isSide n s) (h : westOf n (numOf n s) = some t) : (spot n t.1).1 < (spot n s.1).1 := by
  obtain ⟨b, hb, e, hm⟩ := num_ring hn hs
  have := (minP_of (n := n) (ring_ne (n := n) (s := b))).1 _ (orb_fst hm)
  unfold westOf at h
  rw [(num_getD e).1] at h
  obtain ⟨h1, h2, h3, _⟩ := west_side h
  unfold isUp endsF at h2
  have h2 := of_decide_eq_true h2
  dsimp only at h2
  unfold lexle at this
  omega
theorem NetT.netF {n : Net} (hn : NetT n) : NetF n := ⟨hn.netC, fun s hs => by
  obtain ⟨k, h1, h2, _⟩ := by_of hn hs
  exact ⟨k, h1, h2⟩, fun s t hs _ h => by
  have h1 := dec_of hn hs h
  have h2 := (hn.box _ (hn.toNetL.side_keys (westOf_isSide h)).1).1
  have h3 := (hn.box _ (hn.toNetL.side_keys hs).1).1
  show (spot n t.1).1.toNat + 1 < (spot n s.1).1.toNat + 1
  omega⟩
end My
end

section
set_option Elab.async false
set_option linter.all false
set_option maxRecDepth 100000
set_option maxHeartbeats 4000000
namespace My
open PySem G
/-! plain: what is reached from outside is of no room -/
theorem area_eq {n : Net} {r : List Int} : areaF n r = Tp.sm (sidesR r) (Tp.shoe (spot n)) / 2 := by
  have : ∀ (l : List Wall) (a : Int), l.foldl (fun t s => t + ((spot n s.1).1 * (spot n s.2).2 - (spot n s.2).1 * (spot n s.1).2)) a = a + Tp.sm l (Tp.shoe (spot n)) := by
    intro l
    induction l with
    | nil => intro a; rw [Tp.sm_nil]; simp
    | cons s l ih =>
      intro a
      rw [List.foldl_cons, ih, Tp.sm_cons]
      unfold Tp.shoe
      omega
  unfold areaF
  rw [this, Int.zero_add]
def covL (x y : Int) (l : Line) : Prop := l.1 ≤ x ∧ (l.2.1 ≤ y ∧ y < l.2.2.1)
theorem west_fold {x y : Int} : ∀ (ls : List Line) (b : Option (Int × Wall)), (∀ q, b = some q → ∃ q', ls.foldl (westStep x y) b = some q' ∧ q.1 ≤ q'.1) ∧ (∀ l ∈ ls, covL x y l → ∃ q', ls.foldl (westStep x y) b = some q' ∧ l.1 ≤ q'.1) ∧
    (∀ q', ls.foldl (westStep x y) b = some q' → b = some q' ∨ ∃ l ∈ ls, covL x y l ∧ q' = (l.1, (l.2.2.2.2, l.2.2.2.1)))
  | [], b => ⟨fun q h => ⟨q, h, Int.le_refl _⟩, fun l h _ => (nomatch h), fun q h => Or.inl h⟩
  | l :: ls, b => by
    rw [List.foldl_cons]
    obtain ⟨h1, h2, h3⟩ := west_fold ls (westStep x y b l)
    have hs : (∀ q, b = some q → ∃ q', westStep x y b l = some q' ∧ q.1 ≤ q'.1) ∧ (covL x y l → ∃ q', westStep x y b l = some q' ∧ l.1 ≤ q'.1) ∧ (∀ q', westStep x y b l = some q' → b = some q' ∨ (covL x y l ∧ q' = (l.1, (l.2.2.2.2, l.2.2.2.1)))) := by
      unfold westStep
      split
      · rename_i h
        refine ⟨fun q hq => ⟨_, rfl, ?_⟩, fun _ => ⟨_, rfl, Int.le_refl _⟩, fun q' hq => .inr ⟨⟨h.1, h.2.1⟩, by cases hq; rfl⟩⟩
        have := h.2.2 q hq
        dsimp only; omega
      · rename_i h
        refine ⟨fun q hq => ⟨q, hq, Int.le_refl _⟩, fun hc => ?_, fun q' hq => .inl hq⟩
        cases b with
        | none => exact absurd ⟨hc.1, hc.2, fun q hq => by cases hq⟩ h
        | some q =>
          refine ⟨q, rfl, ?_⟩
          by_cases c : q.1 < l.1
          · exact absurd ⟨hc.1, hc.2, fun q' hq => by cases hq; exact c⟩ h
          · omega
    refine ⟨fun q hq => ?_, fun a ha hc => ?_, fun q' hq => ?_⟩
    · obtain ⟨q1, e1, l1⟩ := hs.1 q hq
      obtain ⟨q2, e2, l2⟩ := h1 q1 e1
      exact ⟨q2, e2, by omega⟩
    · rcases List.mem_cons.mp ha with e | ha
      · subst e
        obtain ⟨q1, e1, l1⟩ := hs.2.1 hc
        obtain ⟨q2, e2, l2⟩ := h1 q1 e1
        exact ⟨q2, e2, by omega⟩
      · exact h2 a ha hc
    · rcases h3 q' hq with e | ⟨a, ha, hc, e⟩
      · rcases hs.2.2 q' e with e | ⟨hc, e⟩
        · exact .inl e
        · exact .inr ⟨l, List.mem_cons_self, hc, e⟩
      · exact .inr ⟨a, List.mem_cons_of_mem _ ha, hc, e⟩
theorem west_max {n : Net} {x y : Int} {s : Wall} (h : westF (linesF n) x y = some s) {w : Wall} (hw : w ∈ n.2) (hu : (spot n w.1).1 = (spot n w.2).1) (hx : (spot n w.1).1 ≤ x) (hy : (spot n w.1).2 ≤ y ∧ y < (spot n w.2).2) : (spot n w.1).1 ≤ (spot n s.2).1 := by
  obtain ⟨_, h2, h3⟩ := west_fold (x := x) (y := y) (linesF n) none
  obtain ⟨q, e, hl⟩ := h2 (lineF n w) (List.mem_map_of_mem (List.mem_filter.mpr ⟨hw, decide_eq_true hu⟩)) ⟨hx, hy⟩
  unfold westF at h
  rw [e] at h
  cases h
  rcases h3 q e with e2 | ⟨l, hl2, _, e2⟩
  · cases e2
  · unfold linesF at hl2
    obtain ⟨w', hw', rfl⟩ := List.mem_map.mp hl2
    rw [e2] at hl ⊢
    exact hl
theorem side_fwd {n : Net} (hn : NetT n) {t : Wall} (ht : isSide n t) (h1 : (spot n t.1).1 = (spot n t.2).1) (h2 : (spot n t.1).2 < (spot n t.2).2) : t ∈ n.2 := by
  rcases ht with h | h
  · exact h
  · have := hn.fwd _ h
    dsimp only at this
    omega
theorem far_step {n : Net} (hn : NetT n) {x y : Int} {s : Wall} (h : westF (linesF n) x y = some s) (hu : Tp.U (spot n) (isSide n) x y) : Tp.LU (spot n) (isSide n) s := by
  obtain ⟨h1, h2, h3, h4, h5⟩ := west_side h
  have h2 : (spot n s.2).1 = (spot n s.1).1 := of_decide_eq_true h2
  have hU : Tp.U (spot n) (isSide n) (spot n s.2).1 y := Tp.mvH2 (fun z hz => by
    rintro ⟨t, ht, e1, e2, c1, c2⟩
    have hw := side_fwd hn ht (by omega) (by omega)
    have := west_max h hw (by omega) (by omega) ⟨c1, c2⟩
    omega) hu
  exact Tp.lu_of hn.geo (west_isSide h) (.inr ⟨h2.symm, .inr ⟨h4, h5, h2⟩⟩) hU
theorem lu_iter {n : Net} (hn : NetT n) : ∀ (k : Nat) {s : Wall}, isSide n s → Tp.LU (spot n) (isSide n) s → Tp.LU (spot n) (isSide n) (iterF n k s)
  | 0, _, _, h => h
  | k + 1, s, hs, h => lu_iter hn k (next_side hs) (Tp.lu_next hn.geo hs (next_nx hn hs) h)
theorem iter_add {n : Net} : ∀ (i k : Nat) {s : Wall}, iterF n (i + k) s = iterF n i (iterF n k s)
  | 0, k, s => by rw [Nat.zero_add]; rfl
  | i + 1, k, s => by
    rw [show i + 1 + k = (i + k) + 1 by omega, iter_succ, iter_succ, iter_add i k]
theorem lu_orb {n : Net} (hn : NetT n) {b s : Wall} (hb : isSide n b) (hs : s ∈ orb n b) (h : Tp.LU (spot n) (isSide n) s) : ∀ u ∈ orb n b, Tp.LU (spot n) (isSide n) u := fun u hu => by
  obtain ⟨p, hp, e, ep⟩ := orb_eq hn hb
  rw [e] at hs hu
  obtain ⟨j, hj, rfl⟩ := List.mem_map.mp hs
  obtain ⟨i, hi, rfl⟩ := List.mem_map.mp hu
  have hj := List.mem_range.mp hj
  have := lu_iter hn (i + (p - j)) (iter_side j hb) h
  rw [← iter_add, show i + (p - j) + j = i + p by omega, iter_add, ep] at this
  exact this
theorem spot_box {n : Net} (hn : NetT n) {s : Wall} (hs : isSide n s) : (spot n s.1).1 ≤ (1000000 : Nat) ∧ (spot n s.1).2 ≤ (1000000 : Nat) ∧ (spot n s.2).2 ≤ (1000000 : Nat) := by
  have h1 := hn.box _ (hn.toNetL.side_keys hs).1
  have h2 := hn.box _ (hn.toNetL.side_keys hs).2
  omega
theorem room_U {n : Net} (hn : NetT n) : ∀ (m : Nat) (x y : Int), (x + 1).toNat ≤ m → Tp.U (spot n) (isSide n) x y → roomF n (westF (linesF n) x y) = none
  | m, x, y, hm, hu => by
    cases hw : westF (linesF n) x y with
    | none => rfl
    | some s =>
      have hs := west_isSide hw
      obtain ⟨h1, h2, h3, h4, h5⟩ := west_side hw
      have h2 : (spot n s.2).1 = (spot n s.1).1 := of_decide_eq_true h2
      have b2 := hn.box _ (hn.toNetL.side_keys hs).2
      cases m with
      | zero => omega
      | succ m =>
        obtain ⟨b, hb, e, hmem⟩ := num_ring hn hs
        have hl := lu_orb hn hb hmem (far_step hn hw hu)
        have hc := orb_closed hn hb
        have har : (areasF n).getD (numOf n s) 0 ≤ 0 := by
          rw [(num_getD e).2, area_eq, sidesR_orb hn hb]
          have := Tp.shoe_le hn.geo (orb_side hb) hc hl (M := 1000000) fun u hu => spot_box hn (orb_side hb u hu)
          omega
        rw [room_eq hn.netF hs, if_pos har]
        unfold westOf
        rw [(num_getD e).1]
        obtain ⟨k1, c, hcr, ec⟩ := minP_of (n := n) (ring_ne (n := n) (s := b))
        rw [ring_orb] at hcr
        obtain ⟨t, ht, rfl⟩ := List.mem_map.mp hcr
        obtain ⟨s', hs', en⟩ := (orb_next hn hb t ht).2
        have hnx := next_nx hn (orb_side hb s' hs')
        rw [en] at hnx
        have hle : ∀ u ∈ orb n b, (spot n t.1).1 < (spot n u.1).1 ∨ (spot n t.1).1 = (spot n u.1).1 ∧ (spot n t.1).2 ≤ (spot n u.1).2 := fun u hu => by
          rw [← ec]; exact k1 _ (orb_fst hu)
        have hU := Tp.least_U hn.geo (orb_side hb) hc hl hs' ht hnx hle fun u hu => by
          have := hle _ (orb_next hn hb u hu).1
          rw [next_fst] at this
          exact this
        have hx := hle s hmem
        have b1 := (hn.box _ (hn.toNetL.side_keys (orb_side hb t ht)).1).1
        rw [ec]
        exact room_U hn m _ _ (by omega) hU
/-- a cell of a room -/
theorem cell_in {n : Net} (hn : NetT n) {x y : Int} (h : (cellF n x y).isSome) : (∃ c ∈ n.1, c.2.1 ≤ x) ∧ (∃ c ∈ n.1, c.2.2 ≤ y) ∧ (0 ≤ x ∧ x < 1000000) ∧ (0 ≤ y ∧ y < 1000000) := by
  unfold cellF at h
  rw [Option.isSome_map] at h
  cases hw : westF (linesF n) x y with
  | none =>
    rw [hw] at h
    have : roomF n none = none := rfl
    rw [this] at h; cases h
  | some s =>
    have hs := west_isSide hw
    obtain ⟨h1, h2, h3, h4, h5⟩ := west_side hw
    have k := hn.toNetL.side_keys hs
    have b1 := hn.box _ k.1
    have b2 := hn.box _ k.2
    obtain ⟨c, hc, ec⟩ := List.mem_map.mp k.2
    have e : spot n s.2 = c.2 := by
      unfold spot
      rw [lookup_nd (b := c.2) hn.nd (by rw [← ec]; exact hc)]; rfl
    have hx : x < 1000000 := by
      rcases Int.lt_or_le x 1000000 with c | c
      · exact c
      · rw [room_U hn _ x y (Nat.le_refl _) (Tp.far_U hn.geo (fun u hu => by
          have := (hn.box _ (hn.toNetL.side_keys hu).1)
          omega) y)] at h
        cases h
    rw [e] at h3 h4 b2
    exact ⟨⟨c, hc, h3⟩, ⟨c, hc, h4⟩, ⟨by omega, hx⟩, by omega, by omega⟩
end My
end

section
set_option Elab.async false
set_option linter.all false
set_option maxRecDepth 100000
set_option maxHeartbeats 4000000
namespace My
open PySem G
/-! plain: the drawn net -/
theorem num_map : ∀ {ks : List Pt} {ns : List Int}, ks.Nodup → ns.length = ks.length → ks.map (numF ks ns) = ns
  | [], [], _, _ => rfl
  | [], _ :: _, _, h => by cases h
  | _ :: _, [], _, h => by cases h
  | a :: ks, m :: ns, nd, h => by
    rw [List.nodup_cons] at nd
    have e : numF (a :: ks) (m :: ns) a = m := by unfold numF; simp [List.lookup]
    rw [List.map_cons, e]
    refine congrArg _ ((List.map_congr_left fun k hk => ?_).trans (num_map nd.2 (by simpa using h)))
    have hne : k ≠ a := fun e => nd.1 (by rw [← e]; exact hk)
    have e2 : (k == a) = false := by simpa using hne
    unfold numF
    simp only [List.zip_cons_cons, List.lookup, e2]
theorem nodup_map_inj {α β : Type} {f : α → β} : ∀ {l : List α}, (l.map f).Nodup → ∀ a ∈ l, ∀ b ∈ l, f a = f b → a = b
  | [], _, a, h, _, _, _ => by cases h
  | x :: l, nd, a, ha, b, hb, e => by
    rw [List.map_cons, List.nodup_cons] at nd
    rcases List.mem_cons.mp ha with ea | ha <;> rcases List.mem_cons.mp hb with eb | hb
    · rw [ea, eb]
    · exact absurd (by rw [← ea, e]; exact List.mem_map_of_mem hb) nd.1
    · exact absurd (by rw [← eb, ← e]; exact List.mem_map_of_mem ha) nd.1
    · exact nodup_map_inj nd.2 a ha b hb e
theorem nodup_map_of {α β : Type} {f : α → β} : ∀ {l : List α}, l.Nodup → (∀ a ∈ l, ∀ b ∈ l, f a = f b → a = b) → (l.map f).Nodup
  | [], _, _ => List.nodup_nil
  | x :: l, nd, h => by
    rw [List.nodup_cons] at nd
    rw [List.map_cons, List.nodup_cons]
    refine ⟨fun hm => ?_, nodup_map_of nd.2 fun a ha b hb => h a (List.mem_cons_of_mem _ ha) b (List.mem_cons_of_mem _ hb)⟩
    obtain ⟨y, hy, e⟩ := List.mem_map.mp hm
    have := h y (List.mem_cons_of_mem _ hy) x List.mem_cons_self e
    subst this
    exact nd.1 hy
/-- rising places -/
theorem rise {xs : List Int} (h : xs.Pairwise (· < ·)) {a b : Int} (ha : 0 ≤ a) (hab : a < b) (hb : b < xs.length) : xs.getD a.toNat 0 < xs.getD b.toNat 0 := by
  have h1 : a.toNat < xs.length := by omega
  have h2 : b.toNat < xs.length := by omega
  have := List.pairwise_iff_getElem.mp h a.toNat b.toNat h1 h2 (by omega)
  simpa [List.getD, h1, h2] using this
theorem rise_lt {xs : List Int} (h : xs.Pairwise (· < ·)) {a b : Int} (ha : 0 ≤ a) (hb : 0 ≤ b) (ha2 : a < xs.length) (hb2 : b < xs.length) : (xs.getD a.toNat 0 < xs.getD b.toNat 0 ↔ a < b) ∧ (xs.getD a.toNat 0 = xs.getD b.toNat 0 ↔ a = b) := by
  rcases Int.lt_or_le a b with c | c
  · have := rise h ha c hb2
    omega
  · rcases Int.lt_or_le b a with c2 | c2
    · have := rise h hb c2 ha2
      omega
    · have : a = b := by omega
      subst this; omega
theorem getD_in {xs : List Int} {a : Int} (ha : 0 ≤ a) (hb : a < xs.length) : xs.getD a.toNat 0 ∈ xs := by
  have h1 : a.toNat < xs.length := by omega
  have : xs.getD a.toNat 0 = xs[a.toNat] := by simp [List.getD, h1]
  rw [this]; exact List.getElem_mem h1
/-- ways are unlike wherever walls lie as in a plane -/
theorem ways_nd {n : Net} (geo : Tp.Geo (spot n) (isSide n)) (nd : n.2.Nodup) (fwd : ∀ w ∈ n.2, ((spot n w.1).1 = (spot n w.2).1 ∧ (spot n w.1).2 < (spot n w.2).2) ∨ ((spot n w.1).2 = (spot n w.2).2 ∧ (spot n w.1).1 < (spot n w.2).1)) (c : Int) : ((nbrs n c).map (·.1)).Nodup := by
  have key : ∀ w ∈ n.2, ∀ w' ∈ n.2, w ≠ w' → ∀ q, nbr n c w = some q → ∀ q', nbr n c w' = some q' → q.1 ≠ q'.1 := by
    intro w hw w' hw' hne q hq q' hq' e
    have hs : isSide n (c, q.2) ∧ q.1 = wayF (spot n c) (spot n q.2) ∧ (w = (c, q.2) ∨ w = (q.2, c)) := by
      have hm : q ∈ nbrs n c := List.mem_filterMap.mpr ⟨w, hw, hq⟩
      refine ⟨nbr_side hm, nbr_way hm, ?_⟩
      unfold nbr at hq
      split at hq
      · rename_i h; cases hq; left; rw [← h]
      · split at hq
        · rename_i h; cases hq; right; rw [← h]
        · cases hq
    have hs' : isSide n (c, q'.2) ∧ q'.1 = wayF (spot n c) (spot n q'.2) ∧ (w' = (c, q'.2) ∨ w' = (q'.2, c)) := by
      have hm : q' ∈ nbrs n c := List.mem_filterMap.mpr ⟨w', hw', hq'⟩
      refine ⟨nbr_side hm, nbr_way hm, ?_⟩
      unfold nbr at hq'
      split at hq'
      · rename_i h; cases hq'; left; rw [← h]
      · split at hq'
        · rename_i h; cases hq'; right; rw [← h]
        · cases hq'
    obtain ⟨s1, s2, s3⟩ := hs
    obtain ⟨t1, t2, t3⟩ := hs'
    rw [s2, t2] at e
    have ev : q.2 ≠ q'.2 := fun ev => by
      rw [← ev] at t3
      have f1 := fwd w hw
      have f2 := fwd w' hw'
      rcases s3 with rfl | rfl <;> rcases t3 with rfl | rfl
      · exact hne rfl
      · dsimp only at f1 f2; omega
      · dsimp only at f1 f2; omega
      · exact hne rfl
    have ep : spot n q.2 ≠ spot n q'.2 := fun ep => ev (geo.inj _ _ (side_rev s1) (side_rev t1) ep)
    have c1 := Tp.way_cases geo s1
    have c2 := Tp.way_cases geo t1
    simp only [way_eq] at c1 c2
    have i1 := geo.in1 _ _ s1 (side_rev t1)
    have i2 := geo.in1 _ _ t1 (side_rev s1)
    have i3 := geo.in1 _ _ (side_rev s1) (side_rev t1)
    have i4 := geo.in1 _ _ (side_rev t1) (side_rev s1)
    have j1 := geo.in2 _ _ s1 (side_rev t1)
    have j2 := geo.in2 _ _ t1 (side_rev s1)
    have j3 := geo.in2 _ _ (side_rev s1) (side_rev t1)
    have j4 := geo.in2 _ _ (side_rev t1) (side_rev s1)
    dsimp only at c1 c2 i1 i2 i3 i4 j1 j2 j3 j4
    rcases c1 with ⟨a, b, k⟩ | ⟨a, b, k⟩ | ⟨a, b, k⟩ | ⟨a, b, k⟩ <;> rcases c2 with ⟨a', b', k'⟩ | ⟨a', b', k'⟩ | ⟨a', b', k'⟩ | ⟨a', b', k'⟩ <;> first | exact absurd (k.symm.trans (e.trans k')) (by decide) | skip
    · have ne : (spot n q.2).1 ≠ (spot n q'.2).1 := fun h => ep (Prod.ext h (a.symm.trans a'))
      rcases Int.lt_or_gt_of_ne ne with c | c
      · exact j2 a' a.symm ⟨b, c⟩
      · exact j1 a a'.symm ⟨b', c⟩
    · have ne : (spot n q.2).2 ≠ (spot n q'.2).2 := fun h => ep (Prod.ext (a.symm.trans a') h)
      rcases Int.lt_or_gt_of_ne ne with c | c
      · exact i2 a' a.symm ⟨b, c⟩
      · exact i1 a a'.symm ⟨b', c⟩
    · have ne : (spot n q.2).1 ≠ (spot n q'.2).1 := fun h => ep (Prod.ext h (a.symm.trans a'))
      rcases Int.lt_or_gt_of_ne ne with c | c
      · exact j3 a.symm (a'.symm.trans a) ⟨c, b'⟩
      · exact j4 a'.symm (a.symm.trans a') ⟨c, b⟩
    · have ne : (spot n q.2).2 ≠ (spot n q'.2).2 := fun h => ep (Prod.ext (a.symm.trans a') h)
      rcases Int.lt_or_gt_of_ne ne with c | c
      · exact i3 a.symm (a'.symm.trans a) ⟨c, b'⟩
      · exact i4 a'.symm (a.symm.trans a') ⟨c, b⟩
  have : ∀ {l : List Wall}, l.Nodup → (∀ w ∈ l, w ∈ n.2) → ((l.filterMap (nbr n c)).map (·.1)).Nodup := by
    intro l
    induction l with
    | nil => intro _ _; exact List.nodup_nil
    | cons w l ih =>
      intro nd hl
      rw [List.nodup_cons] at nd
      have ih := ih nd.2 fun x hx => hl x (List.mem_cons_of_mem _ hx)
      cases e : nbr n c w with
      | none => rw [List.filterMap_cons_none e]; exact ih
      | some q =>
        rw [List.filterMap_cons_some e, List.map_cons, List.nodup_cons]
        refine ⟨fun hm => ?_, ih⟩
        obtain ⟨q', hq', e'⟩ := List.mem_map.mp hm
        obtain ⟨w', hw', e''⟩ := List.mem_filterMap.mp hq'
        exact key w (hl w List.mem_cons_self) w' (hl w' (List.mem_cons_of_mem _ hw')) (fun h => nd.1 (by rw [h]; exact hw')) q e q' e'' e'.symm
  exact this nd fun _ h => h
theorem pway {k a : Pt} (h : a ≠ k) (hal : a.1 = k.1 ∨ a.2 = k.2) : (k.2 = a.2 ∧ k.1 < a.1 ∧ wayF k a = 0) ∨ (k.1 = a.1 ∧ k.2 < a.2 ∧ wayF k a = 1) ∨ (k.2 = a.2 ∧ a.1 < k.1 ∧ wayF k a = 2) ∨ (k.1 = a.1 ∧ a.2 < k.2 ∧ wayF k a = 3) := by
  have : ¬ (a.1 = k.1 ∧ a.2 = k.2) := fun e => h (Prod.ext e.1 e.2)
  unfold wayF
  by_cases e : k.2 = a.2
  · rw [if_pos e]
    by_cases c : a.1 < k.1
    · rw [if_pos c]; omega
    · rw [if_neg c]; omega
  · rw [if_neg e]
    by_cases c : a.2 < k.2
    · rw [if_pos c]; omega
    · rw [if_neg c]; omega
section
variable {cols rows : Nat} {kn : List Pt} {L : Pt → List Pt} {xs ys ns : List Int} (h : NetG cols rows kn L xs ys ns)
include h
theorem live_mem {k : Pt} : k ∈ liveF kn L ↔ inG cols rows k ∧ L k ≠ [] := by
  unfold liveF
  rw [List.mem_filter, List.mem_mergeSort, h.knr.mem]
  unfold inG
  simp only [Bool.not_eq_true', decide_eq_false_iff_not]
  constructor
  · rintro ⟨h1, h2⟩; exact ⟨by omega, h2⟩
  · rintro ⟨h1, h2⟩; exact ⟨by omega, h2⟩
theorem live_nd : (liveF kn L).Nodup := List.Nodup.sublist List.filter_sublist ((List.Perm.nodup_iff (List.mergeSort_perm _ _)).mpr h.knr.nd)
theorem live_len : (liveF kn L).length ≤ 25 := by
  have h1 : (liveF kn L).length ≤ (kn.mergeSort (PySem.W.dataLe false dPr)).length := List.length_filter_le _ _
  rw [List.length_mergeSort, h.knr.len] at h1
  have := h.cs
  have := h.rs
  have : rows * cols ≤ 5 * 5 := Nat.mul_le_mul (by omega) (by omega)
  omega
theorem link_live {k t : Pt} (ht : t ∈ L k) : k ∈ liveF kn L ∧ t ∈ liveF kn L := by
  obtain ⟨h1, h2, _, _⟩ := h.grid.ali k t ht
  have hs := h.grid.sym k t ht
  exact ⟨(live_mem h).mpr ⟨h1, fun e => by rw [e] at ht; cases ht⟩, (live_mem h).mpr ⟨h2, fun e => by rw [e] at hs; cases hs⟩⟩
theorem num_inj {k t : Pt} (hk : k ∈ liveF kn L) (ht : t ∈ liveF kn L) (e : numF (liveF kn L) ns k = numF (liveF kn L) ns t) : k = t :=
  nodup_map_inj (f := numF (liveF kn L) ns) (by rw [num_map (live_nd h) h.len]; exact h.nd) k hk t ht e
theorem keys_perm : (keys (netG kn L xs ys ns)).Perm ns := by
  unfold keys netG
  refine ((List.mergeSort_perm _ _).map _).trans ?_
  unfold cornersF
  rw [List.map_map]
  have : (liveF kn L).map ((fun x : Corner => x.1) ∘ fun k => (numF (liveF kn L) ns k, (xs.getD k.1.toNat 0, ys.getD k.2.toNat 0))) = ns := num_map (live_nd h) h.len
  rw [this]
theorem keys_nd : (keys (netG kn L xs ys ns)).Nodup := (keys_perm h).nodup_iff.mpr h.nd
theorem spot_num {k : Pt} (hk : k ∈ liveF kn L) : spot (netG kn L xs ys ns) (numF (liveF kn L) ns k) = (xs.getD k.1.toNat 0, ys.getD k.2.toNat 0) := by
  unfold spot
  rw [lookup_nd (b := (xs.getD k.1.toNat 0, ys.getD k.2.toNat 0)) (keys_nd h)]
  · rfl
  · unfold netG
    rw [List.mem_mergeSort]
    unfold cornersF
    exact List.mem_map.mpr ⟨k, hk, rfl⟩
theorem mem_walls {w : Wall} : w ∈ (netG kn L xs ys ns).2 ↔ ∃ k t, t ∈ L k ∧ ltP k t = true ∧ w = (numF (liveF kn L) ns k, numF (liveF kn L) ns t) := by
  unfold netG
  rw [List.mem_mergeSort]
  unfold shutsF shutsAt
  rw [List.mem_flatMap]
  constructor
  · rintro ⟨k, _, hw⟩
    obtain ⟨t, ht, rfl⟩ := List.mem_map.mp hw
    obtain ⟨h1, h2⟩ := List.mem_filter.mp ht
    exact ⟨k, t, h1, h2, rfl⟩
  · rintro ⟨k, t, h1, h2, rfl⟩
    exact ⟨k, (link_live h h1).1, List.mem_map.mpr ⟨t, List.mem_filter.mpr ⟨h1, h2⟩, rfl⟩⟩
theorem lt_iff {k t : Pt} : ltP k t = true ↔ k.1 < t.1 ∨ k.1 = t.1 ∧ k.2 < t.2 := by
  unfold ltP
  simp only [HT.lexLt]
  by_cases e : k.1 = t.1
  · rw [if_pos e]
    by_cases e2 : k.2 = t.2
    · rw [if_pos e2]; simp; omega
    · rw [if_neg e2]; simp; omega
  · rw [if_neg e]; simp; omega
theorem side_iff {s : Wall} : isSide (netG kn L xs ys ns) s ↔ ∃ k t, t ∈ L k ∧ s = (numF (liveF kn L) ns k, numF (liveF kn L) ns t) := by
  unfold isSide
  rw [mem_walls h, mem_walls h]
  constructor
  · rintro (⟨k, t, h1, _, rfl⟩ | ⟨k, t, h1, _, e⟩)
    · exact ⟨k, t, h1, rfl⟩
    · refine ⟨t, k, h.grid.sym k t h1, ?_⟩
      obtain ⟨a, b⟩ := s
      simp only [Prod.mk.injEq] at e ⊢
      exact ⟨e.2, e.1⟩
  · rintro ⟨k, t, h1, rfl⟩
    have hne := (h.grid.ali k t h1).2.2.1
    by_cases c : ltP k t = true
    · exact .inl ⟨k, t, h1, c, rfl⟩
    · refine .inr ⟨t, k, h.grid.sym k t h1, ?_, rfl⟩
      rw [lt_iff h] at c ⊢
      have : ¬ (t.1 = k.1 ∧ t.2 = k.2) := fun e => hne (Prod.ext e.1 e.2)
      omega
theorem xs_len : (xs.length : Int) = cols ∧ (ys.length : Int) = rows := ⟨h.lxs.len, h.lys.len⟩
theorem cmp_x {k t : Pt} (hk : k ∈ liveF kn L) (ht : t ∈ liveF kn L) : (xs.getD k.1.toNat 0 < xs.getD t.1.toNat 0 ↔ k.1 < t.1) ∧ (xs.getD k.1.toNat 0 = xs.getD t.1.toNat 0 ↔ k.1 = t.1) := by
  have h1 := ((live_mem h).mp hk).1
  have h2 := ((live_mem h).mp ht).1
  have := (xs_len h).1
  unfold inG at h1 h2
  exact rise_lt h.lxs.lt (by omega) (by omega) (by omega) (by omega)
theorem cmp_y {k t : Pt} (hk : k ∈ liveF kn L) (ht : t ∈ liveF kn L) : (ys.getD k.2.toNat 0 < ys.getD t.2.toNat 0 ↔ k.2 < t.2) ∧ (ys.getD k.2.toNat 0 = ys.getD t.2.toNat 0 ↔ k.2 = t.2) := by
  have h1 := ((live_mem h).mp hk).1
  have h2 := ((live_mem h).mp ht).1
  have := (xs_len h).2
  unfold inG at h1 h2
  exact rise_lt h.lys.lt (by omega) (by omega) (by omega) (by omega)
theorem box_k {k : Pt} (hk : k ∈ liveF kn L) : (0 ≤ xs.getD k.1.toNat 0 ∧ xs.getD k.1.toNat 0 ≤ 1000000) ∧ (0 ≤ ys.getD k.2.toNat 0 ∧ ys.getD k.2.toNat 0 ≤ 1000000) := by
  have h1 := ((live_mem h).mp hk).1
  have h2 := xs_len h
  unfold inG at h1
  exact ⟨h.lxs.box _ (getD_in (by omega) (by omega)), h.lys.box _ (getD_in (by omega) (by omega))⟩
theorem geo_of : Tp.Geo (spot (netG kn L xs ys ns)) (isSide (netG kn L xs ys ns)) := by
  have no : ∀ {k t m : Pt}, t ∈ L k → m ∈ liveF kn L → Btw k m t → False := fun ht hm hb => ((live_mem h).mp hm).2 (h.grid.gap _ _ ht _ hb)
  refine ⟨fun s hs => side_rev hs, fun s hs => ?_, fun s hs => ?_, fun s t hs ht e => ?_, fun s t hs ht e1 e2 hb => ?_, fun s t hs ht e1 e2 hb => ?_, fun s t hs ht e1 e2 hb => ?_⟩
  · obtain ⟨k, t, h1, rfl⟩ := (side_iff h).mp hs
    obtain ⟨lk, lt⟩ := link_live h h1
    obtain ⟨_, _, hne, hal⟩ := h.grid.ali k t h1
    dsimp only
    rw [spot_num h lk, spot_num h lt]
    have cx := cmp_x h lk lt
    have cy := cmp_y h lk lt
    have : ¬ (t.1 = k.1 ∧ t.2 = k.2) := fun e => hne (Prod.ext e.1 e.2)
    dsimp only
    omega
  · obtain ⟨k, t, h1, rfl⟩ := (side_iff h).mp hs
    obtain ⟨lk, lt⟩ := link_live h h1
    dsimp only
    rw [spot_num h lk]
    have := box_k h lk
    exact ⟨this.1.1, this.2.1⟩
  · obtain ⟨k, _, h1, rfl⟩ := (side_iff h).mp hs
    obtain ⟨k', _, h1', rfl⟩ := (side_iff h).mp ht
    have lk := (link_live h h1).1
    have lk' := (link_live h h1').1
    dsimp only at e ⊢
    rw [spot_num h lk, spot_num h lk'] at e
    have ex := congrArg Prod.fst e
    have ey := congrArg Prod.snd e
    dsimp only at ex ey
    have : k = k' := Prod.ext ((cmp_x h lk lk').2.mp ex) ((cmp_y h lk lk').2.mp ey)
    rw [this]
  · obtain ⟨k, t', h1, rfl⟩ := (side_iff h).mp hs
    obtain ⟨m, _, h2, rfl⟩ := (side_iff h).mp ht
    obtain ⟨lk, lt⟩ := link_live h h1
    have lm := (link_live h h2).1
    dsimp only at e1 e2 hb
    rw [spot_num h lk, spot_num h lt] at e1
    rw [spot_num h lk, spot_num h lm] at e2
    rw [spot_num h lk, spot_num h lm, spot_num h lt] at hb
    dsimp only at e1 e2 hb
    exact no h1 lm (.inl ⟨(cmp_x h lk lt).2.mp e1, (cmp_x h lm lk).2.mp e2, .inl ⟨(cmp_y h lk lm).1.mp hb.1, (cmp_y h lm lt).1.mp hb.2⟩⟩)
  · obtain ⟨k, t', h1, rfl⟩ := (side_iff h).mp hs
    obtain ⟨m, _, h2, rfl⟩ := (side_iff h).mp ht
    obtain ⟨lk, lt⟩ := link_live h h1
    have lm := (link_live h h2).1
    dsimp only at e1 e2 hb
    rw [spot_num h lk, spot_num h lt] at e1
    rw [spot_num h lk, spot_num h lm] at e2
    rw [spot_num h lk, spot_num h lm, spot_num h lt] at hb
    dsimp only at e1 e2 hb
    exact no h1 lm (.inr ⟨(cmp_y h lk lt).2.mp e1, (cmp_y h lm lk).2.mp e2, .inl ⟨(cmp_x h lk lm).1.mp hb.1, (cmp_x h lm lt).1.mp hb.2⟩⟩)
  · obtain ⟨k, t1, h1, rfl⟩ := (side_iff h).mp hs
    obtain ⟨m, t2, h2, rfl⟩ := (side_iff h).mp ht
    obtain ⟨lk, lt⟩ := link_live h h1
    obtain ⟨lm, lu⟩ := link_live h h2
    dsimp only at e1 e2 hb
    rw [spot_num h lk, spot_num h lt] at e1
    rw [spot_num h lm, spot_num h lu] at e2
    rw [spot_num h lk, spot_num h lm, spot_num h lt, spot_num h lu] at hb
    dsimp only at e1 e2 hb
    obtain ⟨b1, b2, b3, b4⟩ := hb
    have e1 := (cmp_x h lk lt).2.mp e1
    have e2 := (cmp_y h lm lu).2.mp e2
    have b1 := (cmp_y h lk lm).1.mp b1
    have b2 := (cmp_y h lm lt).1.mp b2
    have b3 := (cmp_x h lm lk).1.mp b3
    have b4 := (cmp_x h lk lu).1.mp b4
    have := h.grid.crs k t1 m t2 h1 h2 (k.1, m.2) (.inl ⟨e1, rfl, .inl ⟨b1, b2⟩⟩) (.inr ⟨e2, rfl, .inl ⟨b3, b4⟩⟩)
    omega
theorem fwd_of : ∀ w ∈ (netG kn L xs ys ns).2, ((spot (netG kn L xs ys ns) w.1).1 = (spot (netG kn L xs ys ns) w.2).1 ∧ (spot (netG kn L xs ys ns) w.1).2 < (spot (netG kn L xs ys ns) w.2).2) ∨ ((spot (netG kn L xs ys ns) w.1).2 = (spot (netG kn L xs ys ns) w.2).2 ∧ (spot (netG kn L xs ys ns) w.1).1 < (spot (netG kn L xs ys ns) w.2).1) := fun w hw => by
  obtain ⟨k, t, h1, h2, rfl⟩ := (mem_walls h).mp hw
  obtain ⟨lk, lt⟩ := link_live h h1
  have h2 := (lt_iff h).mp h2
  have hal := (h.grid.ali k t h1).2.2.2
  dsimp only
  rw [spot_num h lk, spot_num h lt]
  have cx := cmp_x h lk lt
  have cy := cmp_y h lk lt
  dsimp only
  omega
theorem walls_nd : (netG kn L xs ys ns).2.Nodup := by
  unfold netG
  refine (List.mergeSort_perm _ _).nodup_iff.mpr ?_
  unfold shutsF
  refine List.pairwise_flatMap.mpr ⟨fun k hk => ?_, ?_⟩
  · unfold shutsAt
    refine nodup_map_of (List.Nodup.sublist List.filter_sublist (h.grid.nd k)) fun a ha b hb e => ?_
    exact num_inj h (link_live h (List.mem_filter.mp ha).1).2 (link_live h (List.mem_filter.mp hb).1).2 (congrArg Prod.snd e)
  · have := List.pairwise_iff_getElem.mp (live_nd h)
    refine List.pairwise_iff_getElem.mpr fun i j hi hj hij w hw w' hw' e => ?_
    unfold shutsAt at hw hw'
    obtain ⟨a, _, rfl⟩ := List.mem_map.mp hw
    obtain ⟨b, _, e2⟩ := List.mem_map.mp hw'
    rw [← e2] at e
    exact this i j hi hj hij (num_inj h (List.getElem_mem hi) (List.getElem_mem hj) (congrArg Prod.fst e))
theorem link4 (k : Pt) : (L k).length ≤ 4 := by
  have h1 : ((L k).map (wayF k)).Nodup := nodup_map_of (h.grid.nd k) fun a ha b hb e => Classical.byContradiction fun hne => by
    obtain ⟨_, _, a1, a2⟩ := h.grid.ali k a ha
    obtain ⟨_, _, b1, b2⟩ := h.grid.ali k b hb
    have x1 : ¬ Btw k a b := fun hb' => ((live_mem h).mp (link_live h ha).2).2 (h.grid.gap k b hb a hb')
    have x2 : ¬ Btw k b a := fun hb' => ((live_mem h).mp (link_live h hb).2).2 (h.grid.gap k a ha b hb')
    rcases pway a1 a2 with ⟨p, q, r⟩ | ⟨p, q, r⟩ | ⟨p, q, r⟩ | ⟨p, q, r⟩ <;> rcases pway b1 b2 with ⟨p', q', r'⟩ | ⟨p', q', r'⟩ | ⟨p', q', r'⟩ | ⟨p', q', r'⟩ <;> first | exact absurd (r.symm.trans (e.trans r')) (by decide) | skip
    · have ne : a.1 ≠ b.1 := fun h => hne (Prod.ext h (p.symm.trans p'))
      rcases Int.lt_or_gt_of_ne ne with c | c
      · exact x1 (.inr ⟨p', p.symm, .inl ⟨q, c⟩⟩)
      · exact x2 (.inr ⟨p, p'.symm, .inl ⟨q', c⟩⟩)
    · have ne : a.2 ≠ b.2 := fun h => hne (Prod.ext (p.symm.trans p') h)
      rcases Int.lt_or_gt_of_ne ne with c | c
      · exact x1 (.inl ⟨p', p.symm, .inl ⟨q, c⟩⟩)
      · exact x2 (.inl ⟨p, p'.symm, .inl ⟨q', c⟩⟩)
    · have ne : a.1 ≠ b.1 := fun h => hne (Prod.ext h (p.symm.trans p'))
      rcases Int.lt_or_gt_of_ne ne with c | c
      · exact x2 (.inr ⟨p, p'.symm, .inr ⟨c, q'⟩⟩)
      · exact x1 (.inr ⟨p', p.symm, .inr ⟨c, q⟩⟩)
    · have ne : a.2 ≠ b.2 := fun h => hne (Prod.ext (p.symm.trans p') h)
      rcases Int.lt_or_gt_of_ne ne with c | c
      · exact x2 (.inl ⟨p, p'.symm, .inr ⟨c, q'⟩⟩)
      · exact x1 (.inl ⟨p', p.symm, .inr ⟨c, q⟩⟩)
  have := subl h1 (m := [0, 1, 2, 3]) fun x hx => by
    obtain ⟨t, _, rfl⟩ := List.mem_map.mp hx
    unfold wayF
    split <;> split <;> decide
  rw [List.length_map] at this
  exact this
theorem walls_len : (netG kn L xs ys ns).2.length ≤ 100 := by
  unfold netG
  rw [List.length_mergeSort]
  have h1 := flat_len (l := liveF kn L) (f := shutsAt (liveF kn L) ns L) (m := 4) fun x => shut_len (link4 h x)
  have h2 := live_len h
  unfold shutsF
  omega
theorem corners_len : (netG kn L xs ys ns).1.length ≤ 25 := by
  unfold netG
  rw [List.length_mergeSort]
  unfold cornersF
  rw [List.length_map]
  exact live_len h
theorem corner_box : ∀ c ∈ (netG kn L xs ys ns).1, (0 ≤ c.2.1 ∧ c.2.1 ≤ 1000000) ∧ (0 ≤ c.2.2 ∧ c.2.2 ≤ 1000000) := fun c hc => by
  unfold netG at hc
  rw [List.mem_mergeSort] at hc
  unfold cornersF at hc
  obtain ⟨k, hk, rfl⟩ := List.mem_map.mp hc
  exact box_k h hk
theorem netR_of : NetR (netG kn L xs ys ns) := ⟨by have := corners_len h; omega, by have := walls_len h; omega, keys_nd h, fun w hw => by
  obtain ⟨k, t, h1, h2, rfl⟩ := (mem_walls h).mp hw
  obtain ⟨lk, lt⟩ := link_live h h1
  have : ∀ {k}, k ∈ liveF kn L → numF (liveF kn L) ns k ∈ keys (netG kn L xs ys ns) := fun {k} hk => by
    unfold keys netG
    refine List.mem_map.mpr ⟨(numF (liveF kn L) ns k, (xs.getD k.1.toNat 0, ys.getD k.2.toNat 0)), ?_, rfl⟩
    rw [List.mem_mergeSort]
    unfold cornersF
    exact List.mem_map.mpr ⟨k, hk, rfl⟩
  exact ⟨this lk, this lt⟩⟩
theorem netT_of : NetT (netG kn L xs ys ns) := by
  have hne : ∀ w ∈ (netG kn L xs ys ns).2, w.1 ≠ w.2 := fun w hw e => by
    have := fwd_of h w hw
    rw [e] at this
    omega
  refine ⟨⟨netR_of h, hne, walls_len h, ways_nd (geo_of h) (walls_nd h) (fwd_of h), fun c hc => ?_⟩, walls_nd h, fwd_of h, geo_of h⟩
  obtain ⟨x, hx, rfl⟩ := List.mem_map.mp hc
  rw [spot_mem (netR_of h) hx]
  have := corner_box h x hx
  omega
theorem netW_of : NetW (netG kn L xs ys ns) := by
  have hT := netT_of h
  refine ⟨⟨netR_of h, by have := corners_len h; omega, corner_box h⟩, walls_nd h, hT.ne, walls_len h, fun w hw => ?_⟩
  have h1 := fwd_of h w hw
  have h2 := hT.box _ (hT.ends w hw).1
  have h3 := hT.box _ (hT.ends w hw).2
  unfold lengthF endsF
  dsimp only
  omega
end
theorem GenNet.t {n : Net} (h : GenNet n) : NetT n := by
  obtain ⟨_, _, _, _, _, _, _, h, rfl⟩ := h
  exact netT_of h
theorem GenNet.w {n : Net} (h : GenNet n) : NetW n := by
  obtain ⟨_, _, _, _, _, _, _, h, rfl⟩ := h
  exact netW_of h
end My
end

section
set_option Elab.async false
set_option linter.all false
set_option maxRecDepth 100000
set_option maxHeartbeats 4000000
namespace G
open PySem L2
section
variable {Γ : En} {Ω : Om} {te ta tb tc tl td tv ty : TE} {tt tu : TT} {t u : TS} {Φ : Po} {g : TG} {gs : TGs}
theorem TgW.imp {d : D} {Q Q' : En → Om → Prop} (h : TgW g d Γ Ω Q) (q : ∀ Γ' Ω', Q Γ' Ω' → Q' Γ' Ω') : TgW g d Γ Ω Q' := fun σ H0 H v R s gh r k =>
  h σ H0 H v R s gh r fun σ' Γ' Ω' H0' H' hq => k σ' Γ' Ω' H0' H' (q _ _ hq)
/-- a comprehension over one's own list -/
theorem ev_lcOD {K : PySem.W.Frag} {vs : List Nat} {p : Addr} {j : Nat} {α : Type} (xs : List α) (enc : α → PyData) (p' : α → Bool) (f : α → PyData) (hi : EvD tl Γ Ω (.loc p)) (hj : Ω[j]? = some (p, .lst ((xs.map enc).map D.py))) (ok : TgOk g vs) (hz : xs.length < 100000)
    (hb : ∀ a ∈ xs, TgW g (.py (enc a)) (wipeG Γ vs) Ω fun Γ2 Ω2 => Ω2 = Ω ∧ TsD tt Γ2 Ω (p' a) ∧ (p' a = true → EvD te Γ2 Ω (.py (f a)))) : EvD (tLc (iList K tl) g tt te vs) Γ Ω (.py (.list ((xs.filter p').map f))) := fun Q q =>
  ev_frzL (ev_lcOW ((xs.map enc).map D.py) (fun i acc Ω' => Ω' = Ω ∧ acc = (((xs.take i).filter p').map f).map D.py) hi ⟨j, hj⟩ ok (by rw [List.length_map, List.length_map]; exact hz) ⟨rfl, rfl⟩ (fun i acc Ω' h => ⟨j, by rw [h.1]; exact hj⟩) (fun i d acc Ω' hd h => by
    obtain ⟨rfl, rfl⟩ := h
    rw [List.getElem?_map, List.getElem?_map] at hd
    cases e : xs[i]? with
    | none => rw [e] at hd; cases hd
    | some a =>
      rw [e] at hd
      cases hd
      refine ⟨Nat.lt_of_le_of_lt (fm_len xs i p' f) hz, (hb a (List.mem_of_getElem? e)).imp fun Γ2 Ω2 h => ?_⟩
      obtain ⟨rfl, h1, h2⟩ := h
      refine TsD.toW h1 ?_
      rw [fm_next e]
      cases hp : p' a with
      | true => rw [if_pos rfl, if_pos rfl]; exact EvD.toW (h2 hp) ⟨rfl, rfl⟩
      | false => rw [if_neg (by simp), if_neg (by simp)]; exact ⟨rfl, rfl⟩) fun l acc Ω' h => ⟨l, (xs.filter p').map f, Ω, rfl, by
    obtain ⟨rfl, rfl⟩ := h
    have e : (xs.map enc |>.map D.py).length = xs.length := by rw [List.length_map, List.length_map]
    rw [e, List.take_length], q⟩)
end
end G
namespace My
open PySem L2 G
open PySem.W (alike)
open PyProof.Rows (envOfC)
/-- a thing within a field of the net -/
structure ThO (n : Net) (t : Thing) : Prop where
  name : t.1 ∈ names
  px : 0 ≤ t.2.1 ∧ 1 ≤ t.2.2.2.1
  py : 0 ≤ t.2.2.1 ∧ 1 ≤ t.2.2.2.2
  fx : ∀ c ∈ n.1, ¬ (t.2.1 < c.2.1 ∧ c.2.1 < t.2.1 + t.2.2.2.1)
  fy : ∀ c ∈ n.1, ¬ (t.2.2.1 < c.2.2 ∧ c.2.2 < t.2.2.1 + t.2.2.2.2)
  cell : (cellF n t.2.1 t.2.2.1).isSome = true
/-- things as the law draws them -/
structure ThG (n : Net) (os : List Opening) (ts : List Thing) : Prop where
  one : ∀ t ∈ ts, ThO n t
  doors : ∀ t ∈ ts, ∀ o ∈ os, isDoor o = true → lawMeet t.2 (oblF n o) = false
  apart : ∀ a ∈ ts, ∀ b ∈ ts, a ≠ b → lawMeet a.2 b.2 = false
theorem lawMeet_comm {a b : Obl} : lawMeet a b = lawMeet b a := by
  unfold lawMeet
  rw [Int.max_comm, Int.min_comm, Int.max_comm a.2.1, Int.min_comm (a.2.1 + _)]
def takenF (n : Net) (os : List Opening) (ts : List Thing) : List Obl := (os.filter isDoor).map (oblF n) ++ ts.map (·.2)
theorem ThG.nil {n : Net} {os : List Opening} : ThG n os [] := ⟨fun t h => (nomatch h), fun t h => (nomatch h), fun t h => (nomatch h)⟩
theorem ThG.add {n : Net} {os : List Opening} {ts : List Thing} {t : Thing} (h : ThG n os ts) (ho : ThO n t) (hm : ∀ b ∈ takenF n os ts, lawMeet t.2 b = false) : ThG n os (ts ++ [t]) := by
  refine ⟨fun x hx => ?_, fun x hx => ?_, fun a ha b hb hab => ?_⟩
  · rcases List.mem_append.mp hx with hx | hx
    · exact h.one x hx
    · rw [List.mem_singleton.mp hx]; exact ho
  · rcases List.mem_append.mp hx with hx | hx
    · exact h.doors x hx
    · rw [List.mem_singleton.mp hx]
      exact fun o ho hd => hm _ (List.mem_append_left _ (List.mem_map_of_mem (List.mem_filter.mpr ⟨ho, hd⟩)))
  · rcases List.mem_append.mp ha with ha | ha <;> rcases List.mem_append.mp hb with hb | hb
    · exact h.apart a ha b hb hab
    · rw [List.mem_singleton.mp hb, lawMeet_comm]
      exact hm _ (List.mem_append_right _ (List.mem_map_of_mem ha))
    · rw [List.mem_singleton.mp ha]
      exact hm _ (List.mem_append_right _ (List.mem_map_of_mem hb))
    · rw [List.mem_singleton.mp ha, List.mem_singleton.mp hb] at hab
      exact absurd rfl hab
theorem ThG.perm {n : Net} {os : List Opening} {ts us : List Thing} (h : ThG n os ts) (p : ∀ t, t ∈ us → t ∈ ts) : ThG n os us := ⟨fun t ht => h.one t (p t ht), fun t ht => h.doors t (p t ht), fun a ha b hb => h.apart a (p a ha) b (p b hb)⟩
theorem lay_one {α : Type} : ∀ l : List α, PyData.canLayAll0 (l.map fun _ => PyData.int 1) = true ∧ PyData.depthAll (l.map fun _ => PyData.int 1) ≤ 3
  | [] => ⟨rfl, Nat.zero_le _⟩
  | a :: l => by
    obtain ⟨h1, h2⟩ := lay_one l
    exact ⟨Bool.and_eq_true_iff.mpr ⟨rfl, h1⟩, Nat.max_le.mpr ⟨Nat.le_of_ble_eq_true rfl, h2⟩⟩
theorem shp_one {α : Type} (l : List α) : SeqAt.shaped (.list (l.map fun _ => PyData.int 1)) = true := by
  obtain ⟨h1, h2⟩ := lay_one l
  refine Bool.and_eq_true_iff.mpr ⟨h1, decide_eq_true ?_⟩
  have : PyData.depth (.list (l.map fun _ => PyData.int 1)) = PyData.depthAll (l.map fun _ => PyData.int 1) + 1 := rfl
  omega
theorem eqv_one {α : Type} (l : List α) : PyData.eqv (.list (l.map fun _ => PyData.int 1)) (.list []) = decide (l = []) := by
  cases l <;> rfl
theorem mem_getD {xs : List Int} {u : Nat} (h : u < xs.length) : xs.getD u 0 ∈ xs := by
  have : xs.getD u 0 = xs[u] := by simp [List.getD, h]
  rw [this]; exact List.getElem_mem h
/-- between two neighbours of a rising line there is none -/
theorem gap_line {xs : List Int} (h : xs.Pairwise (· < ·)) {u : Nat} (hu : u + 1 < xs.length) : xs.getD u 0 < xs.getD (u + 1) 0 ∧ ∀ z ∈ xs, z ≤ xs.getD u 0 ∨ xs.getD (u + 1) 0 ≤ z := by
  have g : ∀ i (hi : i < xs.length), xs.getD i 0 = xs[i] := fun i hi => by simp [List.getD, hi]
  have pw := List.pairwise_iff_getElem.mp h
  refine ⟨by rw [g u (by omega), g (u + 1) hu]; exact pw u (u + 1) (by omega) hu (by omega), fun z hz => ?_⟩
  obtain ⟨i, hi, rfl⟩ := List.mem_iff_getElem.mp hz
  rw [g u (by omega), g (u + 1) hu]
  rcases Nat.lt_or_ge i (u + 1) with c | c
  · left
    rcases Nat.lt_or_ge i u with c2 | c2
    · exact Int.le_of_lt (pw i u hi (by omega) c2)
    · have : i = u := by omega
      subst this; exact Int.le_refl _
  · right
    rcases Nat.lt_or_ge (u + 1) i with c2 | c2
    · exact Int.le_of_lt (pw (u + 1) i hu hi c2)
    · have : i = u + 1 := by omega
      subst this; exact Int.le_refl _
section
variable {P : Program} {w : World} {K : PySem.W.Frag} {mg : Str → Option Value} {base : Heap} {C CP CN : Addr}
def c__law_things : Cf := fun n ds Ψ => ∃ q : Net × List Opening, ds = [.py (dNet q.1), .py (.tuple (q.2.map dO)), I 6] ∧ (NetF q.1 ∧ NetB q.1 ∧ OpsR q.1 q.2 ∧ n ≤ 850000) ∧ ∀ (ts : List Thing) n', n' ≤ n + 100 → ts.length ≤ 6 → ThG q.1 q.2 ts → Ψ (.py (.tuple (ts.map dT))) n'
theorem sc__law_things : FnScope ["_law_feed_here", "_law_net_here", "_law_openings_here", "_law_most", "_law_found", "_law_taken", "_law_opening", "_law_xs", "_law_corner", "_law_ys", "_law_name", "_law_i", "_law_j", "_law_wide", "_law_high", "_law_x", "_law_y", "_law_one", "_law_other"] ["_law_feed_here", "_law_net_here", "_law_openings_here", "_law_most"] (defScope s__law_things) := ⟨rfl, rfl, rfl, by decide +kernel, rfl, by decide +kernel, by decide +kernel⟩
theorem okv__law_things : okL ["_law_found", "_law_openings_here", "_law_xs", "_law_ys", "_law_most", "_law_feed_here", "_law_name", "_law_j", "_law_i", "_law_high", "_law_wide", "_law_y", "_law_x", "_law_taken"] (defScope s__law_things) = true := by decide +kernel
theorem okg__law_things : okG ["set", "_law_draw", "_law_names", "len", "cell_at", "sorted", "tuple"] (defScope s__law_things) = true := by decide +kernel
theorem ok__law_things (T : Tx K mg C) (F : Df K mg "_law_things" s__law_things ["_law_feed_here", "_law_net_here", "_law_openings_here", "_law_most"]) (g__law_draw : Fn P w K mg base CX0 "_law_draw" 1 ["_law_feed_here", "_law_many"] (spF c__law_draw)) (g__law_meet : Fn P w K mg base CX0 "_law_meet" 1 ["_law_one", "_law_other"] (spP c__law_meet)) (g__law_names : Fn P w K mg base CX0 "_law_names" 2 ["_law_feed_here", "_law_many"] (spF c__law_names)) (g__law_oblong : Fn P w K mg base CX0 "_law_oblong" 3 ["_law_net_here", "_law_opening"] (spP c__law_oblong)) (g_cell_at : Fn P w K mg base CX0 "cell_at" 7 ["net", "x", "y"] (spP c_cell_at)) : Fn P w K mg base CX0 "_law_things" 8 ["_law_feed_here", "_law_net_here", "_law_openings_here", "_law_most"] (spF c__law_things) :=
  have nd := sc__law_things.nd
  fn_mk F sc__law_things (by first | (rintro ds Ω Ψ ⟨_, _, _, rfl, _, rfl, _⟩; rfl) | (rintro ds Ω Ψ ⟨_, _, _, rfl, _, _, rfl, _⟩; rfl) | (rintro ds Ω Ψ ⟨_, _, _, rfl, _, _, _, rfl, _⟩; rfl) | (rintro ds Ω Ψ ⟨_, _, _, rfl, _, _, _, _, rfl, _⟩; rfl)) fun f cdv A outer s H E hr => by
    refine ⟨_, (pss_cons (ps_asg (pe_lst pa_nil) (gnA okv__law_things nd 4 0)) (pss_cons (ps_setLc (i := 5) (own := [("_law_opening", 6)]) rfl nd rfl rfl (sw_true rfl rfl rfl (by decide +kernel)) (pi_tup (pvA okv__law_things 2 1)) (blkOk_by (own := [("_law_opening", 6)]) (N := ["_law_feed_here", "_law_net_here", "_law_openings_here", "_law_most", "_law_found", "_law_taken", "_law_opening", "_law_xs", "_law_corner", "_law_ys", "_law_name", "_law_i", "_law_j", "_law_wide", "_law_high", "_law_x", "_law_y", "_law_one", "_law_other"]) (sc := defScope s__law_things) (by decide +kernel)) (fun _ _ _ _ _ => (gn nd 6)) (fun _ _ _ _ _ => (pts_one (pt_cmpR op_eq (pe_ix (ixt K) (pv 6) pe_int (fun _ _ => rfl)) pe_str (nomark _)))) (fun _ _ _ _ _ => (pe_fn g__law_oblong hr (by decide) (pa_cons (pv 1) (pa_cons (pv 6) pa_nil))))) (pss_cons (ps_asg (pb_sortedSet T.b (pa_cons (pb_set T.b (pa_cons (pe_lc (own := [("_law_corner", 8)]) rfl nd (pi_tup (pe_ix (ixt K) (pv 1) pe_int (fun _ _ => rfl))) (blkOk_by (own := [("_law_corner", 8)]) (N := ["_law_feed_here", "_law_net_here", "_law_openings_here", "_law_most", "_law_found", "_law_taken", "_law_opening", "_law_xs", "_law_corner", "_law_ys", "_law_name", "_law_i", "_law_j", "_law_wide", "_law_high", "_law_x", "_law_y", "_law_one", "_law_other"]) (sc := defScope s__law_things) (by decide +kernel)) (fun _ _ _ _ _ => (gn nd 8)) (fun _ _ _ _ _ => pts_nil) (fun _ _ _ _ _ => (pe_ix (ixt K) (pv 8) pe_int (fun _ _ => rfl)))) pa_nil) (hg := glA okg__law_things 0)) pa_nil)) (gnA okv__law_things nd 7 2)) (pss_cons (ps_asg (pb_sortedSet T.b (pa_cons (pb_set T.b (pa_cons (pe_lc (own := [("_law_corner", 8)]) rfl nd (pi_tup (pe_ix (ixt K) (pv 1) pe_int (fun _ _ => rfl))) (blkOk_by (own := [("_law_corner", 8)]) (N := ["_law_feed_here", "_law_net_here", "_law_openings_here", "_law_most", "_law_found", "_law_taken", "_law_opening", "_law_xs", "_law_corner", "_law_ys", "_law_name", "_law_i", "_law_j", "_law_wide", "_law_high", "_law_x", "_law_y", "_law_one", "_law_other"]) (sc := defScope s__law_things) (by decide +kernel)) (fun _ _ _ _ _ => (gn nd 8)) (fun _ _ _ _ _ => pts_nil) (fun _ _ _ _ _ => (pe_ix (ixt K) (pv 8) pe_int (fun _ _ => rfl)))) pa_nil) (hg := glA okg__law_things 0)) pa_nil)) (gnA okv__law_things nd 9 3)) (pss_cons (ps_for PassesOwn.never rfl (pi_list (pe_fn g__law_names hr (by decide) (pa_cons (pvA okv__law_things 0 5) (pa_cons (pe_fn g__law_draw hr (by decide) (pa_cons (pvA okv__law_things 0 5) (pa_cons (pe_op op_add (pvA okv__law_things 3 4) pe_int) pa_nil)) (hg := glA okg__law_things 1)) pa_nil)) (hg := glA okg__law_things 2))) (gnA okv__law_things nd 10 6) (pss_one (ps_if (PW.pt (pw_and (pt_cmpR op_gt (kb_len K T.b (pa_cons (pvA okv__law_things 7 2) pa_nil) (hg := glA okg__law_things 3)) pe_int (nomark _)) (pw_and1 (pt_cmpR op_gt (kb_len K T.b (pa_cons (pvA okv__law_things 9 3) pa_nil) (hg := glA okg__law_things 3)) pe_int (nomark _))))) (pss_cons (ps_par (i := 11) (j := 12) rfl nd rfl rfl (by decide) rfl rfl (pa_cons (pe_fn g__law_draw hr (by decide) (pa_cons (pvA okv__law_things 0 5) (pa_cons (pe_op op_sub (kb_len K T.b (pa_cons (pvA okv__law_things 7 2) pa_nil) (hg := glA okg__law_things 3)) pe_int) pa_nil)) (hg := glA okg__law_things 1)) (pa_cons (pe_fn g__law_draw hr (by decide) (pa_cons (pvA okv__law_things 0 5) (pa_cons (pe_op op_sub (kb_len K T.b (pa_cons (pvA okv__law_things 9 3) pa_nil) (hg := glA okg__law_things 3)) pe_int) pa_nil)) (hg := glA okg__law_things 1)) pa_nil)) (by rfl)) (pss_cons (ps_par (i := 13) (j := 14) rfl nd rfl rfl (by decide) rfl rfl (pa_cons (pe_op op_sub (pe_ix (ixl K) (pvA okv__law_things 7 2) (pe_op op_add (pvA okv__law_things 11 8) pe_int) (fun _ _ => rfl)) (pe_ix (ixl K) (pvA okv__law_things 7 2) (pvA okv__law_things 11 8) (fun _ _ => rfl))) (pa_cons (pe_op op_sub (pe_ix (ixl K) (pvA okv__law_things 9 3) (pe_op op_add (pvA okv__law_things 12 7) pe_int) (fun _ _ => rfl)) (pe_ix (ixl K) (pvA okv__law_things 9 3) (pvA okv__law_things 12 7) (fun _ _ => rfl))) pa_nil)) (by rfl)) (pss_cons (ps_par (i := 15) (j := 16) rfl nd rfl rfl (by decide) rfl rfl (pa_cons (pe_op op_add (pe_ix (ixl K) (pvA okv__law_things 7 2) (pvA okv__law_things 11 8) (fun _ _ => rfl)) (pe_fn g__law_draw hr (by decide) (pa_cons (pvA okv__law_things 0 5) (pa_cons (pvA okv__law_things 13 10) pa_nil)) (hg := glA okg__law_things 1))) (pa_cons (pe_op op_add (pe_ix (ixl K) (pvA okv__law_things 9 3) (pvA okv__law_things 12 7) (fun _ _ => rfl)) (pe_fn g__law_draw hr (by decide) (pa_cons (pvA okv__law_things 0 5) (pa_cons (pvA okv__law_things 14 9) pa_nil)) (hg := glA okg__law_things 1))) pa_nil)) (by rfl)) (pss_cons (ps_asg (pe_tup (pa_cons (pvA okv__law_things 15 12) (pa_cons (pvA okv__law_things 16 11) (pa_cons (pe_op op_add pe_int (pe_fn g__law_draw hr (by decide) (pa_cons (pvA okv__law_things 0 5) (pa_cons (pe_op op_sub (pe_ix (ixl K) (pvA okv__law_things 7 2) (pe_op op_add (pvA okv__law_things 11 8) pe_int) (fun _ _ => rfl)) (pvA okv__law_things 15 12)) pa_nil)) (hg := glA okg__law_things 1))) (pa_cons (pe_op op_add pe_int (pe_fn g__law_draw hr (by decide) (pa_cons (pvA okv__law_things 0 5) (pa_cons (pe_op op_sub (pe_ix (ixl K) (pvA okv__law_things 9 3) (pe_op op_add (pvA okv__law_things 12 7) pe_int) (fun _ _ => rfl)) (pvA okv__law_things 16 11)) pa_nil)) (hg := glA okg__law_things 1))) pa_nil))))) (gn nd 17)) (pss_one (ps_if (PW.pt (pw_and (pt_cmpR op_ntn (pe_fn g_cell_at hr (by decide) (pa_cons (pv 1) (pa_cons (pvA okv__law_things 15 12) (pa_cons (pvA okv__law_things 16 11) pa_nil))) (hg := glA okg__law_things 4)) pe_non (nomark _)) (pw_and1 (pt_cmpR (ope K hr.units) (pe_lc (own := [("_law_other", 18)]) rfl nd (pi_list (pvA okv__law_things 5 13)) (blkOk_by (own := [("_law_other", 18)]) (N := ["_law_feed_here", "_law_net_here", "_law_openings_here", "_law_most", "_law_found", "_law_taken", "_law_opening", "_law_xs", "_law_corner", "_law_ys", "_law_name", "_law_i", "_law_j", "_law_wide", "_law_high", "_law_x", "_law_y", "_law_one", "_law_other"]) (sc := defScope s__law_things) (by decide +kernel)) (fun _ _ _ _ _ => (gn nd 18)) (fun _ _ _ _ _ => (pts_one (pt_val (pe_fn g__law_meet hr (by decide) (pa_cons (pv 17) (pa_cons (pv 18) pa_nil)))))) (fun _ _ _ _ _ => pe_int)) (pe_lst pa_nil) (nomark _))))) (pss_cons (ps_expr (pe_bm PySem.F.plainAttrs_list PySem.F.slot_list_append PySem.F.type_list_append mt_append (pvA okv__law_things 5 13) (pa_cons (pv 17) pa_nil))) (pss_one (ps_expr (pe_bm PySem.F.plainAttrs_list PySem.F.slot_list_append PySem.F.type_list_append mt_append (pvA okv__law_things 4 0) (pa_cons (pe_op (opc K) (pe_tup (pa_cons (pvA okv__law_things 10 6) pa_nil)) (pv 17)) pa_nil))))) pss_nil)))))) pss_nil))) (pss_one (ps_ret (pb_tuple T.b (pa_cons (pb_sorted T.b hr (pa_cons (pvA okv__law_things 4 0) pa_nil) (hg := glA okg__law_things 5)) pa_nil) (hg := glA okg__law_things 6))))))))), ?_⟩
    rintro ds Ω Ψ ⟨F, n, es, rfl, rfl, ⟨net, os⟩, rfl, ⟨hF, hB, hO, hn⟩, q⟩
    have hF : NetF net := hF
    have hB : NetB net := hB
    have hO : OpsR net os := hO
    have hfew : net.1.length ≤ 30 := hB.few30
    have hos := hO.2.2
    refine sw_seq (sw_setW (ev_own0 fun p => ?_))
    try simp only [startD, List.map_cons, List.map_nil, List.cons_append, List.nil_append, List.set_cons_zero, List.set_cons_succ, List.length_cons, List.length_nil, List.replicate_succ, List.replicate_zero, Nat.reduceSub, Nat.reduceAdd]
    refine sw_seq (sw_setW (ev_lcTO os dO isDoor (fun o => dOb (oblF net o)) (ev_var rfl) (to_name) (by omega) (fun o ho => tg_name ⟨rfl, (ts_T (ev_eqS (ev_ixT (ev_var rfl) ev_int rfl) ev_str)), fun _ => (ev_fn (ar_cons (ev_var rfl) (ar_cons (ev_var rfl) ar_nil)) fun Ψ q => ⟨net, o, rfl, ⟨hO.1, hO.2.1 o ho⟩, q⟩)⟩) fun l => ?_))
    try simp only [startD, List.map_cons, List.map_nil, List.cons_append, List.nil_append, List.set_cons_zero, List.set_cons_succ, List.length_cons, List.length_nil, List.replicate_succ, List.replicate_zero, Nat.reduceSub, Nat.reduceAdd]
    refine sw_seq (sw_setW (ev_sset (ns := net.1.map fun c => c.2.1) ((ev_lcT net.1 dC (fun _ => true) (fun c => .int c.2.1) (ev_ixT (ev_var rfl) ev_int rfl) (to_name) (by omega) fun c _ => tg_name ⟨rfl, ts_yes, fun _ => (ev_ixT (ev_var rfl) ev_int rfl)⟩).eq (by rw [fil_true, List.map_map]; rfl)) (by rw [List.length_map]; omega) fun xs hxs hxm => ?_))
    try simp only [startD, List.map_cons, List.map_nil, List.cons_append, List.nil_append, List.set_cons_zero, List.set_cons_succ, List.length_cons, List.length_nil, List.replicate_succ, List.replicate_zero, Nat.reduceSub, Nat.reduceAdd]
    refine sw_seq (sw_setW (ev_sset (ns := net.1.map fun c => c.2.2) ((ev_lcT net.1 dC (fun _ => true) (fun c => .int c.2.2) (ev_ixT (ev_var rfl) ev_int rfl) (to_name) (by omega) fun c _ => tg_name ⟨rfl, ts_yes, fun _ => (ev_ixT (ev_var rfl) ev_int rfl)⟩).eq (by rw [fil_true, List.map_map]; rfl)) (by rw [List.length_map]; omega) fun ys hys hym => ?_))
    try simp only [startD, List.map_cons, List.map_nil, List.cons_append, List.nil_append, List.set_cons_zero, List.set_cons_succ, List.length_cons, List.length_nil, List.replicate_succ, List.replicate_zero, Nat.reduceSub, Nat.reduceAdd]
    have hxl : xs.length ≤ 30 := Nat.le_trans (sub_len (hxs.imp fun h => Int.ne_of_lt h) fun x hx => (hxm x).mp hx) (by rw [List.length_map]; exact hfew)
    have hyl : ys.length ≤ 30 := Nat.le_trans (sub_len (hys.imp fun h => Int.ne_of_lt h) fun x hx => (hym x).mp hx) (by rw [List.length_map]; exact hfew)
    have bx : ∀ x ∈ xs, 0 ≤ x ∧ x ≤ 1000000 := fun x hx => by
      obtain ⟨c, hc, rfl⟩ := List.mem_map.mp ((hxm x).mp hx)
      exact (hB.boxC c hc).1
    have by_ : ∀ y ∈ ys, 0 ≤ y ∧ y ≤ 1000000 := fun y hy => by
      obtain ⟨c, hc, rfl⟩ := List.mem_map.mp ((hym y).mp hy)
      exact (hB.boxC c hc).2
    refine sw_seq (sw_forLW (ev_fnF (ar_consW (EvD.toW (ev_var rfl) (ar_consW (ev_draw (many := 7) rfl ((ev_i0 (f := fun i j => i + j) (i := 6) (j := 1) (ev_var rfl) ev_int).eq rfl) ⟨by decide, by decide, by omega⟩ fun r0 hr0 hr1 => ar_nilW ⟨F, n + 1, [I r0], _, rfl, rfl, r0.toNat, by rw [Int.toNat_of_nonneg hr0], ⟨by omega, by omega⟩, fun ns hl hns => ⟨ns.map PyData.str, fun i Γ Ω => ∃ a b c d e f g h fs n', Γ = [some (.loc F), some (.py (dNet net)), some (.py (.tuple (os.map dO))), some (I 6), some (.loc p), some (.loc l), none, some (.py (.list (xs.map PyData.int))), none, some (.py (.list (ys.map PyData.int))), a, b, c, d, e, f, g, h, none] ∧ Ω = [(F, .feed n'), (p, .lst ((fs.map dT).map D.py)), (l, .lst (((takenF net os fs).map dOb).map D.py))] ∧ n' ≤ n + 3 + 10 * i ∧ fs.length ≤ i ∧ ThG net os fs, rfl, ⟨none, none, none, none, none, none, none, none, [], n + 1 + 2, rfl, ?_, by omega, Nat.le_refl _, ThG.nil⟩, fun i x Γ' Ω' hx J => ?_, fun Γ' Ω' J => ?_⟩⟩))))))
    · have e : takenF net os [] = (os.filter isDoor).map (oblF net) := by unfold takenF; rw [List.map_nil, List.append_nil]
      simp only [e, List.map_map]; rfl
    · obtain ⟨a, b, c, d, e, f, g, h, fs, n', rfl, rfl, hn', hlen, hG⟩ := J
      have hi : i < 6 := by
        have := (List.getElem?_eq_some_iff.mp hx).1
        rw [List.length_map, hl] at this
        omega
      rw [List.getElem?_map] at hx
      cases en : ns[i]? with
      | none => rw [en] at hx; cases hx
      | some nm =>
        rw [en] at hx
        cases hx
        have hnm : nm ∈ names := hns nm (List.mem_of_getElem? en)
        refine tg_name ?_
        refine sw_if (ts_and (ts_T (ev_iB (ev_lenL (ev_var rfl)) ev_int)) fun _ => (ts_T (ev_iB (ev_lenL (ev_var rfl)) ev_int))) (fun hb => ?_) fun hb => sw_next ⟨_, _, _, _, _, _, _, _, fs, n', rfl, rfl, by omega, by omega, hG⟩
        simp only [Bool.and_eq_true, decide_eq_true_eq, List.length_map] at hb
        obtain ⟨hb1, hb2⟩ := hb
        have exl : ((xs.map PyData.int).length : Int) = xs.length := by rw [List.length_map]
        have eyl : ((ys.map PyData.int).length : Int) = ys.length := by rw [List.length_map]
        refine sw_seq (sw_parW (ar_consW (ev_draw rfl (ev_i0 (ev_lenL (ev_var rfl)) ev_int) ⟨by omega, by omega, by omega⟩ fun ri hi0 hi1 => ar_consW (ev_draw rfl (ev_i0 (ev_lenL (ev_var rfl)) ev_int) ⟨by omega, by omega, by omega⟩ fun rj hj0 hj1 => ar_nilW ⟨_, _, rfl, ?_⟩))))
        try simp only [startD, List.map_cons, List.map_nil, List.cons_append, List.nil_append, List.set_cons_zero, List.set_cons_succ, List.length_cons, List.length_nil, List.replicate_succ, List.replicate_zero, Nat.reduceSub, Nat.reduceAdd]
        obtain ⟨u, rfl⟩ : ∃ u : Nat, ri = u := ⟨ri.toNat, by omega⟩
        obtain ⟨v, rfl⟩ : ∃ v : Nat, rj = v := ⟨rj.toNat, by omega⟩
        have hu : u + 1 < xs.length := by omega
        have hv : v + 1 < ys.length := by omega
        obtain ⟨gx, gx2⟩ := gap_line hxs hu
        obtain ⟨gy, gy2⟩ := gap_line hys hv
        have ax0 := atI_map (l := xs) (i := (u : Int)) (k := u) rfl (by omega)
        have ax1 := atI_map (l := xs) (i := (u : Int) + 1) (k := u + 1) (by omega) hu
        have ay0 := atI_map (l := ys) (i := (v : Int)) (k := v) rfl (by omega)
        have ay1 := atI_map (l := ys) (i := (v : Int) + 1) (k := v + 1) (by omega) hv
        have bx0 := bx _ (mem_getD (u := u) (by omega))
        have bx1 := bx _ (mem_getD hu)
        have by0 := by_ _ (mem_getD (u := v) (by omega))
        have by1 := by_ _ (mem_getD hv)
        generalize xs.getD u 0 = X0 at *
        generalize xs.getD (u + 1) 0 = X1 at *
        generalize ys.getD v 0 = Y0 at *
        generalize ys.getD (v + 1) 0 = Y1 at *
        refine sw_seq (sw_par (ar_cons (ev_i0 (ev_ixL (ev_var rfl) (ev_i0 (ev_var rfl) ev_int) ax1) (ev_ixL (ev_var rfl) (ev_var rfl) ax0)) (ar_cons (ev_i0 (ev_ixL (ev_var rfl) (ev_i0 (ev_var rfl) ev_int) ay1) (ev_ixL (ev_var rfl) (ev_var rfl) ay0)) ar_nil)) ?_)
        try simp only [startD, List.map_cons, List.map_nil, List.cons_append, List.nil_append, List.set_cons_zero, List.set_cons_succ, List.length_cons, List.length_nil, List.replicate_succ, List.replicate_zero, Nat.reduceSub, Nat.reduceAdd]
        refine sw_seq (sw_parW (ar_consW (ev_i0W (EvD.toW (ev_ixL (ev_var rfl) (ev_var rfl) ax0) ⟨_, rfl, ev_draw rfl (ev_var rfl) ⟨by omega, by omega, by omega⟩ fun rx hx0 hx1 => ⟨rx, rfl, ar_consW (ev_i0W (EvD.toW (ev_ixL (ev_var rfl) (ev_var rfl) ay0) ⟨_, rfl, ev_draw rfl (ev_var rfl) ⟨by omega, by omega, by omega⟩ fun ry hy0 hy1 => ⟨ry, rfl, ar_nilW ⟨_, _, rfl, ?_⟩⟩⟩))⟩⟩))))
        try simp only [startD, List.map_cons, List.map_nil, List.cons_append, List.nil_append, List.set_cons_zero, List.set_cons_succ, List.length_cons, List.length_nil, List.replicate_succ, List.replicate_zero, Nat.reduceSub, Nat.reduceAdd]
        refine sw_seq (sw_setW (ev_tupW (ar_consW (EvD.toW (ev_var rfl) (ar_consW (EvD.toW (ev_var rfl) (ar_consW (ev_i0W (EvD.toW ev_int ⟨1, rfl, ev_draw rfl (ev_i0 (ev_ixL (ev_var rfl) (ev_i0 (ev_var rfl) ev_int) ax1) (ev_var rfl)) ⟨by omega, by omega, by omega⟩ fun rw_ hw0 hw1 => ⟨rw_, rfl, ar_consW (ev_i0W (EvD.toW ev_int ⟨1, rfl, ev_draw rfl (ev_i0 (ev_ixL (ev_var rfl) (ev_i0 (ev_var rfl) ev_int) ay1) (ev_var rfl)) ⟨by omega, by omega, by omega⟩ fun rh hh0 hh1 => ⟨rh, rfl, ar_nilW ⟨[.int (X0 + rx), .int (Y0 + ry), .int (1 + rw_), .int (1 + rh)], rfl, Nat.le_of_ble_eq_true rfl, ?_⟩⟩⟩))⟩⟩)))))))))
        try simp only [startD, List.map_cons, List.map_nil, List.cons_append, List.nil_append, List.set_cons_zero, List.set_cons_succ, List.length_cons, List.length_nil, List.replicate_succ, List.replicate_zero, Nat.reduceSub, Nat.reduceAdd]
        have htk : (takenF net os fs).length < 100000 := by
          unfold takenF
          rw [List.length_append, List.length_map, List.length_map]
          have := List.length_filter_le isDoor os
          omega
        show SW _ [some (.loc F), some (.py (dNet net)), some (.py (.tuple (os.map dO))), some (I 6), some (.loc p), some (.loc l), none, some (.py (.list (xs.map PyData.int))), none, some (.py (.list (ys.map PyData.int))), some (S nm), some (I (u : Int)), some (I (v : Int)), some (I (X1 - X0)), some (I (Y1 - Y0)), some (I (X0 + rx)), some (I (Y0 + ry)), some (.py (dOb (X0 + rx, Y0 + ry, 1 + rw_, 1 + rh))), none] [(F, .feed (n' + 1 + 1 + 1 + 1 + 1 + 1)), (p, .lst ((fs.map dT).map D.py)), (l, .lst (((takenF net os fs).map dOb).map D.py))] _
        refine sw_if (ts_and (ts_T (ev_ntN (ev_fn (d := .py (dOn (cellF net (X0 + rx) (Y0 + ry)))) (ar_cons (ev_var rfl) (ar_cons (ev_var rfl) (ar_cons (ev_var rfl) ar_nil))) fun Ψ q => ⟨net, _, _, rfl, hF, q⟩))) fun _ => (ts_T (ev_eqD (ev_lcOD (j := 2) (takenF net os fs) dOb (fun b => lawMeet (X0 + rx, Y0 + ry, 1 + rw_, 1 + rh) b) (fun _ => .int 1) (ev_var rfl) rfl (to_name) htk fun b hb => tg_name ⟨rfl, (ts_B (ev_fn (ar_cons (ev_var rfl) (ar_cons (ev_var rfl) ar_nil)) fun Ψ q => ⟨_, _, rfl, q⟩)), fun _ => ev_int⟩) (ev_lst (ds := []) ar_nil) (shp_one _) rfl))) (fun hb => ?_) fun hb => sw_next ⟨_, _, _, _, _, _, _, _, fs, _, rfl, rfl, by omega, by omega, hG⟩
        rw [isNon_on, eqv_one, Bool.not_not, Bool.and_eq_true, decide_eq_true_eq, List.filter_eq_nil_iff] at hb
        have hO1 : ThO net (nm, X0 + rx, Y0 + ry, 1 + rw_, 1 + rh) := ⟨hnm, ⟨by show 0 ≤ X0 + rx; omega, by show 1 ≤ 1 + rw_; omega⟩, ⟨by show 0 ≤ Y0 + ry; omega, by show 1 ≤ 1 + rh; omega⟩, fun c hc => by
          have := gx2 c.2.1 ((hxm _).mpr (List.mem_map_of_mem (f := fun c : Corner => c.2.1) hc))
          show ¬ (X0 + rx < c.2.1 ∧ c.2.1 < X0 + rx + (1 + rw_))
          omega, fun c hc => by
          have := gy2 c.2.2 ((hym _).mpr (List.mem_map_of_mem (f := fun c : Corner => c.2.2) hc))
          show ¬ (Y0 + ry < c.2.2 ∧ c.2.2 < Y0 + ry + (1 + rh))
          omega, hb.1⟩
        have hG2 := hG.add hO1 fun b hbm => by simpa using hb.2 b hbm
        refine sw_seq (sw_app (ev_var rfl) (ev_var rfl) (j := 2) rfl (by rw [List.length_map, List.length_map]; exact htk) ?_)
        refine sw_app (ev_var rfl) (ev_catT (ev_tup (ds := [_]) (ar_cons (ev_var rfl) ar_nil)) (ev_var rfl)) (j := 1) rfl (by rw [List.length_map, List.length_map]; omega) ⟨_, _, _, _, _, _, _, _, fs ++ [(nm, X0 + rx, Y0 + ry, 1 + rw_, 1 + rh)], n' + 1 + 1 + 1 + 1 + 1 + 1, rfl, ?_, by omega, by rw [List.length_append]; simp; omega, hG2⟩
        unfold takenF
        simp only [List.map_append, List.append_assoc]
        rfl
    · obtain ⟨a, b, c, d, e, f, g, h, fs, n', rfl, rfl, hn', hlen, hG⟩ := J
      rw [List.length_map, hl] at hn' hlen
      have h6 : fs.length ≤ 6 := by omega
      refine sw_frz (i := 4) (j := 1) (ds := fs.map dT) rfl rfl ?_
      refine sw_frz (i := 5) (j := 1) (ds := (takenF net os fs).map dOb) rfl rfl ?_
      exact sw_ret (ev_tuple (ev_srtE dT (PySem.W.dataLe false dT) (bs := fs) (ev_var rfl) (fun a _ b _ => rfl) (fun a _ => ⟨_, _, rfl⟩) (fun a _ => Nat.le_of_ble_eq_true rfl) (by omega) (fun a _ b _ => rfl))) (q _ n' (by omega) (by rw [List.length_mergeSort]; exact h6) (hG.perm fun t ht => List.mem_mergeSort.mp ht))
end
end My
end

section
set_option Elab.async false
set_option linter.all false
set_option maxRecDepth 100000
set_option maxHeartbeats 4000000
namespace My
open PySem G
/-! plain: the drawn plan, and where a thing fits in it -/
structure PlanG (p : Plan) : Prop where
  net : GenNet p.1
  fewH : p.2.1.length ≤ 3
  holds : ∀ h ∈ p.2.1, okH p.1 h
  fewO : p.2.2.1.length ≤ 9
  ops : OpsG p.1 p.2.2.1
  fewT : p.2.2.2.length ≤ 6
  things : ThG p.1 p.2.2.1 p.2.2.2
theorem lookup_spot {n : Net} (hn : NetR n) {c : Int} (hc : c ∈ keys n) : ∃ x ∈ n.1, x.1 = c ∧ spot n c = x.2 := by
  obtain ⟨x, hx, e⟩ := List.mem_map.mp hc
  refine ⟨x, hx, e, ?_⟩
  subst e
  unfold spot
  rw [lookup_nd (b := x.2) hn.nd hx]; rfl
theorem meet_iff {a b : Obl} : meetF a b = true ↔ a.1 < b.1 + b.2.2.1 ∧ b.1 < a.1 + a.2.2.1 ∧ a.2.1 < b.2.1 + b.2.2.2 ∧ b.2.1 < a.2.1 + a.2.2.2 := by
  unfold meetF
  simp only [Bool.and_eq_true, decide_eq_true_eq]
theorem meet_comm {a b : Obl} : meetF a b = meetF b a := by
  rw [Bool.eq_iff_iff, meet_iff, meet_iff]; omega
/-- the law's own oblong of a door is the program's -/
theorem obl_places {n : Net} {o : Opening} {s : Int} (hn : NetW n) (hT : NetT n) (h : OpG n o s) : oblF n o = placesF n o := by
  have hsp := h.span hn
  have hat := h.at hn
  have hf := hT.fwd _ h.wall
  unfold oblF placesF stretchF alongF
  rw [hsp, hat]
  unfold isUp endsF
  dsimp only
  by_cases e : (spot n o.2.2.1.1).1 = (spot n o.2.2.1.2).1
  · rw [if_pos e.symm, if_pos (decide_eq_true e), if_pos e]
  · rw [if_neg (fun h => e h.symm), if_neg (by simpa using e), if_neg e]
theorem opg_wh {n : Net} {o : Opening} {s : Int} (hn : NetW n) (hT : NetT n) (h : OpG n o s) : 1 ≤ (oblF n o).2.2.1 ∧ 1 ≤ (oblF n o).2.2.2 := by
  have hw := h.width
  have b1 := hT.box _ (hT.ends _ h.wall).1
  unfold oblF
  split
  · dsimp only; omega
  · dsimp only; omega
section
variable {p : Plan} (hp : PlanG p)
include hp
theorem PlanG.t : NetT p.1 := hp.net.t
theorem PlanG.w : NetW p.1 := hp.net.w
theorem PlanG.opsR : OpsR p.1 p.2.2.1 := ⟨hp.w.toNetR, fun o ho => by
  obtain ⟨s, hs⟩ := hp.ops.all o ho
  exact hp.w.ends _ hs.wall, by have := hp.fewO; omega⟩
theorem PlanG.planR : PlanR p := ⟨hp.t.netF, hp.w.few30, hp.opsR, by have := hp.fewO; omega, by have := hp.fewT; omega⟩
theorem PlanG.putR : PutR p := ⟨⟨hp.t.netF, hp.opsR, fun o ho => by
  obtain ⟨s, hs⟩ := hp.ops.all o ho
  unfold standF
  rw [hs.alone, Bool.true_and, List.all_eq_true]
  intro x hx
  obtain ⟨h1, h2⟩ := List.mem_filter.mp hx
  exact hp.ops.apart o ho x h1 fun e => by rw [e] at h2; simp at h2, fun h hh => hp.holds h hh, by have := hp.fewH; omega, by have := hp.fewO; omega⟩, by have := hp.fewT; omega⟩
theorem PlanG.planR2 (o : Obl) : PlanR (putP p o) := ⟨hp.t.netF, hp.w.few30, hp.opsR, by have := hp.fewO; show p.2.2.1.length ≤ 15; omega, by
  have := @putTs_len p.2.2.2 (newT o)
  have := hp.fewT
  show (putTs p.2.2.2 (newT o)).length ≤ 10
  omega⟩
end
/-! where it fits -/
def Fits (p : Plan) (r : Nat) (o : Obl) : Prop := crossF p.1 o = false ∧ cellF p.1 o.1 o.2.1 = some r ∧ ∀ b ∈ obsF p, meetF o b = false
theorem cross_mem {n : Net} {o : Obl} : crossF n o = true ↔ ∃ w ∈ n.2, (((spot n w.1).1 = (spot n w.2).1 ∧ (o.1 < (spot n w.1).1 ∧ (spot n w.1).1 < o.1 + o.2.2.1) ∧ (spot n w.1).2 < o.2.1 + o.2.2.2 ∧ o.2.1 < (spot n w.2).2) ∨ ((spot n w.1).1 ≠ (spot n w.2).1 ∧ (o.2.1 < (spot n w.1).2 ∧ (spot n w.1).2 < o.2.1 + o.2.2.2) ∧ (spot n w.1).1 < o.1 + o.2.2.1 ∧ o.1 < (spot n w.2).1)) := by
  unfold crossF
  rw [List.any_eq_true]
  refine exists_congr fun w => and_congr_right fun _ => ?_
  unfold isUp endsF
  dsimp only
  by_cases e : (spot n w.1).1 = (spot n w.2).1
  · rw [if_pos (decide_eq_true e)]
    simp only [Bool.and_eq_true, decide_eq_true_eq]
    constructor
    · intro h; exact .inl ⟨e, h⟩
    · rintro (⟨_, h⟩ | ⟨h, _⟩)
      · exact h
      · exact absurd e h
  · rw [if_neg (by simpa using e)]
    simp only [Bool.and_eq_true, decide_eq_true_eq]
    constructor
    · intro h; exact .inr ⟨e, h⟩
    · rintro (⟨h, _⟩ | ⟨_, h⟩)
      · exact absurd h e
      · exact h
theorem bar_iff {p : Plan} {x y w h : Int} : isBar (barF p y w h) x = true ↔ crossF p.1 (x, y, w, h) = true ∨ ∃ b ∈ obsF p, meetF (x, y, w, h) b = true := by
  unfold isBar barF
  rw [List.any_append, Bool.or_eq_true]
  refine or_congr ?_ ?_
  · rw [cross_mem, List.any_eq_true]
    constructor
    · rintro ⟨s, hs, hb⟩
      obtain ⟨wl, hw, e⟩ := List.mem_filterMap.mp hs
      refine ⟨wl, hw, ?_⟩
      simp only [Bool.and_eq_true, decide_eq_true_eq] at hb
      unfold barW at e
      unfold isUp endsF at e
      dsimp only at e ⊢
      by_cases c : (spot p.1 wl.1).1 = (spot p.1 wl.2).1
      · rw [if_pos (decide_eq_true c)] at e
        split at e
        · cases e
          dsimp only at hb
          left; omega
        · cases e
      · rw [if_neg (by simpa using c)] at e
        split at e
        · cases e
          dsimp only at hb
          right; refine ⟨c, ?_⟩; omega
        · cases e
    · rintro ⟨wl, hw, hh⟩
      dsimp only at hh
      rcases hh with ⟨c, h1, h2, h3⟩ | ⟨c, h1, h2, h3⟩
      · refine ⟨((spot p.1 wl.1).1 - w, (spot p.1 wl.1).1), List.mem_filterMap.mpr ⟨wl, hw, ?_⟩, ?_⟩
        · unfold barW isUp endsF
          dsimp only
          rw [if_pos (decide_eq_true c), if_pos ⟨h2, h3⟩]
        · simp only [Bool.and_eq_true, decide_eq_true_eq]; omega
      · refine ⟨((spot p.1 wl.1).1 - w, (spot p.1 wl.2).1), List.mem_filterMap.mpr ⟨wl, hw, ?_⟩, ?_⟩
        · unfold barW isUp endsF
          dsimp only
          rw [if_neg (by simpa using c), if_pos ⟨h1.1, h1.2⟩]
        · simp only [Bool.and_eq_true, decide_eq_true_eq]; omega
  · rw [List.any_eq_true]
    constructor
    · rintro ⟨s, hs, hb⟩
      obtain ⟨b, hb2, e⟩ := List.mem_filterMap.mp hs
      refine ⟨b, hb2, meet_iff.mpr ?_⟩
      simp only [Bool.and_eq_true, decide_eq_true_eq] at hb
      unfold barO at e
      split at e
      · cases e
        dsimp only at hb ⊢
        omega
      · cases e
    · rintro ⟨b, hb, hm⟩
      have hm := meet_iff.mp hm
      dsimp only at hm
      refine ⟨(b.1 - w, b.1 + b.2.2.1), List.mem_filterMap.mpr ⟨b, hb, ?_⟩, ?_⟩
      · unfold barO
        rw [if_pos (by omega)]
      · simp only [Bool.and_eq_true, decide_eq_true_eq]; omega
theorem good_iff {p : Plan} {r : Nat} {x y w h : Int} : goodF p r w h y x = true ↔ Fits p r (x, y, w, h) := by
  unfold goodF Fits
  simp only [Bool.and_eq_true, decide_eq_true_eq, Bool.not_eq_true']
  constructor
  · rintro ⟨h1, h2⟩
    have h3 : ¬ _ := fun h => by rw [bar_iff.mpr h] at h1; cases h1
    refine ⟨?_, h2, fun b hb => ?_⟩
    · cases e : crossF p.1 (x, y, w, h) with
      | false => rfl
      | true => exact absurd (.inl e) h3
    · cases e : meetF (x, y, w, h) b with
      | false => rfl
      | true => exact absurd (.inr ⟨b, hb, e⟩) h3
  · rintro ⟨h1, h2, h3⟩
    refine ⟨?_, h2⟩
    cases e : isBar (barF p y w h) x with
    | false => rfl
    | true =>
      rcases bar_iff.mp e with e | ⟨b, hb, e⟩
      · rw [h1] at e; cases e
      · rw [h3 b hb] at e; cases e
/-- not behind, by y, then by x -/
def yxle (a b : Pt) : Prop := a.2 < b.2 ∨ a.2 = b.2 ∧ a.1 ≤ b.1
theorem find_least {q : Int → Bool} : ∀ {l : List Int}, l.Pairwise (· < ·) → ∀ {x}, l.find? q = some x → x ∈ l ∧ q x = true ∧ ∀ z ∈ l, q z = true → x ≤ z
  | [], _, x, h => by cases h
  | a :: l, hp, x, h => by
    rw [List.pairwise_cons] at hp
    rw [List.find?_cons] at h
    cases e : q a with
    | true =>
      rw [e] at h
      cases h
      refine ⟨List.mem_cons_self, e, fun z hz _ => ?_⟩
      rcases List.mem_cons.mp hz with rfl | hz
      · exact Int.le_refl _
      · exact Int.le_of_lt (hp.1 z hz)
    | false =>
      rw [e] at h
      obtain ⟨h1, h2, h3⟩ := find_least hp.2 h
      refine ⟨List.mem_cons_of_mem _ h1, h2, fun z hz hq => ?_⟩
      rcases List.mem_cons.mp hz with rfl | hz
      · rw [e] at hq; cases hq
      · exact h3 z hz hq
theorem col_least {p : Plan} {r : Nat} {w h : Int} : ∀ {l : List Int}, l.Pairwise (· < ·) → (∀ s, colF p r w h l = some s → s.1 ∈ endsOf p false ∧ s.2 ∈ l ∧ Fits p r (s.1, s.2, w, h) ∧ ∀ x ∈ endsOf p false, ∀ y ∈ l, Fits p r (x, y, w, h) → yxle s (x, y)) ∧ (colF p r w h l = none → ∀ x ∈ endsOf p false, ∀ y ∈ l, ¬ Fits p r (x, y, w, h))
  | [], _ => ⟨fun s h => (by cases h), fun _ x _ y hy => (by cases hy)⟩
  | a :: l, hp => by
    rw [List.pairwise_cons] at hp
    obtain ⟨h1, h2⟩ := col_least (p := p) (r := r) (w := w) (h := h) hp.2
    have hx : (endsOf p false).Pairwise (· < ·) := ends_pw
    unfold colF
    rw [List.findSome?_cons]
    cases e : rowF p r w h a (endsOf p false) with
    | some s =>
      refine ⟨fun s' hs => ?_, fun hn => by cases hn⟩
      cases hs
      unfold rowF at e
      obtain ⟨x, hf, rfl⟩ := Option.map_eq_some_iff.mp e
      obtain ⟨k1, k2, k3⟩ := find_least hx hf
      refine ⟨k1, List.mem_cons_self, good_iff.mp k2, fun x' hx' y hy hF => ?_⟩
      rcases List.mem_cons.mp hy with rfl | hy
      · exact .inr ⟨rfl, k3 x' hx' (good_iff.mpr hF)⟩
      · exact .inl (hp.1 y hy)
    | none =>
      have hno : ∀ x ∈ endsOf p false, ¬ Fits p r (x, a, w, h) := fun x hx' hF => by
        unfold rowF at e
        rw [Option.map_eq_none_iff, List.find?_eq_none] at e
        exact e x hx' (good_iff.mpr hF)
      refine ⟨fun s hs => ?_, fun hn x hx' y hy => ?_⟩
      · obtain ⟨k1, k2, k3, k4⟩ := h1 s hs
        refine ⟨k1, List.mem_cons_of_mem _ k2, k3, fun x hx' y hy hF => ?_⟩
        rcases List.mem_cons.mp hy with rfl | hy
        · exact absurd hF (hno x hx')
        · exact k4 x hx' y hy hF
      · rcases List.mem_cons.mp hy with rfl | hy
        · exact hno x hx'
        · exact h2 hn x hx' y hy
theorem max_le {l : List Int} {x : Int} (h : ∃ z ∈ l, z ≤ x) : ∃ m ∈ l, m ≤ x ∧ ∀ z ∈ l, z ≤ x → z ≤ m := by
  induction l with
  | nil => obtain ⟨z, hz, _⟩ := h; cases hz
  | cons a l ih =>
    by_cases c : ∃ z ∈ l, z ≤ x
    · obtain ⟨m, h1, h2, h3⟩ := ih c
      by_cases ca : a ≤ x ∧ m < a
      · refine ⟨a, List.mem_cons_self, ca.1, fun z hz hzx => ?_⟩
        rcases List.mem_cons.mp hz with rfl | hz
        · exact Int.le_refl _
        · have := h3 z hz hzx; omega
      · refine ⟨m, List.mem_cons_of_mem _ h1, h2, fun z hz hzx => ?_⟩
        rcases List.mem_cons.mp hz with rfl | hz
        · omega
        · exact h3 z hz hzx
    · obtain ⟨z, hz, hzx⟩ := h
      rcases List.mem_cons.mp hz with rfl | hz
      · refine ⟨z, List.mem_cons_self, hzx, fun y hy hyx => ?_⟩
        rcases List.mem_cons.mp hy with rfl | hy
        · exact Int.le_refl _
        · exact absurd ⟨y, hy, hyx⟩ c
      · exact absurd ⟨z, hz, hzx⟩ c
theorem ends_x {p : Plan} {z : Int} : z ∈ endsOf p false ↔ (∃ c ∈ p.1.1, c.2.1 = z) ∨ ∃ o ∈ obsF p, o.1 + o.2.2.1 = z := by
  unfold endsOf rawEnds
  rw [ends_mem, List.mem_append, List.mem_map, List.mem_map]
  simp
theorem ends_y {p : Plan} {z : Int} : z ∈ endsOf p true ↔ (∃ c ∈ p.1.1, c.2.2 = z) ∨ ∃ o ∈ obsF p, o.2.1 + o.2.2.2 = z := by
  unfold endsOf rawEnds
  rw [ends_mem, List.mem_append, List.mem_map, List.mem_map]
  simp
/-- a cell's room is told by the corners at most this far -/
theorem west_same {n : Net} (hn : NetR n) {x y x' y' : Int} (hx : ∀ c ∈ n.1, c.2.1 ≤ x ↔ c.2.1 ≤ x') (hy : ∀ c ∈ n.1, c.2.2 ≤ y ↔ c.2.2 ≤ y') : westF (linesF n) x y = westF (linesF n) x' y' := by
  have key : ∀ (ls : List Line) (b : Option (Int × Wall)), (∀ l ∈ ls, (l.1 ≤ x ↔ l.1 ≤ x') ∧ (l.2.1 ≤ y ↔ l.2.1 ≤ y') ∧ (l.2.2.1 ≤ y ↔ l.2.2.1 ≤ y')) → ls.foldl (westStep x y) b = ls.foldl (westStep x' y') b := by
    intro ls
    induction ls with
    | nil => intro b _; rfl
    | cons l ls ih =>
      intro b h
      rw [List.foldl_cons, List.foldl_cons]
      have hl := h l List.mem_cons_self
      have : westStep x y b l = westStep x' y' b l := by
        unfold westStep
        have e : (l.1 ≤ x ∧ (l.2.1 ≤ y ∧ y < l.2.2.1) ∧ ∀ b_1, b = some b_1 → b_1.1 < l.1) ↔ (l.1 ≤ x' ∧ (l.2.1 ≤ y' ∧ y' < l.2.2.1) ∧ ∀ b_1, b = some b_1 → b_1.1 < l.1) := by
          have : (y < l.2.2.1 ↔ y' < l.2.2.1) := by omega
          rw [hl.1, hl.2.1, this]
        simp only [e]
      rw [this]
      exact ih _ fun a ha => h a (List.mem_cons_of_mem _ ha)
  unfold westF
  rw [key (linesF n) none fun l hl => ?_]
  unfold linesF at hl
  obtain ⟨w, hw, rfl⟩ := List.mem_map.mp hl
  have hw := (List.mem_filter.mp hw).1
  obtain ⟨k1, k2⟩ := hn.ends w hw
  obtain ⟨c, hc, _, e⟩ := lookup_spot hn k1
  obtain ⟨d, hd, _, e2⟩ := lookup_spot hn k2
  unfold lineF endsF
  dsimp only
  rw [e, e2]
  exact ⟨hx c hc, hy c hc, hy d hd⟩
theorem slide {p : Plan} (hT : NetT p.1) {r : Nat} {x y w h : Int} (hF : Fits p r (x, y, w, h)) : ∃ x' ∈ endsOf p false, ∃ y' ∈ endsOf p true, (x' ≤ x ∧ y' ≤ y) ∧ Fits p r (x', y', w, h) := by
  obtain ⟨h1, h2, h3⟩ := hF
  dsimp only at h2
  obtain ⟨⟨c, hc, cx⟩, ⟨d, hd, dy⟩, _⟩ := cell_in hT (by rw [h2]; rfl)
  obtain ⟨x', m1, m2, m3⟩ := max_le (l := endsOf p false) (x := x) ⟨_, ends_x.mpr (.inl ⟨c, hc, rfl⟩), cx⟩
  obtain ⟨y', n1, n2, n3⟩ := max_le (l := endsOf p true) (x := y) ⟨_, ends_y.mpr (.inl ⟨d, hd, rfl⟩), dy⟩
  have cX : ∀ c ∈ p.1.1, c.2.1 ≤ x → c.2.1 ≤ x' := fun c hc => m3 _ (ends_x.mpr (.inl ⟨c, hc, rfl⟩))
  have cY : ∀ c ∈ p.1.1, c.2.2 ≤ y → c.2.2 ≤ y' := fun c hc => n3 _ (ends_y.mpr (.inl ⟨c, hc, rfl⟩))
  refine ⟨x', m1, y', n1, ⟨m2, n2⟩, ?_, ?_, fun b hb => ?_⟩
  · cases e : crossF p.1 (x', y', w, h) with
    | false => rfl
    | true =>
      obtain ⟨wl, hw, hh⟩ := cross_mem.mp e
      obtain ⟨k1, k2⟩ := hT.ends wl hw
      obtain ⟨a, ha, _, e1⟩ := lookup_spot hT.toNetR k1
      obtain ⟨b, hb, _, e2⟩ := lookup_spot hT.toNetR k2
      have a1 := cX a ha
      have a2 := cY a ha
      have b1 := cX b hb
      have b2 := cY b hb
      have : crossF p.1 (x, y, w, h) = true := cross_mem.mpr ⟨wl, hw, by
        rw [e1, e2] at hh ⊢
        dsimp only at hh ⊢
        rcases hh with ⟨g0, g1, g2, g3⟩ | ⟨g0, g1, g2, g3⟩
        · left; refine ⟨g0, ⟨?_, ?_⟩, ?_, ?_⟩ <;> omega
        · right; refine ⟨g0, ⟨?_, ?_⟩, ?_, ?_⟩ <;> omega⟩
      rw [h1] at this; cases this
  · show cellF p.1 x' y' = some r
    rw [← h2]
    unfold cellF
    rw [west_same hT.toNetR (fun c hc => ⟨fun h => by omega, cX c hc⟩) (fun c hc => ⟨fun h => by omega, cY c hc⟩)]
  · cases e : meetF (x', y', w, h) b with
    | false => rfl
    | true =>
      have hm := meet_iff.mp e
      dsimp only at hm
      have e1 := m3 _ (ends_x.mpr (.inr ⟨b, hb, rfl⟩))
      have e2 := n3 _ (ends_y.mpr (.inr ⟨b, hb, rfl⟩))
      have := h3 b hb
      rw [meet_iff.mpr (by dsimp only; refine ⟨?_, ?_, ?_, ?_⟩ <;> omega)] at this
      cases this
theorem fit_some {p : Plan} (hT : NetT p.1) {r : Nat} {w h : Int} {s : Pt} (hf : fitF p r w h = some s) : Fits p r (s.1, s.2, w, h) ∧ ∀ x y, Fits p r (x, y, w, h) → yxle s (x, y) := by
  obtain ⟨_, _, h3, h4⟩ := (col_least (p := p) (r := r) (w := w) (h := h) (l := endsOf p true) ends_pw).1 s hf
  refine ⟨h3, fun x y hF => ?_⟩
  obtain ⟨x', hx', y', hy', hle, hF'⟩ := slide hT hF
  have := h4 x' hx' y' hy' hF'
  unfold yxle at this ⊢
  dsimp only at this ⊢
  omega
theorem fit_none {p : Plan} (hT : NetT p.1) {r : Nat} {w h : Int} (hf : fitF p r w h = none) (x y : Int) : ¬ Fits p r (x, y, w, h) := fun hF => by
  obtain ⟨x', hx', y', hy', _, hF'⟩ := slide hT hF
  exact (col_least (p := p) (r := r) (w := w) (h := h) (l := endsOf p true) ends_pw).2 hf x' hx' y' hy' hF'
/-! what is put -/
theorem new_name : ∀ x ∈ names, x ≠ ("newthing" : Str) := by decide +kernel
theorem room_by_iff {n : Net} {o : Obl} {r : Nat} : roomByF n o = some r ↔ crossF n o = false ∧ cellF n o.1 o.2.1 = some r := by
  unfold roomByF
  cases crossF n o <;> simp
section
variable {p : Plan} (hp : PlanG p)
include hp
theorem mem_put {o : Obl} {t : Thing} : t ∈ putTs p.2.2.2 (newT o) ↔ t ∈ p.2.2.2 ∨ t = newT o := by
  unfold putTs
  rw [List.mem_mergeSort, List.mem_append, List.mem_filter, List.mem_singleton]
  constructor
  · rintro (⟨h, _⟩ | h)
    · exact .inl h
    · exact .inr h
  · rintro (h | h)
    · exact .inl ⟨h, by
        have := new_name _ (hp.things.one t h).name
        simpa using this⟩
    · exact .inr h
theorem obs_wh {b : Obl} (hb : b ∈ obsF p) : 1 ≤ b.2.2.1 ∧ 1 ≤ b.2.2.2 := by
  unfold obsF allPlacesF at hb
  rcases List.mem_append.mp hb with hb | hb
  · obtain ⟨t, ht, rfl⟩ := List.mem_map.mp hb
    have := hp.things.one t ht
    exact ⟨this.px.2, this.py.2⟩
  · obtain ⟨o, ho, rfl⟩ := List.mem_map.mp hb
    obtain ⟨s, hs⟩ := hp.ops.all o (List.mem_filter.mp ho).1
    rw [← obl_places hp.w hp.t hs]
    exact opg_wh hp.w hp.t hs
theorem put_ok {r : Nat} {o : Obl} (hwh : 1 ≤ o.2.2.1 ∧ 1 ≤ o.2.2.2) : (badP p o = [] ∧ roomByF p.1 o = some r) ↔ Fits p r o := by
  have law_meet : ∀ {a b : Obl}, 1 ≤ a.2.2.1 ∧ 1 ≤ a.2.2.2 → 1 ≤ b.2.2.1 ∧ 1 ≤ b.2.2.2 → lawMeet a b = false → meetF a b = false := fun {a b} ha hb h => by
    cases e : meetF a b with
    | false => rfl
    | true =>
      rw [(lawMeet_eq a b).mpr ⟨by omega, e⟩] at h
      cases h
  constructor
  · rintro ⟨h1, h2⟩
    obtain ⟨h3, h4⟩ := room_by_iff.mp h2
    refine ⟨h3, h4, fun b hb => ?_⟩
    have hok : okThing p.1 p.2.2.1 (putTs p.2.2.2 (newT o)) (newT o) = true := by
      cases e : okThing p.1 p.2.2.1 (putTs p.2.2.2 (newT o)) (newT o) with
      | true => rfl
      | false =>
        have : ("newthing" : Str) ∈ badP p o := List.mem_map.mpr ⟨newT o, List.mem_filter.mpr ⟨(mem_put hp).mpr (.inr rfl), by rw [e]; rfl⟩, rfl⟩
        rw [h1] at this; cases this
    unfold okThing at hok
    rw [Bool.and_eq_true, Bool.not_eq_true'] at hok
    cases e : meetF o b with
    | false => rfl
    | true =>
      have : (allPlacesF p.1 p.2.2.1 ++ ((putTs p.2.2.2 (newT o)).filter fun x => !decide (x.1 = (newT o).1)).map (·.2)).any (meetF (newT o).2) = true := by
        refine List.any_eq_true.mpr ⟨b, ?_, e⟩
        unfold obsF at hb
        rcases List.mem_append.mp hb with hb | hb
        · obtain ⟨t, ht, rfl⟩ := List.mem_map.mp hb
          refine List.mem_append_right _ (List.mem_map.mpr ⟨t, List.mem_filter.mpr ⟨(mem_put hp).mpr (.inl ht), ?_⟩, rfl⟩)
          have := new_name _ (hp.things.one t ht).name
          simpa using this
        · exact List.mem_append_left _ hb
      rw [this] at hok
      exact absurd hok.2 (by simp)
  · rintro ⟨h1, h2, h3⟩
    refine ⟨?_, room_by_iff.mpr ⟨h1, h2⟩⟩
    unfold badP badF
    rw [List.map_eq_nil_iff, List.filter_eq_nil_iff]
    intro t ht
    have doorOk : ∀ t ∈ p.2.2.2, ∀ b ∈ allPlacesF p.1 p.2.2.1, meetF t.2 b = false := fun t ht b hb => by
      unfold allPlacesF at hb
      obtain ⟨d, hd, rfl⟩ := List.mem_map.mp hb
      obtain ⟨hd1, hd2⟩ := List.mem_filter.mp hd
      obtain ⟨s, hs⟩ := hp.ops.all d hd1
      have h1 := hp.things.one t ht
      rw [← obl_places hp.w hp.t hs]
      exact law_meet ⟨h1.px.2, h1.py.2⟩ (opg_wh hp.w hp.t hs) (hp.things.doors t ht d hd1 hd2)
    have : okThing p.1 p.2.2.1 (putTs p.2.2.2 (newT o)) t = true := by
      unfold okThing
      rw [Bool.and_eq_true, Bool.not_eq_true']
      rcases (mem_put hp).mp ht with ht | rfl
      · have h4 := hp.things.one t ht
        constructor
        · have hc : crossF p.1 t.2 = false := by
            cases e : crossF p.1 t.2 with
            | false => rfl
            | true =>
              obtain ⟨w, hw, hh⟩ := cross_mem.mp e
              obtain ⟨k1, _⟩ := hp.t.ends w hw
              obtain ⟨c, hc, _, ec⟩ := lookup_spot hp.t.toNetR k1
              rw [ec] at hh
              have f1 := h4.fx c hc
              have f2 := h4.fy c hc
              rcases hh with ⟨_, g, _⟩ | ⟨_, g, _⟩
              · exact absurd g f1
              · exact absurd g f2
          unfold roomByF
          rw [hc]
          exact h4.cell
        · rw [List.any_eq_false]
          intro b hb
          rcases List.mem_append.mp hb with hb | hb
          · rw [doorOk t ht b hb]; simp
          · obtain ⟨u, hu, rfl⟩ := List.mem_map.mp hb
            obtain ⟨hu1, hu2⟩ := List.mem_filter.mp hu
            rcases (mem_put hp).mp hu1 with hu1 | rfl
            · have h5 := hp.things.one u hu1
              rw [law_meet ⟨h4.px.2, h4.py.2⟩ ⟨h5.px.2, h5.py.2⟩ (hp.things.apart t ht u hu1 fun e => by rw [e] at hu2; simp at hu2)]
              simp
            · rw [meet_comm, h3 t.2 (List.mem_append_left _ (List.mem_map_of_mem ht))]
              simp
      · constructor
        · rw [room_by_iff.mpr ⟨h1, h2⟩]; rfl
        · rw [List.any_eq_false]
          intro b hb
          rcases List.mem_append.mp hb with hb | hb
          · rw [h3 b (List.mem_append_right _ hb)]; simp
          · obtain ⟨u, hu, rfl⟩ := List.mem_map.mp hb
            obtain ⟨hu1, hu2⟩ := List.mem_filter.mp hu
            rcases (mem_put hp).mp hu1 with hu1 | rfl
            · rw [h3 u.2 (List.mem_append_left _ (List.mem_map_of_mem hu1))]; simp
            · simp at hu2
    rw [this]; simp
/-- the told spot: a thing can be put there -/
theorem law_told {r : Nat} {w h : Int} (hw : 1 ≤ w ∧ w ≤ 1000000) (hh : 1 ≤ h ∧ h ≤ 1000000) {s : Pt} (hf : fitF p r w h = some s) : fairO (s.1, s.2, w, h) ∧ badP p (s.1, s.2, w, h) = [] ∧ roomByF p.1 (s.1, s.2, w, h) = some r := by
  obtain ⟨h1, _⟩ := fit_some hp.t hf
  obtain ⟨h2, h3⟩ := (put_ok hp ⟨hw.1, hh.1⟩).mpr h1
  refine ⟨⟨?_, hw, hh⟩, h2, h3⟩
  obtain ⟨_, _, b1, b2⟩ := cell_in hp.t (x := s.1) (y := s.2) (by rw [(room_by_iff.mp h3).2]; rfl)
  unfold boxed
  simp only [Bool.and_eq_true, decide_eq_true_eq]
  omega
/-- no lesser spot -/
theorem law_lesser {r : Nat} {w h x y : Int} (hw : 1 ≤ w) (hh : 1 ≤ h) (hb : badP p (x, y, w, h) = []) (hr : roomByF p.1 (x, y, w, h) = some r) : ∃ s, fitF p r w h = some s ∧ yxle s (x, y) := by
  have hF := (put_ok hp ⟨hw, hh⟩).mp ⟨hb, hr⟩
  cases e : fitF p r w h with
  | none => exact absurd hF (fit_none hp.t e x y)
  | some s => exact ⟨s, rfl, (fit_some hp.t e).2 x y hF⟩
/-- told again: another one, no lesser -/
theorem law_again {r : Nat} {w h : Int} (hw : 1 ≤ w) (hh : 1 ≤ h) {s s' : Pt} (hf : fitF p r w h = some s) (hf' : fitF (putP p (s.1, s.2, w, h)) r w h = some s') : s.2 < s'.2 ∨ s.2 = s'.2 ∧ s.1 < s'.1 := by
  obtain ⟨⟨h1, h2, h3⟩, _⟩ := fit_some (p := putP p (s.1, s.2, w, h)) hp.t hf'
  have hF : Fits p r (s'.1, s'.2, w, h) := ⟨h1, h2, fun b hb => by
    refine h3 b ?_
    unfold obsF at hb ⊢
    rcases List.mem_append.mp hb with hb | hb
    · obtain ⟨t, ht, rfl⟩ := List.mem_map.mp hb
      exact List.mem_append_left _ (List.mem_map_of_mem ((mem_put hp).mpr (.inl ht)))
    · exact List.mem_append_right _ hb⟩
  have hle := (fit_some hp.t hf).2 _ _ hF
  have hne := h3 (s.1, s.2, w, h) (List.mem_append_left _ (List.mem_map.mpr ⟨newT (s.1, s.2, w, h), (mem_put hp).mpr (.inr rfl), rfl⟩))
  by_cases e : s.1 = s'.1 ∧ s.2 = s'.2
  · rw [meet_iff.mpr (by dsimp only; omega)] at hne
    cases hne
  · unfold yxle at hle
    dsimp only at hle
    omega
end
end My
end

section
set_option Elab.async false
set_option linter.all false
set_option maxRecDepth 100000
set_option maxHeartbeats 4000000
namespace My
open PySem L2 G
open PySem.W (alike)
open PyProof.Rows (envOfC)
def scaleF (r : Int) : Int := if r < 4 then 1 else if r = 4 then 100 else 10000
theorem atI_scale {r : Int} (h0 : 0 ≤ r) (h1 : r < 6) : atI [PyData.int 1, .int 1, .int 1, .int 1, .int 100, .int 10000] r = some (.int (scaleF r)) := by
  have : r = 0 ∨ r = 1 ∨ r = 2 ∨ r = 3 ∨ r = 4 ∨ r = 5 := by omega
  rcases this with rfl | rfl | rfl | rfl | rfl | rfl <;> rfl
theorem scale_box (r : Int) : 1 ≤ scaleF r ∧ scaleF r ≤ 10000 := by
  unfold scaleF
  split
  · omega
  · split <;> omega
section
variable {P : Program} {w : World} {K : PySem.W.Frag} {mg : Str → Option Value} {base : Heap} {C CP CN : Addr}
def c__law_plan : Cf := fun n ds Ψ => ds = [I 5] ∧ n ≤ 100 ∧ ∀ (p : Plan) n', n' ≤ n + 4000 → PlanG p → Ψ (.py (dPlan p)) n'
theorem sc__law_plan : FnScope ["_law_feed_here", "_law_most", "_law_net_here", "_law_openings_here"] ["_law_feed_here", "_law_most"] (defScope s__law_plan) := ⟨rfl, rfl, rfl, by decide +kernel, rfl, by decide +kernel, by decide +kernel⟩
theorem okv__law_plan : okL ["_law_feed_here", "_law_most", "_law_net_here", "_law_openings_here"] (defScope s__law_plan) = true := by decide +kernel
theorem okg__law_plan : okG ["_law_draw", "_law_net", "_law_openings", "_law_things", "_law_holds"] (defScope s__law_plan) = true := by decide +kernel
theorem ok__law_plan (T : Tx K mg C) (F : Df K mg "_law_plan" s__law_plan ["_law_feed_here", "_law_most"]) (g__law_draw : Fn P w K mg base CX0 "_law_draw" 1 ["_law_feed_here", "_law_many"] (spF c__law_draw)) (g__law_holds : Fn P w K mg base CX0 "_law_holds" 3 ["_law_feed_here", "_law_net_here", "_law_most"] (spF c__law_holds)) (g__law_net : Fn P w K mg base CX0 "_law_net" 3 ["_law_feed_here", "_law_most", "_law_scale"] (spF c__law_net)) (g__law_openings : Fn P w K mg base CX0 "_law_openings" 3 ["_law_feed_here", "_law_net_here", "_law_most"] (spF c__law_openings)) (g__law_things : Fn P w K mg base CX0 "_law_things" 8 ["_law_feed_here", "_law_net_here", "_law_openings_here", "_law_most"] (spF c__law_things)) : Fn P w K mg base CX0 "_law_plan" 9 ["_law_feed_here", "_law_most"] (spF c__law_plan) :=
  have nd := sc__law_plan.nd
  fn_mk F sc__law_plan (by first | (rintro ds Ω Ψ ⟨_, _, _, rfl, _, rfl, _⟩; rfl) | (rintro ds Ω Ψ ⟨_, _, _, rfl, _, _, rfl, _⟩; rfl) | (rintro ds Ω Ψ ⟨_, _, _, rfl, _, _, _, rfl, _⟩; rfl) | (rintro ds Ω Ψ ⟨_, _, _, rfl, _, _, _, _, rfl, _⟩; rfl)) fun f cdv A outer s H E hr => by
    refine ⟨_, (pss_cons (ps_asg (pe_fn g__law_net hr (by decide) (pa_cons (pvA okv__law_plan 0 0) (pa_cons (pvA okv__law_plan 1 1) (pa_cons (pe_ix (ixl K) (pe_lst (pa_cons pe_int (pa_cons pe_int (pa_cons pe_int (pa_cons pe_int (pa_cons pe_int (pa_cons pe_int pa_nil))))))) (pe_fn g__law_draw hr (by decide) (pa_cons (pvA okv__law_plan 0 0) (pa_cons pe_int pa_nil)) (hg := glA okg__law_plan 0)) (fun _ _ => rfl)) pa_nil))) (hg := glA okg__law_plan 1)) (gnA okv__law_plan nd 2 2)) (pss_cons (ps_asg (pe_fn g__law_openings hr (by decide) (pa_cons (pvA okv__law_plan 0 0) (pa_cons (pvA okv__law_plan 2 2) (pa_cons pe_int pa_nil))) (hg := glA okg__law_plan 2)) (gnA okv__law_plan nd 3 3)) (pss_one (ps_ret (pe_tup (pa_cons (pvA okv__law_plan 2 2) (pa_cons (pe_fn g__law_holds hr (by decide) (pa_cons (pvA okv__law_plan 0 0) (pa_cons (pvA okv__law_plan 2 2) (pa_cons pe_int pa_nil))) (hg := glA okg__law_plan 4)) (pa_cons (pvA okv__law_plan 3 3) (pa_cons (pe_fn g__law_things hr (by decide) (pa_cons (pvA okv__law_plan 0 0) (pa_cons (pvA okv__law_plan 2 2) (pa_cons (pvA okv__law_plan 3 3) (pa_cons pe_int pa_nil)))) (hg := glA okg__law_plan 3)) pa_nil))))))))), ?_⟩
    rintro ds Ω Ψ ⟨F, n, es, rfl, rfl, rfl, hn, q⟩
    refine sw_seq (sw_setW (ev_fnF (ar_consW (EvD.toW (ev_var rfl) (ar_consW (EvD.toW (ev_var rfl) (ar_consW (ev_ixLW (ds := [.int 1, .int 1, .int 1, .int 1, .int 100, .int 10000]) (ev_lst (ds := [_, _, _, _, _, _]) (ar_cons ev_int (ar_cons ev_int (ar_cons ev_int (ar_cons ev_int (ar_cons ev_int (ar_cons ev_int ar_nil))))))) (ev_draw rfl ev_int ⟨by decide, by decide, by omega⟩ fun r0 h0 h1 => ⟨r0, .int (scaleF r0), rfl, atI_scale h0 h1, ar_nilW ⟨F, n + 1, [I 5, I (scaleF r0)], [], rfl, rfl, (5, scaleF r0), rfl, ⟨rfl, (scale_box r0).1, (scale_box r0).2, by omega⟩, fun net n1 hn1 hG => ?_⟩⟩)))))))))
    have hW := hG.w
    have hT := hG.t
    refine sw_seq (sw_setW (ev_fnF (ArD.toW (ds := [.loc F, .py (dNet net), I 9]) (ar_cons (ev_var rfl) (ar_cons (ev_var rfl) (ar_cons ev_int ar_nil))) ⟨F, n1, [.py (dNet net), I 9], [], rfl, rfl, net, rfl, ⟨hW, by omega⟩, fun os n2 hn2 hos hO => ?_⟩)))
    have hR : OpsR net os := ⟨hW.toNetR, fun o ho => by
      obtain ⟨s, hs⟩ := hO.all o ho
      exact hW.ends _ hs.wall, by omega⟩
    exact sw_retW (ev_tupW (ar_consW (EvD.toW (ev_var rfl) (ar_consW (ev_fnF (ArD.toW (ds := [.loc F, .py (dNet net), I 3]) (ar_cons (ev_var rfl) (ar_cons (ev_var rfl) (ar_cons ev_int ar_nil))) ⟨F, n2, [.py (dNet net), I 3], [], rfl, rfl, net, rfl, ⟨hW.toNetB, by omega⟩, fun hs n3 hn3 hhs hok => ar_consW (EvD.toW (ev_var rfl) (ar_consW (ev_fnF (ArD.toW (ds := [.loc F, .py (dNet net), .py (.tuple (os.map dO)), I 6]) (ar_cons (ev_var rfl) (ar_cons (ev_var rfl) (ar_cons (ev_var rfl) (ar_cons ev_int ar_nil)))) ⟨F, n3, [.py (dNet net), .py (.tuple (os.map dO)), I 6], [], rfl, rfl, (net, os), rfl, ⟨hT.netF, hW.toNetB, hR, by omega⟩, fun ts n4 hn4 hts hth => ar_nilW ⟨[dNet net, .tuple (hs.map dH), .tuple (os.map dO), .tuple (ts.map dT)], rfl, Nat.le_of_ble_eq_true rfl, q (net, hs, os, ts) n4 (by omega) ⟨hG, hhs, hok, hos, hO, hts, hth⟩⟩⟩))))⟩))))))
end
end My
end

section
set_option Elab.async false
set_option linter.all false
set_option maxRecDepth 100000
set_option maxHeartbeats 4000000
namespace My
open PySem L2 G
open PySem.W (alike)
open PyProof.Rows (envOfC)
theorem names_ok : ∀ x ∈ names, PyData.canLay0 (.str x) = true := by decide +kernel
theorem lay_ts : ∀ l : List Thing, (∀ t ∈ l, PyData.canLay0 (.str t.1) = true) → PyData.canLayAll0 (l.map dT) = true ∧ PyData.depthAll (l.map dT) ≤ 3
  | [], _ => ⟨rfl, Nat.zero_le _⟩
  | a :: l, h => by
    obtain ⟨h1, h2⟩ := lay_ts l fun t ht => h t (List.mem_cons_of_mem _ ht)
    have h0 := h a List.mem_cons_self
    refine ⟨Bool.and_eq_true_iff.mpr ⟨Bool.and_eq_true_iff.mpr ⟨h0, rfl⟩, h1⟩, Nat.max_le.mpr ⟨Nat.le_of_ble_eq_true rfl, h2⟩⟩
theorem shp_ts {l : List Thing} (h : ∀ t ∈ l, PyData.canLay0 (.str t.1) = true) : SeqAt.shaped (.tuple (l.map dT)) = true := by
  obtain ⟨h1, h2⟩ := lay_ts l h
  refine Bool.and_eq_true_iff.mpr ⟨h1, decide_eq_true ?_⟩
  have : PyData.depth (.tuple (l.map dT)) = PyData.depthAll (l.map dT) + 1 := rfl
  omega
theorem eqv_ts (l : List Thing) : PyData.eqv (.tuple (l.map dT)) (.tuple []) = decide (l = []) := by
  cases l <;> rfl
theorem atI3 (A B C : Pt) {r : Int} (h0 : 0 ≤ r) (h1 : r < 3) : ∃ Q : Pt, atI [dPt A, dPt B, dPt C] r = some (dPt Q) := by
  have : r = 0 ∨ r = 1 ∨ r = 2 := by omega
  rcases this with rfl | rfl | rfl
  · exact ⟨A, rfl⟩
  · exact ⟨B, rfl⟩
  · exact ⟨C, rfl⟩
def bitF (r : Int) : Int := if r = 2 then 1 else 0
theorem atI_bit {r : Int} (h0 : 0 ≤ r) (h1 : r < 3) : atI [PyData.int 0, .int 0, .int 1] r = some (.int (bitF r)) := by
  have : r = 0 ∨ r = 1 ∨ r = 2 := by omega
  rcases this with rfl | rfl | rfl <;> rfl
theorem pick_at {α : Type} {f : α → PyData} {l : List α} (a0 : α) {r : Int} (h0 : 0 ≤ r) (h1 : r < ((l.map f).length : Int)) : ∃ a ∈ l, atI (l.map f) r = some (f a) := by
  rw [List.length_map] at h1
  have h2 : r.toNat < l.length := by omega
  refine ⟨l.getD r.toNat a0, getD_mem h2, ?_⟩
  have := atI_mapD (f := f) (a0 := a0) h2
  rw [Int.toNat_of_nonneg h0] at this
  exact this
section
variable {P : Program} {w : World} {K : PySem.W.Frag} {mg : Str → Option Value} {base : Heap} {C CP CN : Addr}
def c__law_spots : Cf := fun n ds Ψ => ∃ q : Plan × Option Pt, ds = [.py (dPlan q.1), .py (dOpt dPt q.2)] ∧ (0 < q.1.1.1.length ∧ q.1.1.1.length ≤ 30 ∧ q.1.2.2.2.length ≤ 10 ∧ (∀ t ∈ q.1.2.2.2, PyData.canLay0 (.str t.1) = true) ∧ n ≤ 900000) ∧ ∀ (ps : List Pt) n', n' ≤ n + 100 → (∀ s ∈ ps, boxed s = true) → Ψ (.py (.list (ps.map dPt))) n'
theorem sc__law_spots : FnScope ["_law_feed_here", "_law_plan_here", "_law_spot", "_law_found", "_law_turn", "_law_c", "_law_x", "_law_y", "_law_name", "_law_u", "_law_v", "_law_w", "_law_h"] ["_law_feed_here", "_law_plan_here", "_law_spot"] (defScope s__law_spots) := ⟨rfl, rfl, rfl, by decide +kernel, rfl, by decide +kernel, by decide +kernel⟩
theorem okv__law_spots : okL ["_law_found", "_law_turn", "_law_plan_here", "_law_feed_here", "_law_y", "_law_x", "_law_c", "_law_h", "_law_w", "_law_v", "_law_u", "_law_name", "_law_spot"] (defScope s__law_spots) = true := by decide +kernel
theorem okg__law_spots : okG ["range", "len", "_law_draw"] (defScope s__law_spots) = true := by decide +kernel
theorem ok__law_spots (T : Tx K mg C) (F : Df K mg "_law_spots" s__law_spots ["_law_feed_here", "_law_plan_here", "_law_spot"]) (g__law_draw : Fn P w K mg base CX0 "_law_draw" 1 ["_law_feed_here", "_law_many"] (spF c__law_draw)) : Fn P w K mg base CX0 "_law_spots" 2 ["_law_feed_here", "_law_plan_here", "_law_spot"] (spF c__law_spots) :=
  have nd := sc__law_spots.nd
  fn_mk F sc__law_spots (by first | (rintro ds Ω Ψ ⟨_, _, _, rfl, _, rfl, _⟩; rfl) | (rintro ds Ω Ψ ⟨_, _, _, rfl, _, _, rfl, _⟩; rfl) | (rintro ds Ω Ψ ⟨_, _, _, rfl, _, _, _, rfl, _⟩; rfl) | (rintro ds Ω Ψ ⟨_, _, _, rfl, _, _, _, _, rfl, _⟩; rfl)) fun f cdv A outer s H E hr => by
    refine ⟨_, (pss_cons (ps_asg (pe_lst pa_nil) (gnA okv__law_spots nd 3 0)) (pss_cons (ps_for PassesOwn.never rfl (pi_range1 (glA okg__law_spots 0) T.b.range (pa_cons pe_int pa_nil)) (gnA okv__law_spots nd 4 1) (pss_cons (ps_asg (pe_ix (ixt K) (pe_ix (ixt K) (pe_ix (ixt K) (pvA okv__law_spots 1 2) pe_int (fun _ _ => rfl)) pe_int (fun _ _ => rfl)) (pe_fn g__law_draw hr (by decide) (pa_cons (pvA okv__law_spots 0 3) (pa_cons (kb_len K T.b (pa_cons (pe_ix (ixt K) (pe_ix (ixt K) (pvA okv__law_spots 1 2) pe_int (fun _ _ => rfl)) pe_int (fun _ _ => rfl)) pa_nil) (hg := glA okg__law_spots 1)) pa_nil)) (hg := glA okg__law_spots 2)) (fun _ _ => rfl)) (pgt K (n := 3) rfl (pgs_cons (gnA okv__law_spots nd 5 6) (pgs_cons (gnA okv__law_spots nd 6 5) (pgs_cons (gnA okv__law_spots nd 7 4) pgs_nil))))) (pss_cons (ps_if (PW.pt (pw_and (pt_cmpR (opn K hr.units) (pe_ix (ixt K) (pvA okv__law_spots 1 2) pe_int (fun _ _ => rfl)) (pe_tup pa_nil) (nomark _)) (pw_and1 (pt_cmpR op_eq (pe_fn g__law_draw hr (by decide) (pa_cons (pvA okv__law_spots 0 3) (pa_cons pe_int pa_nil)) (hg := glA okg__law_spots 2)) pe_int (nomark _))))) (pss_cons (ps_asg (pe_ix (ixt K) (pe_ix (ixt K) (pvA okv__law_spots 1 2) pe_int (fun _ _ => rfl)) (pe_fn g__law_draw hr (by decide) (pa_cons (pvA okv__law_spots 0 3) (pa_cons (kb_len K T.b (pa_cons (pe_ix (ixt K) (pvA okv__law_spots 1 2) pe_int (fun _ _ => rfl)) pa_nil) (hg := glA okg__law_spots 1)) pa_nil)) (hg := glA okg__law_spots 2)) (fun _ _ => rfl)) (pgt K (n := 5) rfl (pgs_cons (gnA okv__law_spots nd 8 11) (pgs_cons (gnA okv__law_spots nd 9 10) (pgs_cons (gnA okv__law_spots nd 10 9) (pgs_cons (gnA okv__law_spots nd 11 8) (pgs_cons (gnA okv__law_spots nd 12 7) pgs_nil))))))) (pss_one (ps_asg (pe_ix (ixl K) (pe_lst (pa_cons (pe_tup (pa_cons (pe_op op_add (pvA okv__law_spots 9 10) (pvA okv__law_spots 11 8)) (pa_cons (pvA okv__law_spots 10 9) pa_nil))) (pa_cons (pe_tup (pa_cons (pvA okv__law_spots 9 10) (pa_cons (pe_op op_add (pvA okv__law_spots 10 9) (pvA okv__law_spots 12 7)) pa_nil))) (pa_cons (pe_tup (pa_cons (pe_op op_add (pvA okv__law_spots 9 10) (pvA okv__law_spots 11 8)) (pa_cons (pe_op op_add (pvA okv__law_spots 10 9) (pvA okv__law_spots 12 7)) pa_nil))) pa_nil)))) (pe_fn g__law_draw hr (by decide) (pa_cons (pvA okv__law_spots 0 3) (pa_cons pe_int pa_nil)) (hg := glA okg__law_spots 2)) (fun _ _ => rfl)) (pgt K (n := 2) rfl (pgs_cons (gnA okv__law_spots nd 6 5) (pgs_cons (gnA okv__law_spots nd 7 4) pgs_nil)))))) pss_nil) (pss_cons (ps_if (PW.pt (pw_and (pt_cmpR op_ntn (pvA okv__law_spots 2 12) pe_non (nomark _)) (pw_and1 (pt_cmpR op_eq (pe_fn g__law_draw hr (by decide) (pa_cons (pvA okv__law_spots 0 3) (pa_cons pe_int pa_nil)) (hg := glA okg__law_spots 2)) pe_int (nomark _))))) (pss_one (ps_asg (pe_ix (ixl K) (pe_lst (pa_cons (pe_tup (pa_cons (pe_op op_sub (pe_ix (ixt K) (pvA okv__law_spots 2 12) pe_int (fun _ _ => rfl)) pe_int) (pa_cons (pe_ix (ixt K) (pvA okv__law_spots 2 12) pe_int (fun _ _ => rfl)) pa_nil))) (pa_cons (pe_tup (pa_cons (pe_ix (ixt K) (pvA okv__law_spots 2 12) pe_int (fun _ _ => rfl)) (pa_cons (pe_op op_sub (pe_ix (ixt K) (pvA okv__law_spots 2 12) pe_int (fun _ _ => rfl)) pe_int) pa_nil))) (pa_cons (pe_tup (pa_cons (pe_op op_sub (pe_ix (ixt K) (pvA okv__law_spots 2 12) pe_int (fun _ _ => rfl)) pe_int) (pa_cons (pe_ix (ixt K) (pvA okv__law_spots 2 12) pe_int (fun _ _ => rfl)) pa_nil))) pa_nil)))) (pe_fn g__law_draw hr (by decide) (pa_cons (pvA okv__law_spots 0 3) (pa_cons pe_int pa_nil)) (hg := glA okg__law_spots 2)) (fun _ _ => rfl)) (pgt K (n := 2) rfl (pgs_cons (gnA okv__law_spots nd 6 5) (pgs_cons (gnA okv__law_spots nd 7 4) pgs_nil))))) pss_nil) (pss_cons (ps_par (i := 6) (j := 7) rfl nd rfl rfl (by decide) rfl rfl (pa_cons (pe_op op_add (pvA okv__law_spots 6 5) (pe_ix (ixl K) (pe_lst (pa_cons pe_int (pa_cons pe_int (pa_cons pe_int pa_nil)))) (pe_fn g__law_draw hr (by decide) (pa_cons (pvA okv__law_spots 0 3) (pa_cons pe_int pa_nil)) (hg := glA okg__law_spots 2)) (fun _ _ => rfl))) (pa_cons (pe_op op_add (pvA okv__law_spots 7 4) (pe_ix (ixl K) (pe_lst (pa_cons pe_int (pa_cons pe_int (pa_cons pe_int pa_nil)))) (pe_fn g__law_draw hr (by decide) (pa_cons (pvA okv__law_spots 0 3) (pa_cons pe_int pa_nil)) (hg := glA okg__law_spots 2)) (fun _ _ => rfl))) pa_nil)) (by rfl)) (pss_one (ps_if (PW.pt (pw_and (pt_chain op_le op_le pe_int (pvA okv__law_spots 6 5) (pe_op op_pow pe_int pe_int)) (pw_and1 (pt_chain op_le op_le pe_int (pvA okv__law_spots 7 4) (pe_op op_pow pe_int pe_int))))) (pss_one (ps_expr (pe_bm PySem.F.plainAttrs_list PySem.F.slot_list_append PySem.F.type_list_append mt_append (pvA okv__law_spots 3 0) (pa_cons (pe_tup (pa_cons (pvA okv__law_spots 6 5) (pa_cons (pvA okv__law_spots 7 4) pa_nil))) pa_nil)))) pss_nil))))))) (pss_one (ps_ret (pvA okv__law_spots 3 0))))), ?_⟩
    rintro ds Ω Ψ ⟨F, n, es, rfl, rfl, ⟨p, so⟩, rfl, ⟨h1, h2, h3, hnm, hn⟩, q⟩
    have hnm : ∀ t ∈ p.2.2.2, PyData.canLay0 (.str t.1) = true := hnm
    have h1 : 0 < p.1.1.length := h1
    have h2 : p.1.1.length ≤ 30 := h2
    have h3 : p.2.2.2.length ≤ 10 := h3
    have elc : ((p.1.1.map dC).length : Int) = p.1.1.length := by rw [List.length_map]
    have elt : ((p.2.2.2.map dT).length : Int) = p.2.2.2.length := by rw [List.length_map]
    refine sw_seq (sw_setW (ev_own0 fun l => ?_))
    try simp only [startD, List.map_cons, List.map_nil, List.cons_append, List.nil_append, List.set_cons_zero, List.set_cons_succ, List.length_cons, List.length_nil, List.replicate_succ, List.replicate_zero, Nat.reduceSub, Nat.reduceAdd]
    refine sw_seq (sw_forR (n := 6) (ar_cons ev_int ar_nil) (by omega) (by omega) (fun i Γ Ω => ∃ a b c d e f g h j ps n', Γ = [some (.loc F), some (.py (dPlan p)), some (.py (dOpt dPt so)), some (.loc l), a, b, c, d, e, f, g, h, j] ∧ Ω = [(F, .feed n'), (l, .lst ((ps.map dPt).map D.py))] ∧ (n' ≤ n + 12 * i ∧ ps.length ≤ i) ∧ ∀ s ∈ ps, boxed s = true) ⟨none, none, none, none, none, none, none, none, none, [], n, rfl, rfl, ⟨by omega, Nat.le_refl _⟩, fun s h => (nomatch h)⟩ (fun i Γ' Ω' hi J => ?_) fun Γ' Ω' J => ?_)
    · obtain ⟨a, b, c, d, e, f, g, h, j, ps, n', rfl, rfl, ⟨hn', hps⟩, hbx⟩ := J
      have hi6 : i < 6 := by omega
      refine tg_name ?_
      refine sw_seq (sw_asgW (ev_ixTW (ds := p.1.1.map dC) (ev_ixT (ev_ixT (ev_var rfl) ev_int rfl) ev_int rfl) (ev_draw rfl (ev_lenT (ev_ixT (ev_ixT (ev_var rfl) ev_int rfl) ev_int rfl)) ⟨by omega, by omega, by omega⟩ fun r1 h4 h5 => ?_)))
      try simp only [startD, List.map_cons, List.map_nil, List.cons_append, List.nil_append, List.set_cons_zero, List.set_cons_succ, List.length_cons, List.length_nil, List.replicate_succ, List.replicate_zero, Nat.reduceSub, Nat.reduceAdd]
      obtain ⟨c1, hc1, e1⟩ := pick_at (f := dC) (l := p.1.1) (0, 0, 0) h4 h5
      refine ⟨r1, dC c1, rfl, e1, tg_tup rfl (tgs_cons (tg_name (tgs_cons (tg_name (tgs_cons (tg_name (tgs_nil ?_)))))))⟩
      refine sw_seqE (α := { q : Int × Int × Nat × Option D × Option D × Option D × Option D × Option D // q.2.2.1 ≤ n' + 4 }) (fun q => [some (.loc F), some (.py (dPlan p)), some (.py (dOpt dPt so)), some (.loc l), some (I (i : Int)), some (I c1.1), some (I q.1.1), some (I q.1.2.1), q.1.2.2.2.1, q.1.2.2.2.2.1, q.1.2.2.2.2.2.1, q.1.2.2.2.2.2.2.1, q.1.2.2.2.2.2.2.2]) (fun q => [(F, .feed q.1.2.2.1), (l, .lst ((ps.map dPt).map D.py))]) (sw_ifW (ts_andW (TsD.toW (ts_T (ev_neD (d := .tuple (p.2.2.2.map dT)) (e := .tuple []) (ev_ixT (ev_var rfl) ev_int rfl) (ev_tup (ds := []) ar_nil) (shp_ts hnm) rfl)) ?_))) fun ⟨⟨x, y, n2, e, f, g, h, j⟩, hn2⟩ => ?_
      · split
        · rename_i hb
          rw [eqv_ts] at hb
          have hpos : 0 < p.2.2.2.length := by
            rcases Nat.eq_zero_or_pos p.2.2.2.length with h | h
            · rw [List.length_eq_zero_iff.mp h] at hb; simp at hb
            · exact h
          refine ts_TW (ev_eqIW (ev_draw rfl ev_int ⟨by decide, by decide, by omega⟩ fun r2 _ _ => ⟨r2, rfl, EvD.toW ev_int ⟨0, rfl, _, rfl, ?_⟩⟩))
          split
          · refine sw_seq (sw_asgW (ev_ixTW (ds := p.2.2.2.map dT) (ev_ixT (ev_var rfl) ev_int rfl) (ev_draw rfl (ev_lenT (ev_ixT (ev_var rfl) ev_int rfl)) ⟨by omega, by omega, by omega⟩ fun r3 h6 h7 => ?_)))
            obtain ⟨t1, ht1, e2⟩ := pick_at (f := dT) (l := p.2.2.2) ("", 0, 0, 0, 0) h6 h7
            refine ⟨r3, dT t1, rfl, e2, tg_tup rfl (tgs_cons (tg_name (tgs_cons (tg_name (tgs_cons (tg_name (tgs_cons (tg_name (tgs_cons (tg_name (tgs_nil ?_)))))))))))⟩
            refine sw_asgW (ev_ixLW (ds := [dPt (t1.2.1 + t1.2.2.2.1, t1.2.2.1), dPt (t1.2.1, t1.2.2.1 + t1.2.2.2.2), dPt (t1.2.1 + t1.2.2.2.1, t1.2.2.1 + t1.2.2.2.2)]) (ev_lst (ds := [_, _, _]) (ar_cons (ev_tup (ds := [_, _]) (ar_cons (ev_i0 (ev_var rfl) (ev_var rfl)) (ar_cons (ev_var rfl) ar_nil))) (ar_cons (ev_tup (ds := [_, _]) (ar_cons (ev_var rfl) (ar_cons (ev_i0 (ev_var rfl) (ev_var rfl)) ar_nil))) (ar_cons (ev_tup (ds := [_, _]) (ar_cons (ev_i0 (ev_var rfl) (ev_var rfl)) (ar_cons (ev_i0 (ev_var rfl) (ev_var rfl)) ar_nil))) ar_nil)))) (ev_draw rfl ev_int ⟨by decide, by decide, by omega⟩ fun r4 h8 h9 => ?_))
            obtain ⟨Q, eQ⟩ := atI3 (t1.2.1 + t1.2.2.2.1, t1.2.2.1) (t1.2.1, t1.2.2.1 + t1.2.2.2.2) (t1.2.1 + t1.2.2.2.1, t1.2.2.1 + t1.2.2.2.2) h8 h9
            exact ⟨r4, dPt Q, rfl, eQ, tg_tup rfl (tgs_cons (tg_name (tgs_cons (tg_name (tgs_nil ⟨⟨(_, _, _, _, _, _, _, _), by dsimp only; omega⟩, rfl, rfl⟩)))))⟩
          · exact sw_next ⟨⟨(_, _, _, _, _, _, _, _), by dsimp only; omega⟩, rfl, rfl⟩
        · refine (if_neg Bool.false_ne_true).mpr ?_
          exact sw_next ⟨⟨(_, _, _, _, _, _, _, _), by dsimp only; omega⟩, rfl, rfl⟩
      · have hn2 : n2 ≤ n' + 4 := hn2
        show SW _ [some (.loc F), some (.py (dPlan p)), some (.py (dOpt dPt so)), some (.loc l), some (I (i : Int)), some (I c1.1), some (I x), some (I y), e, f, g, h, j] [(F, .feed n2), (l, .lst ((ps.map dPt).map D.py))] _
        refine sw_seqE (α := { q : Int × Int × Nat // q.2.2 ≤ n' + 6 }) (fun q => [some (.loc F), some (.py (dPlan p)), some (.py (dOpt dPt so)), some (.loc l), some (I (i : Int)), some (I c1.1), some (I q.1.1), some (I q.1.2.1), e, f, g, h, j]) (fun q => [(F, .feed q.1.2.2), (l, .lst ((ps.map dPt).map D.py))]) (sw_ifW (ts_andW (TsD.toW (ts_T (ev_ntN (ev_var rfl))) ?_))) fun ⟨⟨x, y, n3⟩, hn3⟩ => ?_
        · cases so with
          | none =>
            refine (if_neg Bool.false_ne_true).mpr ((if_neg Bool.false_ne_true).mpr ?_)
            exact sw_next ⟨⟨(_, _, _), by dsimp only; omega⟩, rfl, rfl⟩
          | some s =>
            refine (if_pos rfl).mpr (ts_TW (ev_eqIW (ev_draw rfl ev_int ⟨by decide, by decide, by omega⟩ fun r2 _ _ => ⟨r2, rfl, EvD.toW ev_int ⟨0, rfl, _, rfl, ?_⟩⟩)))
            split
            · refine sw_asgW (ev_ixLW (ds := [dPt (s.1 - 1, s.2), dPt (s.1, s.2 - 1), dPt (s.1 - 2, s.2)]) (ev_lst (ds := [_, _, _]) (ar_cons (ev_tup (ds := [_, _]) (ar_cons (ev_i0 (ev_ixT (ev_var rfl) ev_int rfl) ev_int) (ar_cons (ev_ixT (ev_var rfl) ev_int rfl) ar_nil))) (ar_cons (ev_tup (ds := [_, _]) (ar_cons (ev_ixT (ev_var rfl) ev_int rfl) (ar_cons (ev_i0 (ev_ixT (ev_var rfl) ev_int rfl) ev_int) ar_nil))) (ar_cons (ev_tup (ds := [_, _]) (ar_cons (ev_i0 (ev_ixT (ev_var rfl) ev_int rfl) ev_int) (ar_cons (ev_ixT (ev_var rfl) ev_int rfl) ar_nil))) ar_nil)))) (ev_draw rfl ev_int ⟨by decide, by decide, by omega⟩ fun r4 h8 h9 => ?_))
              obtain ⟨Q, eQ⟩ := atI3 (s.1 - 1, s.2) (s.1, s.2 - 1) (s.1 - 2, s.2) h8 h9
              exact ⟨r4, dPt Q, rfl, eQ, tg_tup rfl (tgs_cons (tg_name (tgs_cons (tg_name (tgs_nil ⟨⟨(_, _, _), by dsimp only; omega⟩, rfl, rfl⟩)))))⟩
            · exact sw_next ⟨⟨(_, _, _), by dsimp only; omega⟩, rfl, rfl⟩
        · have hn3 : n3 ≤ n' + 6 := hn3
          show SW _ [some (.loc F), some (.py (dPlan p)), some (.py (dOpt dPt so)), some (.loc l), some (I (i : Int)), some (I c1.1), some (I x), some (I y), e, f, g, h, j] [(F, .feed n3), (l, .lst ((ps.map dPt).map D.py))] _
          have p6 : (10 : Int) ^ (6 : Int).toNat = 1000000 := by decide
          refine sw_seq (sw_parW (ar_consW (ev_i0W (EvD.toW (ev_var rfl) ⟨x, rfl, ev_ixLW (ds := [.int 0, .int 0, .int 1]) (ev_lst (ds := [_, _, _]) (ar_cons ev_int (ar_cons ev_int (ar_cons ev_int ar_nil)))) (ev_draw rfl ev_int ⟨by decide, by decide, by omega⟩ fun r5 h8 h9 => ⟨r5, .int (bitF r5), rfl, atI_bit h8 h9, bitF r5, rfl, ar_consW (ev_i0W (EvD.toW (ev_var rfl) ⟨y, rfl, ev_ixLW (ds := [.int 0, .int 0, .int 1]) (ev_lst (ds := [_, _, _]) (ar_cons ev_int (ar_cons ev_int (ar_cons ev_int ar_nil)))) (ev_draw rfl ev_int ⟨by decide, by decide, by omega⟩ fun r6 h10 h11 => ⟨r6, .int (bitF r6), rfl, atI_bit h10 h11, bitF r6, rfl, ar_nilW ⟨_, _, rfl, ?_⟩⟩)⟩))⟩)⟩))))
          try simp only [startD, List.map_cons, List.map_nil, List.cons_append, List.nil_append, List.set_cons_zero, List.set_cons_succ, List.length_cons, List.length_nil, List.replicate_succ, List.replicate_zero, Nat.reduceSub, Nat.reduceAdd]
          refine sw_if (ts_and (ts_T (ev_chain ev_int (ev_var rfl) (ev_iC ev_int ev_int ⟨by decide, by decide, by decide⟩))) fun _ => (ts_T (ev_chain ev_int (ev_var rfl) (ev_iC ev_int ev_int ⟨by decide, by decide, by decide⟩)))) (fun hb => ?_) fun hb => sw_next ⟨_, _, _, _, _, _, _, _, _, ps, _, rfl, rfl, ⟨by omega, by omega⟩, hbx⟩
          rw [p6] at hb
          refine sw_app (ev_var rfl) (ev_tup (ds := [_, _]) (ar_cons (ev_var rfl) (ar_cons (ev_var rfl) ar_nil))) (j := 1) rfl (by rw [List.length_map, List.length_map]; omega) ⟨_, _, _, _, _, _, _, _, _, ps ++ [(x + bitF r5, y + bitF r6)], n3 + 1 + 1, rfl, ?_, ⟨by omega, by rw [List.length_append]; simp; omega⟩, fun s hs => ?_⟩
          · rw [List.map_append, List.map_append]; rfl
          · rcases List.mem_append.mp hs with hs | hs
            · exact hbx s hs
            · rw [List.mem_singleton.mp hs]; exact hb
    · obtain ⟨a, b, c, d, e, f, g, h, j, ps, n', rfl, rfl, ⟨hn', hps⟩, hbx⟩ := J
      refine sw_frz (i := 3) (j := 1) (ds := ps.map dPt) rfl rfl ?_
      exact sw_ret (ev_var rfl) (q ps n' (by simp at hn'; omega) hbx)
end
end My
end

section
set_option Elab.async false
set_option linter.all false
set_option maxRecDepth 100000
set_option maxHeartbeats 4000000
namespace My
open PySem L2 G
open PySem.W (alike)
open PyProof.Rows (envOfC)
theorem lex2 {a b c d : Int} : HT.lexLt [a, b] [c, d] = true ↔ a < c ∨ a = c ∧ b < d := by
  simp only [HT.lexLt]
  by_cases e : a = c
  · rw [if_pos e]
    by_cases e2 : b = d
    · rw [if_pos e2]; simp; omega
    · rw [if_neg e2]; simp; omega
  · rw [if_neg e]; simp; omega
/-- whether the told spot is none, or behind -/
def lessF (so : Option Pt) (s : Pt) : Bool := match so with
  | none => true
  | some t => HT.lexLt [s.2, s.1] [t.2, t.1]
section
variable {P : Program} {w : World} {K : PySem.W.Frag} {mg : Str → Option Value} {base : Heap} {C CP CN : Addr}
def c__law_right : Cf := fun n ds Ψ => ∃ q : Plan × Nat × Int × Int, ds = [.py (dPlan q.1), I (q.2.1 : Int), I q.2.2.1, I q.2.2.2] ∧ (PlanG q.1 ∧ 0 < q.1.1.1.length ∧ (1 ≤ q.2.2.1 ∧ q.2.2.1 ≤ 10000) ∧ (1 ≤ q.2.2.2 ∧ q.2.2.2 ≤ 10000) ∧ n ≤ 800000) ∧ ∀ n', n' ≤ n + 100 → Ψ (B true) n'
theorem sc__law_right : FnScope ["_law_feed_here", "_law_plan_here", "_law_room", "_law_w", "_law_h", "_law_spot", "_law_x", "_law_y", "_law_lesser", "_law_there", "_law_new", "_law_again"] ["_law_feed_here", "_law_plan_here", "_law_room", "_law_w", "_law_h"] (defScope s__law_right) := ⟨rfl, rfl, rfl, by decide +kernel, rfl, by decide +kernel, by decide +kernel⟩
theorem okv__law_right : okL ["_law_h", "_law_w", "_law_room", "_law_plan_here", "_law_spot", "_law_feed_here", "_law_y", "_law_x", "_law_lesser", "_law_there", "_law_new", "_law_again"] (defScope s__law_right) = true := by decide +kernel
theorem okg__law_right : okG ["fit", "_law_spots", "room_of", "_law_put_at"] (defScope s__law_right) = true := by decide +kernel
theorem ok__law_right (T : Tx K mg C) (F : Df K mg "_law_right" s__law_right ["_law_feed_here", "_law_plan_here", "_law_room", "_law_w", "_law_h"]) (g__law_put_at : Fn P w K mg base CX0 "_law_put_at" 10 ["_law_plan_here", "_law_spot", "_law_w", "_law_h"] (spP c__law_put_at)) (g__law_spots : Fn P w K mg base CX0 "_law_spots" 2 ["_law_feed_here", "_law_plan_here", "_law_spot"] (spF c__law_spots)) (g_fit : Fn P w K mg base CX0 "fit" 9 ["plan", "room", "w", "h"] (spP c_fit)) (g_room_of : Fn P w K mg base CX0 "room_of" 7 ["net", "thing"] (spP c_room_of)) : Fn P w K mg base CX0 "_law_right" 11 ["_law_feed_here", "_law_plan_here", "_law_room", "_law_w", "_law_h"] (spF c__law_right) :=
  have nd := sc__law_right.nd
  fn_mk F sc__law_right (by first | (rintro ds Ω Ψ ⟨_, _, _, rfl, _, rfl, _⟩; rfl) | (rintro ds Ω Ψ ⟨_, _, _, rfl, _, _, rfl, _⟩; rfl) | (rintro ds Ω Ψ ⟨_, _, _, rfl, _, _, _, rfl, _⟩; rfl) | (rintro ds Ω Ψ ⟨_, _, _, rfl, _, _, _, _, rfl, _⟩; rfl)) fun f cdv A outer s H E hr => by
    refine ⟨_, (pss_cons (ps_asg (pe_fn g_fit hr (by decide) (pa_cons (pvA okv__law_right 1 3) (pa_cons (pvA okv__law_right 2 2) (pa_cons (pvA okv__law_right 3 1) (pa_cons (pvA okv__law_right 4 0) pa_nil)))) (hg := glA okg__law_right 0)) (gnA okv__law_right nd 5 4)) (pss_cons (ps_for PassesOwn.never rfl (pi_list (pe_fn g__law_spots hr (by decide) (pa_cons (pvA okv__law_right 0 5) (pa_cons (pvA okv__law_right 1 3) (pa_cons (pvA okv__law_right 5 4) pa_nil))) (hg := glA okg__law_right 1))) (pgt K (n := 2) rfl (pgs_cons (gnA okv__law_right nd 6 7) (pgs_cons (gnA okv__law_right nd 7 6) pgs_nil))) (pss_cons (ps_asg (pe_or (pe_cmpR op_isn (pvA okv__law_right 5 4) pe_non (nomark _)) (pe_one (pe_cmpR (opl K hr.units0) (pe_tup (pa_cons (pvA okv__law_right 7 6) (pa_cons (pvA okv__law_right 6 7) pa_nil))) (pe_tup (pa_cons (pe_ix (ixt K) (pvA okv__law_right 5 4) pe_int (fun _ _ => rfl)) (pa_cons (pe_ix (ixt K) (pvA okv__law_right 5 4) pe_int (fun _ _ => rfl)) pa_nil))) (nomark _)))) (gnA okv__law_right nd 8 8)) (pss_cons (ps_asg (pe_cmpR op_eq (pe_fn g_room_of hr (by decide) (pa_cons (pe_ix (ixt K) (pvA okv__law_right 1 3) pe_int (fun _ _ => rfl)) (pa_cons (pe_tup (pa_cons pe_str (pa_cons (pvA okv__law_right 6 7) (pa_cons (pvA okv__law_right 7 6) (pa_cons (pvA okv__law_right 3 1) (pa_cons (pvA okv__law_right 4 0) pa_nil)))))) pa_nil)) (hg := glA okg__law_right 2)) (pvA okv__law_right 2 2) (nomark _)) (gnA okv__law_right nd 9 9)) (pss_one (ps_if (PW.pt (pw_and (pt_val (pvA okv__law_right 8 8)) (pw_and (pt_val (pvA okv__law_right 9 9)) (pw_and1 (pt_cmpR op_ntn (pe_fn g__law_put_at hr (by decide) (pa_cons (pvA okv__law_right 1 3) (pa_cons (pe_tup (pa_cons (pvA okv__law_right 6 7) (pa_cons (pvA okv__law_right 7 6) pa_nil))) (pa_cons (pvA okv__law_right 3 1) (pa_cons (pvA okv__law_right 4 0) pa_nil)))) (hg := glA okg__law_right 3)) pe_non (nomark _)))))) (pss_one (ps_ret pe_bl)) pss_nil))))) (pss_cons (ps_if (pt_cmpR op_isn (pvA okv__law_right 5 4) pe_non (nomark _)) (pss_one (ps_ret pe_bl)) pss_nil) (pss_cons (ps_asg (pe_fn g__law_put_at hr (by decide) (pa_cons (pvA okv__law_right 1 3) (pa_cons (pvA okv__law_right 5 4) (pa_cons (pvA okv__law_right 3 1) (pa_cons (pvA okv__law_right 4 0) pa_nil)))) (hg := glA okg__law_right 3)) (gnA okv__law_right nd 10 10)) (pss_cons (ps_if (PW.pt (pw_or (pt_cmpR op_isn (pvA okv__law_right 10 10) pe_non (nomark _)) (pw_or1 (pt_cmpR op_ne (pe_fn g_room_of hr (by decide) (pa_cons (pe_ix (ixt K) (pvA okv__law_right 1 3) pe_int (fun _ _ => rfl)) (pa_cons (pe_op (opc K) (pe_op (opc K) (pe_tup (pa_cons pe_str pa_nil)) (pvA okv__law_right 5 4)) (pe_tup (pa_cons (pvA okv__law_right 3 1) (pa_cons (pvA okv__law_right 4 0) pa_nil)))) pa_nil)) (hg := glA okg__law_right 2)) (pvA okv__law_right 2 2) (nomark _))))) (pss_one (ps_ret pe_bl)) pss_nil) (pss_cons (ps_asg (pe_fn g_fit hr (by decide) (pa_cons (pvA okv__law_right 10 10) (pa_cons (pvA okv__law_right 2 2) (pa_cons (pvA okv__law_right 3 1) (pa_cons (pvA okv__law_right 4 0) pa_nil)))) (hg := glA okg__law_right 0)) (gnA okv__law_right nd 11 11)) (pss_one (ps_ret (pe_or (pe_cmpR op_isn (pvA okv__law_right 11 11) pe_non (nomark _)) (pe_one (pe_cmpR (opg K hr.units0) (pe_tup (pa_cons (pe_ix (ixt K) (pvA okv__law_right 11 11) pe_int (fun _ _ => rfl)) (pa_cons (pe_ix (ixt K) (pvA okv__law_right 11 11) pe_int (fun _ _ => rfl)) pa_nil))) (pe_tup (pa_cons (pe_ix (ixt K) (pvA okv__law_right 5 4) pe_int (fun _ _ => rfl)) (pa_cons (pe_ix (ixt K) (pvA okv__law_right 5 4) pe_int (fun _ _ => rfl)) pa_nil))) (nomark _)))))))))))), ?_⟩
    rintro ds Ω Ψ ⟨F, n, es, rfl, rfl, ⟨p, r, wd, hg⟩, rfl, ⟨hp, h1, hw, hh, hn⟩, q⟩
    have hp : PlanG p := hp
    have h1 : 0 < p.1.1.length := h1
    have hw : 1 ≤ wd ∧ wd ≤ 10000 := hw
    have hh : 1 ≤ hg ∧ hg ≤ 10000 := hh
    refine sw_seq (sw_set (ev_fn (ar_cons (ev_var rfl) (ar_cons (ev_var rfl) (ar_cons (ev_var rfl) (ar_cons (ev_var rfl) ar_nil)))) fun Ψ q => ⟨p, r, wd, hg, rfl, hp.planR, q⟩) ?_)
    try simp only [startD, List.map_cons, List.map_nil, List.cons_append, List.nil_append, List.set_cons_zero, List.set_cons_succ, List.length_cons, List.length_nil, List.replicate_succ, List.replicate_zero, Nat.reduceSub, Nat.reduceAdd]
    generalize hso : fitF p r wd hg = so
    refine sw_seq (sw_forLW (ev_fnF (ArD.toW (ds := [.loc F, .py (dPlan p), .py (dOpt dPt so)]) (ar_cons (ev_var rfl) (ar_cons (ev_var rfl) (ar_cons (ev_var rfl) ar_nil))) ⟨F, n, [.py (dPlan p), .py (dOpt dPt so)], [], rfl, rfl, (p, so), rfl, ⟨h1, hp.w.few30, by have := hp.fewT; show p.2.2.2.length ≤ 10; omega, fun t ht => names_ok _ (hp.things.one t ht).name, by omega⟩, fun ps n' hn' hbx => ⟨ps.map dPt, fun i Γ Ω => ∃ a b c d, Γ = [some (.loc F), some (.py (dPlan p)), some (I (r : Int)), some (I wd), some (I hg), some (.py (dOpt dPt so)), a, b, c, d, none, none] ∧ Ω = [(F, .feed n')], rfl, ⟨none, none, none, none, rfl, rfl⟩, fun i x Γ' Ω' hx J => ?_, fun Γ' Ω' J => ?_⟩⟩)))
    · obtain ⟨a, b, c, d, rfl, rfl⟩ := J
      rw [List.getElem?_map] at hx
      cases es : ps[i]? with
      | none => rw [es] at hx; cases hx
      | some s =>
        rw [es] at hx
        cases hx
        have hbs := hbx s (List.mem_of_getElem? es)
        have hfair : fairO (s.1, s.2, wd, hg) := ⟨hbs, ⟨hw.1, by show wd ≤ 1000000; omega⟩, hh.1, by show hg ≤ 1000000; omega⟩
        refine tg_tup rfl (tgs_cons (tg_name (tgs_cons (tg_name (tgs_nil ?_)))))
        refine sw_seq (sw_set (d := B (lessF so s)) ?_ ?_)
        try simp only [startD, List.map_cons, List.map_nil, List.cons_append, List.nil_append, List.set_cons_zero, List.set_cons_succ, List.length_cons, List.length_nil, List.replicate_succ, List.replicate_zero, Nat.reduceSub, Nat.reduceAdd]
        · cases so with
          | none => exact (ev_or (a := true) (b := true) (ev_isN (d := .none) (ev_var rfl)) fun h => (nomatch h)).eq rfl
          | some t => exact (ev_or (a := false) (b := HT.lexLt [s.2, s.1] [t.2, t.1]) (ev_isN (d := dPt t) (ev_var rfl)) fun _ => (ev_ltT (ns := [s.2, s.1]) (ms := [t.2, t.1]) (ev_tup (ds := [_, _]) (ar_cons (ev_var rfl) (ar_cons (ev_var rfl) ar_nil))) (ev_tup (ds := [_, _]) (ar_cons (ev_ixT (ev_var rfl) ev_int rfl) (ar_cons (ev_ixT (ev_var rfl) ev_int rfl) ar_nil))))).eq rfl
        refine sw_seq (sw_set (d := B (decide (roomByF p.1 (s.1, s.2, wd, hg) = some r))) (EvD.eq (ev_eqO (b := some (r : Int)) (ev_fn (d := .py (dOn (roomByF p.1 (s.1, s.2, wd, hg)))) (ar_cons (ev_ixT (ev_var rfl) ev_int rfl) (ar_cons (ev_tup (ds := [_, _, _, _, _]) (ar_cons ev_str (ar_cons (ev_var rfl) (ar_cons (ev_var rfl) (ar_cons (ev_var rfl) (ar_cons (ev_var rfl) ar_nil)))))) ar_nil)) fun Ψ q => ⟨p.1, ("newthing", s.1, s.2, wd, hg), rfl, hp.t.netF, q⟩) (ev_var rfl)) (by rw [eqO_nat])) ?_)
        try simp only [startD, List.map_cons, List.map_nil, List.cons_append, List.nil_append, List.set_cons_zero, List.set_cons_succ, List.length_cons, List.length_nil, List.replicate_succ, List.replicate_zero, Nat.reduceSub, Nat.reduceAdd]
        refine sw_if (ts_and (ts_B (ev_var rfl)) fun _ => (ts_and (ts_B (ev_var rfl)) fun _ => (ts_T (ev_ntN (ev_fn (d := .py (if badP p (s.1, s.2, wd, hg) = [] then dPlan (putP p (s.1, s.2, wd, hg)) else .none)) (ar_cons (ev_var rfl) (ar_cons (ev_tup (ds := [_, _]) (ar_cons (ev_var rfl) (ar_cons (ev_var rfl) ar_nil))) (ar_cons (ev_var rfl) (ar_cons (ev_var rfl) ar_nil)))) fun Ψ q => ⟨(p, (s.1, s.2, wd, hg)), rfl, ⟨hp.putR, hfair⟩, q⟩))))) (fun hb => ?_) fun hb => sw_next ⟨_, _, _, _, rfl, rfl⟩
        exfalso
        simp only [Bool.and_eq_true, decide_eq_true_eq] at hb
        obtain ⟨g1, g2, g3⟩ := hb
        have hbad : badP p (s.1, s.2, wd, hg) = [] := by
          by_cases c : badP p (s.1, s.2, wd, hg) = []
          · exact c
          · rw [if_neg c] at g3; cases g3
        obtain ⟨t, ht, hle⟩ := law_lesser hp hw.1 hh.1 hbad g2
        rw [hso] at ht
        subst ht
        have g1 := lex2.mp g1
        unfold yxle at hle
        omega
    · obtain ⟨a, b, c, d, rfl, rfl⟩ := J
      cases so with
      | none =>
        refine sw_seq (sw_if (b := true) (ts_T (ev_isN (d := .none) (ev_var rfl))) (fun _ => ?_) fun hb => (nomatch hb))
        exact sw_ret ev_bl (q n' (by omega))
      | some s =>
        obtain ⟨hfair, hbad, hroom⟩ := law_told hp ⟨hw.1, by omega⟩ ⟨hh.1, by omega⟩ hso
        refine sw_seq (sw_if (b := false) (ts_T (ev_isN (d := dPt s) (ev_var rfl))) (fun hb => (nomatch hb)) fun _ => sw_next ?_)
        refine sw_seq (sw_set (ev_fn (d := .py (dPlan (putP p (s.1, s.2, wd, hg)))) (ar_cons (ev_var rfl) (ar_cons (ev_var rfl) (ar_cons (ev_var rfl) (ar_cons (ev_var rfl) ar_nil)))) fun Ψ q => ⟨(p, (s.1, s.2, wd, hg)), rfl, ⟨hp.putR, hfair⟩, by rw [if_pos (show badP p (s.1, s.2, wd, hg) = [] from hbad)]; exact q⟩) ?_)
        try simp only [startD, List.map_cons, List.map_nil, List.cons_append, List.nil_append, List.set_cons_zero, List.set_cons_succ, List.length_cons, List.length_nil, List.replicate_succ, List.replicate_zero, Nat.reduceSub, Nat.reduceAdd]
        refine sw_seq (sw_if (b := false) (TsD.eq (ts_or (a := false) (ts_T (ev_isN (d := dPlan (putP p (s.1, s.2, wd, hg))) (ev_var rfl))) fun _ => (ts_T (ev_neO (b := some (r : Int)) (ev_fn (d := .py (dOn (roomByF p.1 (s.1, s.2, wd, hg)))) (ar_cons (ev_ixT (ev_var rfl) ev_int rfl) (ar_cons (ev_catT (ev_catT (ev_tup (ds := [_]) (ar_cons ev_str ar_nil)) (ev_var rfl)) (ev_tup (ds := [_, _]) (ar_cons (ev_var rfl) (ar_cons (ev_var rfl) ar_nil)))) ar_nil)) fun Ψ q => ⟨p.1, ("newthing", s.1, s.2, wd, hg), rfl, hp.t.netF, q⟩) (ev_var rfl)))) ?_) (fun hb => (nomatch hb)) fun _ => sw_next ?_)
        · rw [eqO_nat, hroom]; simp
        refine sw_seq (sw_set (ev_fn (d := .py (dOpt dPt (fitF (putP p (s.1, s.2, wd, hg)) r wd hg))) (ar_cons (ev_var rfl) (ar_cons (ev_var rfl) (ar_cons (ev_var rfl) (ar_cons (ev_var rfl) ar_nil)))) fun Ψ q => ⟨putP p (s.1, s.2, wd, hg), r, wd, hg, rfl, hp.planR2 _, q⟩) ?_)
        try simp only [startD, List.map_cons, List.map_nil, List.cons_append, List.nil_append, List.set_cons_zero, List.set_cons_succ, List.length_cons, List.length_nil, List.replicate_succ, List.replicate_zero, Nat.reduceSub, Nat.reduceAdd]
        cases ha : fitF (putP p (s.1, s.2, wd, hg)) r wd hg with
        | none =>
          refine sw_ret (d := B true) ((ev_or (a := true) (b := true) (ev_isN (d := .none) (ev_var rfl)) fun h => (nomatch h)).eq rfl) (q n' (by omega))
        | some t =>
          have hag := law_again hp hw.1 hh.1 hso ha
          refine sw_ret (d := B true) ((ev_or (a := false) (ev_isN (d := dPt t) (ev_var rfl)) fun _ => (ev_gtT (a := t.2) (b := t.1) (c := s.2) (d := s.1) (ev_tup (ds := [_, _]) (ar_cons (ev_ixT (ev_var rfl) ev_int rfl) (ar_cons (ev_ixT (ev_var rfl) ev_int rfl) ar_nil))) (ev_tup (ds := [_, _]) (ar_cons (ev_ixT (ev_var rfl) ev_int rfl) (ar_cons (ev_ixT (ev_var rfl) ev_int rfl) ar_nil))))).eq ?_) (q n' (by omega))
          rw [decide_eq_true hag]; rfl
end
end My
end

section
set_option Elab.async false
set_option linter.all false
set_option maxRecDepth 100000
set_option maxHeartbeats 4000000
namespace G
open PySem L2
open PyProof.Rows (envOfC)
theorem fn_mkE {P : Program} {w : World} {K : PySem.W.Frag} {mg : Str → Option Value} {base : Heap} {x : Str} {st : Stmt} {ps N : List Str} {k : Nat} {C : Co} {f0 : Addr} {fd0 : FuncData} (h1 : Fun K x x st f0 fd0) (S : FnScope N ps (defScope st)) (len : ∀ ds Ω Ψ, C ds Ω Ψ → ds.length = ps.length)
    (hbody : ∀ (f : Addr) (cdv : Value) (A : Around) (outer : List Env) (s : Shared) (H : Hp) (E : XK), Room k (A.deeper (envOfC x (defScope st) s.heap.objs.size f cdv)) →
      ∃ t, PSs (cxOf CX0 P w K mg base N x (defScope st) f cdv A outer s H E).nox (defBody st) t ∧ ∀ ds Ω Ψ, C ds Ω Ψ → SW t (startD N ds) Ω { nx := fun _ Ω' => Ψ N0 Ω', rt := Ψ }) : FnOk P w K mg base CX0 (k + 1) f0 fd0 ps (spG C) := by
  refine h1.ok S (fun vs H Q E h => ?_) fun cdv A outer s H vs Q E hr h => ?_
  · obtain ⟨H0, ds, Ω, Ψ, _, r, c, _⟩ := h
    exact (Paired.length r).trans (len _ _ _ c)
  · obtain ⟨H0, ds, Ω, Ψ, g, r, c, k⟩ := h
    obtain ⟨t, ht, q⟩ := hbody f0 cdv A outer s H E hr
    refine ⟨t, ht, q ds Ω Ψ c _ H0 H _ (start_sl N r) g ⟨fun σ' Γ' Ω' H0' H' q s' g' c' => k _ _ Ω' H0' H' q g' c' .non, fun v d Ω' H0' H' q r' g' c' => k v d Ω' H0' H' q g' c' r', fun _ _ _ _ _ h => h.elim, fun _ _ _ _ _ h => h.elim⟩⟩
end G
namespace My
open PySem L2 G
open PySem.W (alike)
open PyProof.Rows (envOfC)
theorem atI_far {r : Int} (h0 : 0 ≤ r) (h1 : r < 3) : ∃ x : Int, atI [PyData.int 3, .int 9, .int 10000] r = some (.int x) ∧ 1 ≤ x ∧ x ≤ 10000 := by
  have : r = 0 ∨ r = 1 ∨ r = 2 := by omega
  rcases this with rfl | rfl | rfl
  · exact ⟨3, rfl, by decide, by decide⟩
  · exact ⟨9, rfl, by decide, by decide⟩
  · exact ⟨10000, rfl, by decide, by decide⟩
/-- where there is a room there is a corner -/
theorem room_corner {n : Net} (h : 0 < (posF n).length) : 0 < n.1.length ∨ n.2 ≠ [] := by
  by_cases e : n.2 = []
  · exfalso
    have h1 : sidesF n = [] := by unfold sidesF; rw [e]; simp
    have h2 : ringsF n = [] := by unfold ringsF; rw [h1]; rfl
    unfold posF at h
    rw [h2] at h
    simp at h
  · exact .inr e
theorem room_corner2 {n : Net} (hn : NetR n) (h : 0 < (posF n).length) : 0 < n.1.length := by
  rcases room_corner h with h | h
  · exact h
  · obtain ⟨w, hw⟩ := List.exists_mem_of_ne_nil _ h
    obtain ⟨x, hx, _⟩ := List.mem_map.mp (hn.ends w hw).1
    exact List.length_pos_of_mem hx
section
variable {P : Program} {w : World} {K : PySem.W.Frag} {mg : Str → Option Value} {base : Heap} {C CP CN : Addr}
def c_law (K : PySem.W.Frag) : Co := fun ds Ω Ψ => ∃ ns : List Int, ds = [.ab (scriptM K ns)] ∧ Ω = [] ∧ ∀ F n, Ψ (B true) [(F, .feed n)]
theorem sc_law : FnScope ["_law_script", "_law_feed_here", "_law_plan_here", "_law_many", "_law_turn", "_law_room", "_law_far"] ["_law_script"] (defScope s_law) := ⟨rfl, rfl, rfl, by decide +kernel, rfl, by decide +kernel, by decide +kernel⟩
theorem okv_law : okL ["_law_script", "_law_feed_here", "_law_plan_here", "_law_many", "_law_turn", "_law_room", "_law_far"] (defScope s_law) = true := by decide +kernel
theorem okg_law : okG ["_law_feed", "_law_plan", "rooms", "len", "int", "range", "_law_draw", "_law_right"] (defScope s_law) = true := by decide +kernel
theorem ok_law (T : Tx K mg C) {f0 : Addr} {fd0 : FuncData} (F : Fun K "law" "law" s_law f0 fd0) (g__law_draw : Fn P w K mg base CX0 "_law_draw" 1 ["_law_feed_here", "_law_many"] (spF c__law_draw)) (g__law_feed : Fn P w K mg base CX0 "_law_feed" 1 ["_law_script"] (spG (c__law_feed K))) (g__law_plan : Fn P w K mg base CX0 "_law_plan" 9 ["_law_feed_here", "_law_most"] (spF c__law_plan)) (g__law_right : Fn P w K mg base CX0 "_law_right" 11 ["_law_feed_here", "_law_plan_here", "_law_room", "_law_w", "_law_h"] (spF c__law_right)) (g_rooms : Fn P w K mg base CX0 "rooms" 7 ["net"] (spP c_rooms)) : FnOk P w K mg base CX0 12 f0 fd0 ["_law_script"] (spG (c_law K)) :=
  have nd := sc_law.nd
  fn_mkE F sc_law (by rintro ds Ω Ψ ⟨_, rfl, _⟩; rfl) fun f cdv A outer s H E hr => by
    refine ⟨_, (pss_cons (ps_asg (pe_fn g__law_feed hr (by decide) (pa_cons (pvA okv_law 0 0) pa_nil) (hg := glA okg_law 0)) (gnA okv_law nd 1 1)) (pss_cons (ps_asg (pe_fn g__law_plan hr (by decide) (pa_cons (pvA okv_law 1 1) (pa_cons pe_int pa_nil)) (hg := glA okg_law 1)) (gnA okv_law nd 2 2)) (pss_cons (ps_asg (kb_len K T.b (pa_cons (pe_fn g_rooms hr (by decide) (pa_cons (pe_ix (ixt K) (pvA okv_law 2 2) pe_int (fun _ _ => rfl)) pa_nil) (hg := glA okg_law 2)) pa_nil) (hg := glA okg_law 3)) (gnA okv_law nd 3 3)) (pss_cons (ps_for PassesOwn.never rfl (pi_range1 (glA okg_law 5) T.b.range (pa_cons (pe_op op_mul pe_int (pb_int T.b (pa_cons (pe_cmpR op_gt (pvA okv_law 3 3) pe_int (nomark _)) pa_nil) (hg := glA okg_law 4))) pa_nil)) (gnA okv_law nd 4 4) (pss_cons (ps_asg (pe_fn g__law_draw hr (by decide) (pa_cons (pvA okv_law 1 1) (pa_cons (pvA okv_law 3 3) pa_nil)) (hg := glA okg_law 6)) (gnA okv_law nd 5 5)) (pss_cons (ps_asg (pe_ix (ixl K) (pe_lst (pa_cons pe_int (pa_cons pe_int (pa_cons pe_int pa_nil)))) (pe_fn g__law_draw hr (by decide) (pa_cons (pvA okv_law 1 1) (pa_cons pe_int pa_nil)) (hg := glA okg_law 6)) (fun _ _ => rfl)) (gnA okv_law nd 6 6)) (pss_one (ps_if (pt_not (pt_val (pe_fn g__law_right hr (by decide) (pa_cons (pvA okv_law 1 1) (pa_cons (pvA okv_law 2 2) (pa_cons (pvA okv_law 5 5) (pa_cons (pe_op op_add pe_int (pe_fn g__law_draw hr (by decide) (pa_cons (pvA okv_law 1 1) (pa_cons (pvA okv_law 6 6) pa_nil)) (hg := glA okg_law 6))) (pa_cons (pe_op op_add pe_int (pe_fn g__law_draw hr (by decide) (pa_cons (pvA okv_law 1 1) (pa_cons (pvA okv_law 6 6) pa_nil)) (hg := glA okg_law 6))) pa_nil))))) (hg := glA okg_law 7)))) (pss_one (ps_ret pe_bl)) pss_nil))))) (pss_one (ps_ret pe_bl)))))), ?_⟩
    rintro ds Ω Ψ ⟨ns, rfl, rfl, q⟩
    refine sw_seq (sw_setW (ev_fnG (ar_cons (ev_var rfl) ar_nil) ⟨ns, rfl, rfl, fun F => ?_⟩))
    refine sw_seq (sw_setW (ev_fnF (ArD.toW (ds := [.loc F, I 5]) (ar_cons (ev_var rfl) (ar_cons ev_int ar_nil)) ⟨F, 0, [I 5], [], rfl, rfl, rfl, by omega, fun p n1 hn1 hp => ?_⟩)))
    have hF := hp.t.netF
    refine sw_seq (sw_set (ev_lenT (ds := (posF p.1).map (roomD p.1)) (ev_fn (ar_cons (ev_ixT (ev_var rfl) ev_int rfl) ar_nil) fun Ψ q => ⟨p.1, rfl, hF, q⟩)) ?_)
    rw [List.length_map]
    have hm : (posF p.1).length ≤ 200 := pos_len hF.toNetL
    generalize hmany : (posF p.1).length = m at *
    have hloop : ∀ k : Int, (if decide ((m : Int) > 0) = true then (1 : Int) else 0) * k = (if 0 < m then k else 0) := fun k => by
      by_cases c : 0 < m
      · rw [if_pos (decide_eq_true (by omega)), if_pos c, Int.one_mul]
      · rw [if_neg (by simp; omega), if_neg c, Int.zero_mul]
    refine sw_seq (sw_forR (n := if 0 < m then 6 else 0) (ar_cons ((ev_iC ev_int (ev_intB (ev_iB (ev_var rfl) ev_int)) (.inl ⟨by decide, by decide⟩)).eq (congrArg (fun x => D.py (.int x)) (by rw [← hloop 6]; exact Int.mul_comm _ _))) ar_nil) (by split <;> omega) (by split <;> omega) (fun i Γ Ω => ∃ a b c n', Γ = [some (.ab (scriptM K ns)), some (.loc F), some (.py (dPlan p)), some (I (m : Int)), a, b, c] ∧ Ω = [(F, .feed n')] ∧ n' ≤ 4000 + 200 * i) ⟨none, none, none, n1, rfl, rfl, by omega⟩ (fun i Γ' Ω' hi J => ?_) fun Γ' Ω' J => ?_)
    · obtain ⟨a, b, c, n', rfl, rfl, hn'⟩ := J
      have hm0 : 0 < m := by
        by_cases c : 0 < m
        · exact c
        · rw [if_neg c] at hi; omega
      rw [if_pos hm0] at hi
      have hcor : 0 < p.1.1.length := room_corner2 hp.w.toNetR (by omega)
      refine tg_name ?_
      refine sw_seq (sw_setW (ev_draw rfl (ev_var rfl) ⟨by omega, by omega, by omega⟩ fun r0 h0 h1 => ?_))
      obtain ⟨r, rfl⟩ : ∃ r : Nat, r0 = r := ⟨r0.toNat, by omega⟩
      refine sw_seq (sw_setW (ev_ixLW (ds := [.int 3, .int 9, .int 10000]) (ev_lst (ds := [_, _, _]) (ar_cons ev_int (ar_cons ev_int (ar_cons ev_int ar_nil)))) (ev_draw rfl ev_int ⟨by decide, by decide, by omega⟩ fun r1 h2 h3 => ?_)))
      obtain ⟨far, ef, f1, f2⟩ := atI_far h2 h3
      refine ⟨r1, .int far, rfl, ef, ?_⟩
      refine sw_ifW (ts_notW (ts_BW (ev_fnF (ar_consW (EvD.toW (ev_var rfl) (ar_consW (EvD.toW (ev_var rfl) (ar_consW (EvD.toW (ev_var rfl) (ar_consW (ev_i0W (EvD.toW ev_int ⟨1, rfl, ev_draw rfl (ev_var rfl) ⟨by omega, by omega, by omega⟩ fun r2 h4 h5 => ⟨r2, rfl, ar_consW (ev_i0W (EvD.toW ev_int ⟨1, rfl, ev_draw rfl (ev_var rfl) ⟨by omega, by omega, by omega⟩ fun r3 h6 h7 => ⟨r3, rfl, ar_nilW ⟨F, _, [.py (dPlan p), I (r : Int), I (1 + r2), I (1 + r3)], [], rfl, rfl, (p, r, 1 + r2, 1 + r3), rfl, ⟨hp, hcor, ⟨by dsimp only; omega, by dsimp only; omega⟩, ⟨by dsimp only; omega, by dsimp only; omega⟩, by omega⟩, fun n2 hn2 => ⟨true, rfl, ?_⟩⟩⟩⟩))⟩⟩))))))))))))
      refine (if_neg Bool.false_ne_true).mpr ?_
      exact sw_next ⟨_, _, _, n2, rfl, rfl, by omega⟩
    · obtain ⟨a, b, c, n', rfl, rfl, hn'⟩ := J
      exact sw_ret ev_bl (q F n')
end
end My
end

section
set_option Elab.async false
set_option linter.all false
set_option maxRecDepth 100000
set_option maxHeartbeats 4000000
namespace My
open PySem L2 G
open PyProof.Rows (envOfC)
section
variable {P : Program} {w : World} {K : PySem.W.Frag} {mg : Str → Option Value} {base : Heap} {C CP CN ax : Addr}
theorem law_ok (T : Tx K mg C) (hC : mg "Found" = some (.ref C)) (hax : mg "AXES" = some (.ref ax)) (hx : KDct K w ax "x" (.int 0)) (hy : KDct K w ax "y" (.int 1)) (R : Er K mg CP CN) (D0 : Dn K CN) (d__law_draw : Df K mg "_law_draw" s__law_draw ["_law_feed_here", "_law_many"]) (d__law_feed : Df K mg "_law_feed" s__law_feed ["_law_script"]) (d__law_names : Df K mg "_law_names" s__law_names ["_law_feed_here", "_law_many"]) (d__law_holds : Df K mg "_law_holds" s__law_holds ["_law_feed_here", "_law_net_here", "_law_most"]) (d__law_line : Df K mg "_law_line" s__law_line ["_law_feed_here", "_law_many", "_law_scale"]) (d__law_links : Df K mg "_law_links" s__law_links ["_law_feed_here", "_law_columns", "_law_rows"]) (d__law_merged : Df K mg "_law_merged" s__law_merged ["_law_feed_here", "_law_links_here"]) (d__law_numbers : Df K mg "_law_numbers" s__law_numbers ["_law_feed_here", "_law_many"]) (d__law_net : Df K mg "_law_net" s__law_net ["_law_feed_here", "_law_most", "_law_scale"]) (d__law_spots_of : Df K mg "_law_spots_of" s__law_spots_of ["_law_net_here"]) (d__law_length : Df K mg "_law_length" s__law_length ["_law_net_here", "_law_shut"]) (d__law_openings : Df K mg "_law_openings" s__law_openings ["_law_feed_here", "_law_net_here", "_law_most"]) (d__law_meet : Df K mg "_law_meet" s__law_meet ["_law_one", "_law_other"]) (d__law_oblong : Df K mg "_law_oblong" s__law_oblong ["_law_net_here", "_law_opening"]) (d_sides_of_ring : Df K mg "sides_of_ring" s_sides_of_ring ["ring"]) (d_spots_of : Df K mg "spots_of" s_spots_of ["net"]) (d_area_of : Df K mg "area_of" s_area_of ["net", "ring"]) (d_way_from : Df K mg "way_from" s_way_from ["one", "other"]) (d_links_of : Df K mg "links_of" s_links_of ["net"]) (d_way_of : Df K mg "way_of" s_way_of ["links", "side"]) (d_next_side : Df K mg "next_side" s_next_side ["links", "side"]) (d_ring_from : Df K mg "ring_from" s_ring_from ["links", "side"]) (d_sides_of : Df K mg "sides_of" s_sides_of ["net"]) (d_rings : Df K mg "rings" s_rings ["net"]) (d_ends_of : Df K mg "ends_of" s_ends_of ["net", "wall"]) (d_is_upright : Df K mg "is_upright" s_is_upright ["ends"]) (d_upright_lines : Df K mg "upright_lines" s_upright_lines ["net"]) (d_init : Di K C s_Found_init ["self", "net"]) (d_wall_west : Df K mg "wall_west" s_wall_west ["lines", "x", "y"]) (d_side_west_of : Dm K C "side_west_of" "Found.side_west_of" s_Found_side_west_of ["self", "number"]) (d_room_left : Dm K C "room_left" "Found.room_left" s_Found_room_left ["self", "side"]) (d_room_of_cell : Dm K C "room_of_cell" "Found.room_of_cell" s_Found_room_of_cell ["self", "x", "y"]) (d_room_rings : Dm K C "room_rings" "Found.room_rings" s_Found_room_rings ["self"]) (d_cell_of : Df K mg "cell_of" s_cell_of ["found", "x", "y"]) (d_cell_at : Df K mg "cell_at" s_cell_at ["net", "x", "y"]) (d__law_things : Df K mg "_law_things" s__law_things ["_law_feed_here", "_law_net_here", "_law_openings_here", "_law_most"]) (d__law_plan : Df K mg "_law_plan" s__law_plan ["_law_feed_here", "_law_most"]) (d_in_place : Df K mg "in_place" s_in_place ["things", "thing"]) (d_is_name : Df K mg "is_name" s_is_name ["thing"]) (d_is_whole : Df K mg "is_whole" s_is_whole ["thing", "least", "most"]) (d_is_spot : Df K mg "is_spot" s_is_spot ["thing"]) (d_is_thing : Df K mg "is_thing" s_is_thing ["thing"]) (d_length_of : Df K mg "length_of" s_length_of ["ends"]) (d_span_of : Df K mg "span_of" s_span_of ["net", "opening"]) (d_are_apart_on : Df K mg "are_apart_on" s_are_apart_on ["net", "one", "other"]) (d_does_stand_alone : Df K mg "does_stand_alone" s_does_stand_alone ["net", "opening"]) (d_does_stand : Df K mg "does_stand" s_does_stand ["net", "opening", "openings"]) (d_first_fallen : Df K mg "first_fallen" s_first_fallen ["net", "openings"]) (d_along : Df K mg "along" s_along ["ends", "by"]) (d_stretch : Df K mg "stretch" s_stretch ["net", "opening"]) (d_places : Df K mg "places" s_places ["net", "opening"]) (d_all_places : Df K mg "all_places" s_all_places ["net", "openings"]) (d_do_meet : Df K mg "do_meet" s_do_meet ["one", "other"]) (d_goes_across : Df K mg "goes_across" s_goes_across ["ends", "oblong"]) (d_room_by : Df K mg "room_by" s_room_by ["net", "found", "oblong"]) (d_first_misfit : Df K mg "first_misfit" s_first_misfit ["net", "openings", "things"]) (d_does_hold : Df K mg "does_hold" s_does_hold ["net", "hold"]) (d_look_holds : Df K mg "look_holds" s_look_holds ["net", "holds"]) (d_made : Df K mg "made" s_made ["net", "holds", "openings", "things"]) (d_thing_put : Df K mg "thing_put" s_thing_put ["plan", "thing"]) (d__law_put_at : Df K mg "_law_put_at" s__law_put_at ["_law_plan_here", "_law_spot", "_law_w", "_law_h"]) (d__law_spots : Df K mg "_law_spots" s__law_spots ["_law_feed_here", "_law_plan_here", "_law_spot"]) (d_oblongs_of : Df K mg "oblongs_of" s_oblongs_of ["plan"]) (d_barred : Df K mg "barred" s_barred ["plan", "y", "w", "h"]) (d_ends_along : Df K mg "ends_along" s_ends_along ["plan", "axis"]) (d_is_barred : Df K mg "is_barred" s_is_barred ["stretches", "x"]) (d_fit : Df K mg "fit" s_fit ["plan", "room", "w", "h"]) (d_room_of : Df K mg "room_of" s_room_of ["net", "thing"]) (d__law_right : Df K mg "_law_right" s__law_right ["_law_feed_here", "_law_plan_here", "_law_room", "_law_w", "_law_h"]) (d_room_of_rim : Dm K C "room_of_rim" "Found.room_of_rim" s_Found_room_of_rim ["self", "number"]) (d_rims_in : Dm K C "rims_in" "Found.rims_in" s_Found_rims_in ["self", "room"]) (d_room : Dm K C "room" "Found.room" s_Found_room ["self", "number"]) (d_rooms : Df K mg "rooms" s_rooms ["net"]) {fa : Addr} {fd : FuncData} (d_law : Fun K "law" "law" s_law fa fd) : FnOk P w K mg base CX0 12 fa fd ["_law_script"] (spG (c_law K)) := by
  have g__law_draw := ok__law_draw (P := P) (w := w) (base := base) T d__law_draw 
  have g__law_feed := ok__law_feed (P := P) (w := w) (base := base) T d__law_feed 
  have g__law_names := ok__law_names (P := P) (w := w) (base := base) T d__law_names g__law_draw
  have g__law_holds := ok__law_holds (P := P) (w := w) (base := base) T d__law_holds g__law_draw g__law_names
  have g__law_line := ok__law_line (P := P) (w := w) (base := base) T d__law_line g__law_draw
  have g__law_links := ok__law_links (P := P) (w := w) (base := base) T d__law_links g__law_draw
  have g__law_merged := ok__law_merged (P := P) (w := w) (base := base) T d__law_merged g__law_draw
  have g__law_numbers := ok__law_numbers (P := P) (w := w) (base := base) T d__law_numbers g__law_draw
  have g__law_net := ok__law_net (P := P) (w := w) (base := base) T d__law_net g__law_draw g__law_line g__law_links g__law_merged g__law_numbers
  have g__law_spots_of := ok__law_spots_of (P := P) (w := w) (base := base) T d__law_spots_of 
  have g__law_length := ok__law_length (P := P) (w := w) (base := base) T d__law_length g__law_spots_of
  have g__law_openings := ok__law_openings (P := P) (w := w) (base := base) T d__law_openings g__law_draw g__law_length g__law_names
  have g__law_meet := ok__law_meet (P := P) (w := w) (base := base) T d__law_meet 
  have g__law_oblong := ok__law_oblong (P := P) (w := w) (base := base) T d__law_oblong g__law_length g__law_spots_of
  have g_sides_of_ring := ok_sides_of_ring (P := P) (w := w) (base := base) T d_sides_of_ring 
  have g_spots_of := ok_spots_of (P := P) (w := w) (base := base) T d_spots_of 
  have g_area_of := ok_area_of (P := P) (w := w) (base := base) T d_area_of g_sides_of_ring g_spots_of
  have g_way_from := ok_way_from (P := P) (w := w) (base := base) T d_way_from 
  have g_links_of := ok_links_of (P := P) (w := w) (base := base) T d_links_of g_spots_of g_way_from
  have g_way_of := ok_way_of (P := P) (w := w) (base := base) T d_way_of 
  have g_next_side := ok_next_side (P := P) (w := w) (base := base) T d_next_side g_way_of
  have g_ring_from := ok_ring_from (P := P) (w := w) (base := base) T d_ring_from g_next_side
  have g_sides_of := ok_sides_of (P := P) (w := w) (base := base) T d_sides_of 
  have g_rings := ok_rings (P := P) (w := w) (base := base) T d_rings g_links_of g_ring_from g_sides_of g_sides_of_ring
  have g_ends_of := ok_ends_of (P := P) (w := w) (base := base) T d_ends_of g_spots_of
  have g_is_upright := ok_is_upright (P := P) (w := w) (base := base) T d_is_upright 
  have g_upright_lines := ok_upright_lines (P := P) (w := w) (base := base) T d_upright_lines g_ends_of g_is_upright
  have g_Found : MkF P w K mg base C 5 := ok_Found_init T hC d_init g_area_of g_rings g_sides_of_ring g_spots_of g_upright_lines
  have g_wall_west := ok_wall_west (P := P) (w := w) (base := base) T d_wall_west 
  have m_side_west_of := ok_Found_side_west_of (P := P) (w := w) (base := base) T d_side_west_of g_wall_west
  have m_room_left := ok_Found_room_left (P := P) (w := w) (base := base) T d_room_left m_side_west_of
  have m_room_of_cell := ok_Found_room_of_cell (P := P) (w := w) (base := base) T d_room_of_cell m_room_left g_wall_west
  have m_room_rings := ok_Found_room_rings (P := P) (w := w) (base := base) T d_room_rings 
  have g_cell_of := ok_cell_of (P := P) (w := w) (base := base) T d_cell_of m_room_of_cell m_room_rings
  have g_cell_at := ok_cell_at (P := P) (w := w) (base := base) T d_cell_at g_Found g_cell_of
  have g__law_things := ok__law_things (P := P) (w := w) (base := base) T d__law_things g__law_draw g__law_meet g__law_names g__law_oblong g_cell_at
  have g__law_plan := ok__law_plan (P := P) (w := w) (base := base) T d__law_plan g__law_draw g__law_holds g__law_net g__law_openings g__law_things
  have g_in_place := ok_in_place (P := P) (w := w) (base := base) T d_in_place 
  have g_is_name := ok_is_name (P := P) (w := w) (base := base) T d_is_name 
  have g_is_whole := ok_is_whole (P := P) (w := w) (base := base) T d_is_whole 
  have g_is_spot := ok_is_spot (P := P) (w := w) (base := base) T d_is_spot g_is_whole
  have g_is_thing := ok_is_thing (P := P) (w := w) (base := base) T d_is_thing g_is_name g_is_spot g_is_whole
  have g_length_of := ok_length_of (P := P) (w := w) (base := base) T d_length_of 
  have g_span_of := ok_span_of (P := P) (w := w) (base := base) T d_span_of g_ends_of g_length_of
  have g_are_apart_on := ok_are_apart_on (P := P) (w := w) (base := base) T d_are_apart_on g_span_of
  have g_does_stand_alone := ok_does_stand_alone (P := P) (w := w) (base := base) T d_does_stand_alone g_ends_of g_length_of
  have g_does_stand := ok_does_stand (P := P) (w := w) (base := base) T d_does_stand g_are_apart_on g_does_stand_alone
  have g_first_fallen := ok_first_fallen (P := P) (w := w) (base := base) T d_first_fallen g_does_stand
  have g_along := ok_along (P := P) (w := w) (base := base) T d_along 
  have g_stretch := ok_stretch (P := P) (w := w) (base := base) T d_stretch g_along g_ends_of g_span_of
  have g_places := ok_places (P := P) (w := w) (base := base) T d_places g_ends_of g_is_upright g_stretch
  have g_all_places := ok_all_places (P := P) (w := w) (base := base) T d_all_places g_places
  have g_do_meet := ok_do_meet (P := P) (w := w) (base := base) T d_do_meet 
  have g_goes_across := ok_goes_across (P := P) (w := w) (base := base) T d_goes_across g_is_upright
  have g_room_by := ok_room_by (P := P) (w := w) (base := base) T d_room_by g_cell_of g_ends_of g_goes_across
  have g_first_misfit := ok_first_misfit (P := P) (w := w) (base := base) T d_first_misfit g_Found g_all_places g_do_meet g_room_by
  have g_does_hold := ok_does_hold (P := P) (w := w) (base := base) T hax hx hy d_does_hold g_spots_of
  have g_look_holds := ok_look_holds (P := P) (w := w) (base := base) T d_look_holds g_does_hold
  have M : MkN P w K mg base CN 1 := ok_NoThing_init R D0
  have g_made := ok_made T R M d_made g_first_fallen g_first_misfit g_look_holds
  have g_thing_put := ok_thing_put T R d_thing_put g_in_place g_is_thing g_made
  have g__law_put_at := ok__law_put_at T R d__law_put_at g_thing_put
  have g__law_spots := ok__law_spots (P := P) (w := w) (base := base) T d__law_spots g__law_draw
  have g_oblongs_of := ok_oblongs_of (P := P) (w := w) (base := base) T d_oblongs_of g_all_places
  have g_barred := ok_barred (P := P) (w := w) (base := base) T d_barred g_ends_of g_is_upright g_oblongs_of
  have g_ends_along := ok_ends_along (P := P) (w := w) (base := base) T d_ends_along g_oblongs_of
  have g_is_barred := ok_is_barred (P := P) (w := w) (base := base) T d_is_barred 
  have g_fit := ok_fit (P := P) (w := w) (base := base) T d_fit g_Found g_barred g_cell_of g_ends_along g_is_barred
  have g_room_of := ok_room_of (P := P) (w := w) (base := base) T d_room_of g_Found g_room_by
  have g__law_right := ok__law_right (P := P) (w := w) (base := base) T d__law_right g__law_put_at g__law_spots g_fit g_room_of
  have m_room_of_rim := ok_Found_room_of_rim (P := P) (w := w) (base := base) T d_room_of_rim m_room_left m_side_west_of
  have m_rims_in := ok_Found_rims_in (P := P) (w := w) (base := base) T d_rims_in m_room_of_rim
  have m_room := ok_Found_room (P := P) (w := w) (base := base) T d_room m_rims_in
  have g_rooms := ok_rooms (P := P) (w := w) (base := base) T d_rooms g_Found m_room m_room_rings
  exact ok_law T d_law g__law_draw g__law_feed g__law_plan g__law_right g_rooms
variable {h : Heap} {f : Addr} {oc kV doc pm cdv ct : Value} {od an : Option Addr} {osl : Array (Option Value)}
theorem df__law_draw (X : K.In h) (Gm : h.Ns mainGlobals mg) (a : PySem.W.nsIn K mainGlobals "_law_draw" = some (some (.ref f))) (l : K.lookup f = some ⟨oc, od, .func (PySem.W.fnOf "_law_draw" "_law_draw" (defArgs s__law_draw) (defBody s__law_draw) (defScope s__law_draw) .none kV doc pm an cdv ct), osl⟩) (c : PySem.W.codeIn K cdv "_law_draw" = true) (k : PySem.W.keepIn K (.ref f) = true) : Df K mg "_law_draw" s__law_draw ["_law_feed_here", "_law_many"] := ⟨f, _, fun_mk l c k, PySem.W.mg_of X Gm a, (fun_mk l c k).binds (fun _ _ _ _ _ _ us hl => match us, hl with | [_, _], _ => by kernel_rfl)⟩
theorem df__law_feed (X : K.In h) (Gm : h.Ns mainGlobals mg) (a : PySem.W.nsIn K mainGlobals "_law_feed" = some (some (.ref f))) (l : K.lookup f = some ⟨oc, od, .func (PySem.W.fnOf "_law_feed" "_law_feed" (defArgs s__law_feed) (defBody s__law_feed) (defScope s__law_feed) .none kV doc pm an cdv ct), osl⟩) (c : PySem.W.codeIn K cdv "_law_feed" = true) (k : PySem.W.keepIn K (.ref f) = true) : Df K mg "_law_feed" s__law_feed ["_law_script"] := ⟨f, _, fun_mk l c k, PySem.W.mg_of X Gm a, (fun_mk l c k).binds (fun _ _ _ _ _ _ us hl => match us, hl with | [_], _ => by kernel_rfl)⟩
theorem df__law_names (X : K.In h) (Gm : h.Ns mainGlobals mg) (a : PySem.W.nsIn K mainGlobals "_law_names" = some (some (.ref f))) (l : K.lookup f = some ⟨oc, od, .func (PySem.W.fnOf "_law_names" "_law_names" (defArgs s__law_names) (defBody s__law_names) (defScope s__law_names) .none kV doc pm an cdv ct), osl⟩) (c : PySem.W.codeIn K cdv "_law_names" = true) (k : PySem.W.keepIn K (.ref f) = true) : Df K mg "_law_names" s__law_names ["_law_feed_here", "_law_many"] := ⟨f, _, fun_mk l c k, PySem.W.mg_of X Gm a, (fun_mk l c k).binds (fun _ _ _ _ _ _ us hl => match us, hl with | [_, _], _ => by kernel_rfl)⟩
theorem df__law_holds (X : K.In h) (Gm : h.Ns mainGlobals mg) (a : PySem.W.nsIn K mainGlobals "_law_holds" = some (some (.ref f))) (l : K.lookup f = some ⟨oc, od, .func (PySem.W.fnOf "_law_holds" "_law_holds" (defArgs s__law_holds) (defBody s__law_holds) (defScope s__law_holds) .none kV doc pm an cdv ct), osl⟩) (c : PySem.W.codeIn K cdv "_law_holds" = true) (k : PySem.W.keepIn K (.ref f) = true) : Df K mg "_law_holds" s__law_holds ["_law_feed_here", "_law_net_here", "_law_most"] := ⟨f, _, fun_mk l c k, PySem.W.mg_of X Gm a, (fun_mk l c k).binds (fun _ _ _ _ _ _ us hl => match us, hl with | [_, _, _], _ => by kernel_rfl)⟩
theorem df__law_line (X : K.In h) (Gm : h.Ns mainGlobals mg) (a : PySem.W.nsIn K mainGlobals "_law_line" = some (some (.ref f))) (l : K.lookup f = some ⟨oc, od, .func (PySem.W.fnOf "_law_line" "_law_line" (defArgs s__law_line) (defBody s__law_line) (defScope s__law_line) .none kV doc pm an cdv ct), osl⟩) (c : PySem.W.codeIn K cdv "_law_line" = true) (k : PySem.W.keepIn K (.ref f) = true) : Df K mg "_law_line" s__law_line ["_law_feed_here", "_law_many", "_law_scale"] := ⟨f, _, fun_mk l c k, PySem.W.mg_of X Gm a, (fun_mk l c k).binds (fun _ _ _ _ _ _ us hl => match us, hl with | [_, _, _], _ => by kernel_rfl)⟩
theorem df__law_links (X : K.In h) (Gm : h.Ns mainGlobals mg) (a : PySem.W.nsIn K mainGlobals "_law_links" = some (some (.ref f))) (l : K.lookup f = some ⟨oc, od, .func (PySem.W.fnOf "_law_links" "_law_links" (defArgs s__law_links) (defBody s__law_links) (defScope s__law_links) .none kV doc pm an cdv ct), osl⟩) (c : PySem.W.codeIn K cdv "_law_links" = true) (k : PySem.W.keepIn K (.ref f) = true) : Df K mg "_law_links" s__law_links ["_law_feed_here", "_law_columns", "_law_rows"] := ⟨f, _, fun_mk l c k, PySem.W.mg_of X Gm a, (fun_mk l c k).binds (fun _ _ _ _ _ _ us hl => match us, hl with | [_, _, _], _ => by kernel_rfl)⟩
theorem df__law_merged (X : K.In h) (Gm : h.Ns mainGlobals mg) (a : PySem.W.nsIn K mainGlobals "_law_merged" = some (some (.ref f))) (l : K.lookup f = some ⟨oc, od, .func (PySem.W.fnOf "_law_merged" "_law_merged" (defArgs s__law_merged) (defBody s__law_merged) (defScope s__law_merged) .none kV doc pm an cdv ct), osl⟩) (c : PySem.W.codeIn K cdv "_law_merged" = true) (k : PySem.W.keepIn K (.ref f) = true) : Df K mg "_law_merged" s__law_merged ["_law_feed_here", "_law_links_here"] := ⟨f, _, fun_mk l c k, PySem.W.mg_of X Gm a, (fun_mk l c k).binds (fun _ _ _ _ _ _ us hl => match us, hl with | [_, _], _ => by kernel_rfl)⟩
theorem df__law_numbers (X : K.In h) (Gm : h.Ns mainGlobals mg) (a : PySem.W.nsIn K mainGlobals "_law_numbers" = some (some (.ref f))) (l : K.lookup f = some ⟨oc, od, .func (PySem.W.fnOf "_law_numbers" "_law_numbers" (defArgs s__law_numbers) (defBody s__law_numbers) (defScope s__law_numbers) .none kV doc pm an cdv ct), osl⟩) (c : PySem.W.codeIn K cdv "_law_numbers" = true) (k : PySem.W.keepIn K (.ref f) = true) : Df K mg "_law_numbers" s__law_numbers ["_law_feed_here", "_law_many"] := ⟨f, _, fun_mk l c k, PySem.W.mg_of X Gm a, (fun_mk l c k).binds (fun _ _ _ _ _ _ us hl => match us, hl with | [_, _], _ => by kernel_rfl)⟩
theorem df__law_net (X : K.In h) (Gm : h.Ns mainGlobals mg) (a : PySem.W.nsIn K mainGlobals "_law_net" = some (some (.ref f))) (l : K.lookup f = some ⟨oc, od, .func (PySem.W.fnOf "_law_net" "_law_net" (defArgs s__law_net) (defBody s__law_net) (defScope s__law_net) .none kV doc pm an cdv ct), osl⟩) (c : PySem.W.codeIn K cdv "_law_net" = true) (k : PySem.W.keepIn K (.ref f) = true) : Df K mg "_law_net" s__law_net ["_law_feed_here", "_law_most", "_law_scale"] := ⟨f, _, fun_mk l c k, PySem.W.mg_of X Gm a, (fun_mk l c k).binds (fun _ _ _ _ _ _ us hl => match us, hl with | [_, _, _], _ => by kernel_rfl)⟩
theorem df__law_spots_of (X : K.In h) (Gm : h.Ns mainGlobals mg) (a : PySem.W.nsIn K mainGlobals "_law_spots_of" = some (some (.ref f))) (l : K.lookup f = some ⟨oc, od, .func (PySem.W.fnOf "_law_spots_of" "_law_spots_of" (defArgs s__law_spots_of) (defBody s__law_spots_of) (defScope s__law_spots_of) .none kV doc pm an cdv ct), osl⟩) (c : PySem.W.codeIn K cdv "_law_spots_of" = true) (k : PySem.W.keepIn K (.ref f) = true) : Df K mg "_law_spots_of" s__law_spots_of ["_law_net_here"] := ⟨f, _, fun_mk l c k, PySem.W.mg_of X Gm a, (fun_mk l c k).binds (fun _ _ _ _ _ _ us hl => match us, hl with | [_], _ => by kernel_rfl)⟩
theorem df__law_length (X : K.In h) (Gm : h.Ns mainGlobals mg) (a : PySem.W.nsIn K mainGlobals "_law_length" = some (some (.ref f))) (l : K.lookup f = some ⟨oc, od, .func (PySem.W.fnOf "_law_length" "_law_length" (defArgs s__law_length) (defBody s__law_length) (defScope s__law_length) .none kV doc pm an cdv ct), osl⟩) (c : PySem.W.codeIn K cdv "_law_length" = true) (k : PySem.W.keepIn K (.ref f) = true) : Df K mg "_law_length" s__law_length ["_law_net_here", "_law_shut"] := ⟨f, _, fun_mk l c k, PySem.W.mg_of X Gm a, (fun_mk l c k).binds (fun _ _ _ _ _ _ us hl => match us, hl with | [_, _], _ => by kernel_rfl)⟩
theorem df__law_openings (X : K.In h) (Gm : h.Ns mainGlobals mg) (a : PySem.W.nsIn K mainGlobals "_law_openings" = some (some (.ref f))) (l : K.lookup f = some ⟨oc, od, .func (PySem.W.fnOf "_law_openings" "_law_openings" (defArgs s__law_openings) (defBody s__law_openings) (defScope s__law_openings) .none kV doc pm an cdv ct), osl⟩) (c : PySem.W.codeIn K cdv "_law_openings" = true) (k : PySem.W.keepIn K (.ref f) = true) : Df K mg "_law_openings" s__law_openings ["_law_feed_here", "_law_net_here", "_law_most"] := ⟨f, _, fun_mk l c k, PySem.W.mg_of X Gm a, (fun_mk l c k).binds (fun _ _ _ _ _ _ us hl => match us, hl with | [_, _, _], _ => by kernel_rfl)⟩
theorem df__law_meet (X : K.In h) (Gm : h.Ns mainGlobals mg) (a : PySem.W.nsIn K mainGlobals "_law_meet" = some (some (.ref f))) (l : K.lookup f = some ⟨oc, od, .func (PySem.W.fnOf "_law_meet" "_law_meet" (defArgs s__law_meet) (defBody s__law_meet) (defScope s__law_meet) .none kV doc pm an cdv ct), osl⟩) (c : PySem.W.codeIn K cdv "_law_meet" = true) (k : PySem.W.keepIn K (.ref f) = true) : Df K mg "_law_meet" s__law_meet ["_law_one", "_law_other"] := ⟨f, _, fun_mk l c k, PySem.W.mg_of X Gm a, (fun_mk l c k).binds (fun _ _ _ _ _ _ us hl => match us, hl with | [_, _], _ => by kernel_rfl)⟩
theorem df__law_oblong (X : K.In h) (Gm : h.Ns mainGlobals mg) (a : PySem.W.nsIn K mainGlobals "_law_oblong" = some (some (.ref f))) (l : K.lookup f = some ⟨oc, od, .func (PySem.W.fnOf "_law_oblong" "_law_oblong" (defArgs s__law_oblong) (defBody s__law_oblong) (defScope s__law_oblong) .none kV doc pm an cdv ct), osl⟩) (c : PySem.W.codeIn K cdv "_law_oblong" = true) (k : PySem.W.keepIn K (.ref f) = true) : Df K mg "_law_oblong" s__law_oblong ["_law_net_here", "_law_opening"] := ⟨f, _, fun_mk l c k, PySem.W.mg_of X Gm a, (fun_mk l c k).binds (fun _ _ _ _ _ _ us hl => match us, hl with | [_, _], _ => by kernel_rfl)⟩
theorem df_sides_of_ring (X : K.In h) (Gm : h.Ns mainGlobals mg) (a : PySem.W.nsIn K mainGlobals "sides_of_ring" = some (some (.ref f))) (l : K.lookup f = some ⟨oc, od, .func (PySem.W.fnOf "sides_of_ring" "sides_of_ring" (defArgs s_sides_of_ring) (defBody s_sides_of_ring) (defScope s_sides_of_ring) .none kV doc pm an cdv ct), osl⟩) (c : PySem.W.codeIn K cdv "sides_of_ring" = true) (k : PySem.W.keepIn K (.ref f) = true) : Df K mg "sides_of_ring" s_sides_of_ring ["ring"] := ⟨f, _, fun_mk l c k, PySem.W.mg_of X Gm a, (fun_mk l c k).binds (fun _ _ _ _ _ _ us hl => match us, hl with | [_], _ => by kernel_rfl)⟩
theorem df_spots_of (X : K.In h) (Gm : h.Ns mainGlobals mg) (a : PySem.W.nsIn K mainGlobals "spots_of" = some (some (.ref f))) (l : K.lookup f = some ⟨oc, od, .func (PySem.W.fnOf "spots_of" "spots_of" (defArgs s_spots_of) (defBody s_spots_of) (defScope s_spots_of) .none kV doc pm an cdv ct), osl⟩) (c : PySem.W.codeIn K cdv "spots_of" = true) (k : PySem.W.keepIn K (.ref f) = true) : Df K mg "spots_of" s_spots_of ["net"] := ⟨f, _, fun_mk l c k, PySem.W.mg_of X Gm a, (fun_mk l c k).binds (fun _ _ _ _ _ _ us hl => match us, hl with | [_], _ => by kernel_rfl)⟩
theorem df_area_of (X : K.In h) (Gm : h.Ns mainGlobals mg) (a : PySem.W.nsIn K mainGlobals "area_of" = some (some (.ref f))) (l : K.lookup f = some ⟨oc, od, .func (PySem.W.fnOf "area_of" "area_of" (defArgs s_area_of) (defBody s_area_of) (defScope s_area_of) .none kV doc pm an cdv ct), osl⟩) (c : PySem.W.codeIn K cdv "area_of" = true) (k : PySem.W.keepIn K (.ref f) = true) : Df K mg "area_of" s_area_of ["net", "ring"] := ⟨f, _, fun_mk l c k, PySem.W.mg_of X Gm a, (fun_mk l c k).binds (fun _ _ _ _ _ _ us hl => match us, hl with | [_, _], _ => by kernel_rfl)⟩
theorem df_way_from (X : K.In h) (Gm : h.Ns mainGlobals mg) (a : PySem.W.nsIn K mainGlobals "way_from" = some (some (.ref f))) (l : K.lookup f = some ⟨oc, od, .func (PySem.W.fnOf "way_from" "way_from" (defArgs s_way_from) (defBody s_way_from) (defScope s_way_from) .none kV doc pm an cdv ct), osl⟩) (c : PySem.W.codeIn K cdv "way_from" = true) (k : PySem.W.keepIn K (.ref f) = true) : Df K mg "way_from" s_way_from ["one", "other"] := ⟨f, _, fun_mk l c k, PySem.W.mg_of X Gm a, (fun_mk l c k).binds (fun _ _ _ _ _ _ us hl => match us, hl with | [_, _], _ => by kernel_rfl)⟩
theorem df_links_of (X : K.In h) (Gm : h.Ns mainGlobals mg) (a : PySem.W.nsIn K mainGlobals "links_of" = some (some (.ref f))) (l : K.lookup f = some ⟨oc, od, .func (PySem.W.fnOf "links_of" "links_of" (defArgs s_links_of) (defBody s_links_of) (defScope s_links_of) .none kV doc pm an cdv ct), osl⟩) (c : PySem.W.codeIn K cdv "links_of" = true) (k : PySem.W.keepIn K (.ref f) = true) : Df K mg "links_of" s_links_of ["net"] := ⟨f, _, fun_mk l c k, PySem.W.mg_of X Gm a, (fun_mk l c k).binds (fun _ _ _ _ _ _ us hl => match us, hl with | [_], _ => by kernel_rfl)⟩
theorem df_way_of (X : K.In h) (Gm : h.Ns mainGlobals mg) (a : PySem.W.nsIn K mainGlobals "way_of" = some (some (.ref f))) (l : K.lookup f = some ⟨oc, od, .func (PySem.W.fnOf "way_of" "way_of" (defArgs s_way_of) (defBody s_way_of) (defScope s_way_of) .none kV doc pm an cdv ct), osl⟩) (c : PySem.W.codeIn K cdv "way_of" = true) (k : PySem.W.keepIn K (.ref f) = true) : Df K mg "way_of" s_way_of ["links", "side"] := ⟨f, _, fun_mk l c k, PySem.W.mg_of X Gm a, (fun_mk l c k).binds (fun _ _ _ _ _ _ us hl => match us, hl with | [_, _], _ => by kernel_rfl)⟩
theorem df_next_side (X : K.In h) (Gm : h.Ns mainGlobals mg) (a : PySem.W.nsIn K mainGlobals "next_side" = some (some (.ref f))) (l : K.lookup f = some ⟨oc, od, .func (PySem.W.fnOf "next_side" "next_side" (defArgs s_next_side) (defBody s_next_side) (defScope s_next_side) .none kV doc pm an cdv ct), osl⟩) (c : PySem.W.codeIn K cdv "next_side" = true) (k : PySem.W.keepIn K (.ref f) = true) : Df K mg "next_side" s_next_side ["links", "side"] := ⟨f, _, fun_mk l c k, PySem.W.mg_of X Gm a, (fun_mk l c k).binds (fun _ _ _ _ _ _ us hl => match us, hl with | [_, _], _ => by kernel_rfl)⟩
theorem df_ring_from (X : K.In h) (Gm : h.Ns mainGlobals mg) (a : PySem.W.nsIn K mainGlobals "ring_from" = some (some (.ref f))) (l : K.lookup f = some ⟨oc, od, .func (PySem.W.fnOf "ring_from" "ring_from" (defArgs s_ring_from) (defBody s_ring_from) (defScope s_ring_from) .none kV doc pm an cdv ct), osl⟩) (c : PySem.W.codeIn K cdv "ring_from" = true) (k : PySem.W.keepIn K (.ref f) = true) : Df K mg "ring_from" s_ring_from ["links", "side"] := ⟨f, _, fun_mk l c k, PySem.W.mg_of X Gm a, (fun_mk l c k).binds (fun _ _ _ _ _ _ us hl => match us, hl with | [_, _], _ => by kernel_rfl)⟩
theorem df_sides_of (X : K.In h) (Gm : h.Ns mainGlobals mg) (a : PySem.W.nsIn K mainGlobals "sides_of" = some (some (.ref f))) (l : K.lookup f = some ⟨oc, od, .func (PySem.W.fnOf "sides_of" "sides_of" (defArgs s_sides_of) (defBody s_sides_of) (defScope s_sides_of) .none kV doc pm an cdv ct), osl⟩) (c : PySem.W.codeIn K cdv "sides_of" = true) (k : PySem.W.keepIn K (.ref f) = true) : Df K mg "sides_of" s_sides_of ["net"] := ⟨f, _, fun_mk l c k, PySem.W.mg_of X Gm a, (fun_mk l c k).binds (fun _ _ _ _ _ _ us hl => match us, hl with | [_], _ => by kernel_rfl)⟩
theorem df_rings (X : K.In h) (Gm : h.Ns mainGlobals mg) (a : PySem.W.nsIn K mainGlobals "rings" = some (some (.ref f))) (l : K.lookup f = some ⟨oc, od, .func (PySem.W.fnOf "rings" "rings" (defArgs s_rings) (defBody s_rings) (defScope s_rings) .none kV doc pm an cdv ct), osl⟩) (c : PySem.W.codeIn K cdv "rings" = true) (k : PySem.W.keepIn K (.ref f) = true) : Df K mg "rings" s_rings ["net"] := ⟨f, _, fun_mk l c k, PySem.W.mg_of X Gm a, (fun_mk l c k).binds (fun _ _ _ _ _ _ us hl => match us, hl with | [_], _ => by kernel_rfl)⟩
theorem df_ends_of (X : K.In h) (Gm : h.Ns mainGlobals mg) (a : PySem.W.nsIn K mainGlobals "ends_of" = some (some (.ref f))) (l : K.lookup f = some ⟨oc, od, .func (PySem.W.fnOf "ends_of" "ends_of" (defArgs s_ends_of) (defBody s_ends_of) (defScope s_ends_of) .none kV doc pm an cdv ct), osl⟩) (c : PySem.W.codeIn K cdv "ends_of" = true) (k : PySem.W.keepIn K (.ref f) = true) : Df K mg "ends_of" s_ends_of ["net", "wall"] := ⟨f, _, fun_mk l c k, PySem.W.mg_of X Gm a, (fun_mk l c k).binds (fun _ _ _ _ _ _ us hl => match us, hl with | [_, _], _ => by kernel_rfl)⟩
theorem df_is_upright (X : K.In h) (Gm : h.Ns mainGlobals mg) (a : PySem.W.nsIn K mainGlobals "is_upright" = some (some (.ref f))) (l : K.lookup f = some ⟨oc, od, .func (PySem.W.fnOf "is_upright" "is_upright" (defArgs s_is_upright) (defBody s_is_upright) (defScope s_is_upright) .none kV doc pm an cdv ct), osl⟩) (c : PySem.W.codeIn K cdv "is_upright" = true) (k : PySem.W.keepIn K (.ref f) = true) : Df K mg "is_upright" s_is_upright ["ends"] := ⟨f, _, fun_mk l c k, PySem.W.mg_of X Gm a, (fun_mk l c k).binds (fun _ _ _ _ _ _ us hl => match us, hl with | [_], _ => by kernel_rfl)⟩
theorem df_upright_lines (X : K.In h) (Gm : h.Ns mainGlobals mg) (a : PySem.W.nsIn K mainGlobals "upright_lines" = some (some (.ref f))) (l : K.lookup f = some ⟨oc, od, .func (PySem.W.fnOf "upright_lines" "upright_lines" (defArgs s_upright_lines) (defBody s_upright_lines) (defScope s_upright_lines) .none kV doc pm an cdv ct), osl⟩) (c : PySem.W.codeIn K cdv "upright_lines" = true) (k : PySem.W.keepIn K (.ref f) = true) : Df K mg "upright_lines" s_upright_lines ["net"] := ⟨f, _, fun_mk l c k, PySem.W.mg_of X Gm a, (fun_mk l c k).binds (fun _ _ _ _ _ _ us hl => match us, hl with | [_], _ => by kernel_rfl)⟩
theorem df_init (X : K.In h) (hC : mg "Found" = some (.ref C)) (mk : PySem.W.makesIn K C = true) (kc : PySem.W.keepIn K (.ref C) = true) (a : PySem.W.findIn K (.ref C) "__init__" = some (some (.ref f))) (i : PySem.W.isFn K (.ref f) = true) (l : K.lookup f = some ⟨oc, od, .func (PySem.W.fnOf "__init__" "Found.__init__" (defArgs s_Found_init) (defBody s_Found_init) (defScope s_Found_init) .none kV doc pm an cdv ct), osl⟩) (c : PySem.W.codeIn K cdv "Found.__init__" = true) (k : PySem.W.keepIn K (.ref f) = true) : Di K C s_Found_init ["self", "net"] := ⟨f, _, fun_mk l c k, ⟨mk, a, i, kc⟩, (fun_mk l c k).binds (fun _ _ _ _ _ _ us hl => match us, hl with | [_, _], _ => by kernel_rfl)⟩
theorem df_wall_west (X : K.In h) (Gm : h.Ns mainGlobals mg) (a : PySem.W.nsIn K mainGlobals "wall_west" = some (some (.ref f))) (l : K.lookup f = some ⟨oc, od, .func (PySem.W.fnOf "wall_west" "wall_west" (defArgs s_wall_west) (defBody s_wall_west) (defScope s_wall_west) .none kV doc pm an cdv ct), osl⟩) (c : PySem.W.codeIn K cdv "wall_west" = true) (k : PySem.W.keepIn K (.ref f) = true) : Df K mg "wall_west" s_wall_west ["lines", "x", "y"] := ⟨f, _, fun_mk l c k, PySem.W.mg_of X Gm a, (fun_mk l c k).binds (fun _ _ _ _ _ _ us hl => match us, hl with | [_, _, _], _ => by kernel_rfl)⟩
theorem df_side_west_of (X : K.In h) (hC : mg "Found" = some (.ref C)) (a : PySem.W.findIn K (.ref C) "side_west_of" = some (some (.ref f))) (i : PySem.W.isFn K (.ref f) = true) (l : K.lookup f = some ⟨oc, od, .func (PySem.W.fnOf "side_west_of" "Found.side_west_of" (defArgs s_Found_side_west_of) (defBody s_Found_side_west_of) (defScope s_Found_side_west_of) .none kV doc pm an cdv ct), osl⟩) (c : PySem.W.codeIn K cdv "Found.side_west_of" = true) (k : PySem.W.keepIn K (.ref f) = true) : Dm K C "side_west_of" "Found.side_west_of" s_Found_side_west_of ["self", "number"] := ⟨f, _, fun_mk l c k, ⟨a, i, k⟩, (fun_mk l c k).binds (fun _ _ _ _ _ _ us hl => match us, hl with | [_, _], _ => by kernel_rfl)⟩
theorem df_room_left (X : K.In h) (hC : mg "Found" = some (.ref C)) (a : PySem.W.findIn K (.ref C) "room_left" = some (some (.ref f))) (i : PySem.W.isFn K (.ref f) = true) (l : K.lookup f = some ⟨oc, od, .func (PySem.W.fnOf "room_left" "Found.room_left" (defArgs s_Found_room_left) (defBody s_Found_room_left) (defScope s_Found_room_left) .none kV doc pm an cdv ct), osl⟩) (c : PySem.W.codeIn K cdv "Found.room_left" = true) (k : PySem.W.keepIn K (.ref f) = true) : Dm K C "room_left" "Found.room_left" s_Found_room_left ["self", "side"] := ⟨f, _, fun_mk l c k, ⟨a, i, k⟩, (fun_mk l c k).binds (fun _ _ _ _ _ _ us hl => match us, hl with | [_, _], _ => by kernel_rfl)⟩
theorem df_room_of_cell (X : K.In h) (hC : mg "Found" = some (.ref C)) (a : PySem.W.findIn K (.ref C) "room_of_cell" = some (some (.ref f))) (i : PySem.W.isFn K (.ref f) = true) (l : K.lookup f = some ⟨oc, od, .func (PySem.W.fnOf "room_of_cell" "Found.room_of_cell" (defArgs s_Found_room_of_cell) (defBody s_Found_room_of_cell) (defScope s_Found_room_of_cell) .none kV doc pm an cdv ct), osl⟩) (c : PySem.W.codeIn K cdv "Found.room_of_cell" = true) (k : PySem.W.keepIn K (.ref f) = true) : Dm K C "room_of_cell" "Found.room_of_cell" s_Found_room_of_cell ["self", "x", "y"] := ⟨f, _, fun_mk l c k, ⟨a, i, k⟩, (fun_mk l c k).binds (fun _ _ _ _ _ _ us hl => match us, hl with | [_, _, _], _ => by kernel_rfl)⟩
theorem df_room_rings (X : K.In h) (hC : mg "Found" = some (.ref C)) (a : PySem.W.findIn K (.ref C) "room_rings" = some (some (.ref f))) (i : PySem.W.isFn K (.ref f) = true) (l : K.lookup f = some ⟨oc, od, .func (PySem.W.fnOf "room_rings" "Found.room_rings" (defArgs s_Found_room_rings) (defBody s_Found_room_rings) (defScope s_Found_room_rings) .none kV doc pm an cdv ct), osl⟩) (c : PySem.W.codeIn K cdv "Found.room_rings" = true) (k : PySem.W.keepIn K (.ref f) = true) : Dm K C "room_rings" "Found.room_rings" s_Found_room_rings ["self"] := ⟨f, _, fun_mk l c k, ⟨a, i, k⟩, (fun_mk l c k).binds (fun _ _ _ _ _ _ us hl => match us, hl with | [_], _ => by kernel_rfl)⟩
theorem df_cell_of (X : K.In h) (Gm : h.Ns mainGlobals mg) (a : PySem.W.nsIn K mainGlobals "cell_of" = some (some (.ref f))) (l : K.lookup f = some ⟨oc, od, .func (PySem.W.fnOf "cell_of" "cell_of" (defArgs s_cell_of) (defBody s_cell_of) (defScope s_cell_of) .none kV doc pm an cdv ct), osl⟩) (c : PySem.W.codeIn K cdv "cell_of" = true) (k : PySem.W.keepIn K (.ref f) = true) : Df K mg "cell_of" s_cell_of ["found", "x", "y"] := ⟨f, _, fun_mk l c k, PySem.W.mg_of X Gm a, (fun_mk l c k).binds (fun _ _ _ _ _ _ us hl => match us, hl with | [_, _, _], _ => by kernel_rfl)⟩
theorem df_cell_at (X : K.In h) (Gm : h.Ns mainGlobals mg) (a : PySem.W.nsIn K mainGlobals "cell_at" = some (some (.ref f))) (l : K.lookup f = some ⟨oc, od, .func (PySem.W.fnOf "cell_at" "cell_at" (defArgs s_cell_at) (defBody s_cell_at) (defScope s_cell_at) .none kV doc pm an cdv ct), osl⟩) (c : PySem.W.codeIn K cdv "cell_at" = true) (k : PySem.W.keepIn K (.ref f) = true) : Df K mg "cell_at" s_cell_at ["net", "x", "y"] := ⟨f, _, fun_mk l c k, PySem.W.mg_of X Gm a, (fun_mk l c k).binds (fun _ _ _ _ _ _ us hl => match us, hl with | [_, _, _], _ => by kernel_rfl)⟩
theorem df__law_things (X : K.In h) (Gm : h.Ns mainGlobals mg) (a : PySem.W.nsIn K mainGlobals "_law_things" = some (some (.ref f))) (l : K.lookup f = some ⟨oc, od, .func (PySem.W.fnOf "_law_things" "_law_things" (defArgs s__law_things) (defBody s__law_things) (defScope s__law_things) .none kV doc pm an cdv ct), osl⟩) (c : PySem.W.codeIn K cdv "_law_things" = true) (k : PySem.W.keepIn K (.ref f) = true) : Df K mg "_law_things" s__law_things ["_law_feed_here", "_law_net_here", "_law_openings_here", "_law_most"] := ⟨f, _, fun_mk l c k, PySem.W.mg_of X Gm a, (fun_mk l c k).binds (fun _ _ _ _ _ _ us hl => match us, hl with | [_, _, _, _], _ => by kernel_rfl)⟩
theorem df__law_plan (X : K.In h) (Gm : h.Ns mainGlobals mg) (a : PySem.W.nsIn K mainGlobals "_law_plan" = some (some (.ref f))) (l : K.lookup f = some ⟨oc, od, .func (PySem.W.fnOf "_law_plan" "_law_plan" (defArgs s__law_plan) (defBody s__law_plan) (defScope s__law_plan) .none kV doc pm an cdv ct), osl⟩) (c : PySem.W.codeIn K cdv "_law_plan" = true) (k : PySem.W.keepIn K (.ref f) = true) : Df K mg "_law_plan" s__law_plan ["_law_feed_here", "_law_most"] := ⟨f, _, fun_mk l c k, PySem.W.mg_of X Gm a, (fun_mk l c k).binds (fun _ _ _ _ _ _ us hl => match us, hl with | [_, _], _ => by kernel_rfl)⟩
theorem df_in_place (X : K.In h) (Gm : h.Ns mainGlobals mg) (a : PySem.W.nsIn K mainGlobals "in_place" = some (some (.ref f))) (l : K.lookup f = some ⟨oc, od, .func (PySem.W.fnOf "in_place" "in_place" (defArgs s_in_place) (defBody s_in_place) (defScope s_in_place) .none kV doc pm an cdv ct), osl⟩) (c : PySem.W.codeIn K cdv "in_place" = true) (k : PySem.W.keepIn K (.ref f) = true) : Df K mg "in_place" s_in_place ["things", "thing"] := ⟨f, _, fun_mk l c k, PySem.W.mg_of X Gm a, (fun_mk l c k).binds (fun _ _ _ _ _ _ us hl => match us, hl with | [_, _], _ => by kernel_rfl)⟩
theorem df_is_name (X : K.In h) (Gm : h.Ns mainGlobals mg) (a : PySem.W.nsIn K mainGlobals "is_name" = some (some (.ref f))) (l : K.lookup f = some ⟨oc, od, .func (PySem.W.fnOf "is_name" "is_name" (defArgs s_is_name) (defBody s_is_name) (defScope s_is_name) .none kV doc pm an cdv ct), osl⟩) (c : PySem.W.codeIn K cdv "is_name" = true) (k : PySem.W.keepIn K (.ref f) = true) : Df K mg "is_name" s_is_name ["thing"] := ⟨f, _, fun_mk l c k, PySem.W.mg_of X Gm a, (fun_mk l c k).binds (fun _ _ _ _ _ _ us hl => match us, hl with | [_], _ => by kernel_rfl)⟩
theorem df_is_whole (X : K.In h) (Gm : h.Ns mainGlobals mg) (a : PySem.W.nsIn K mainGlobals "is_whole" = some (some (.ref f))) (l : K.lookup f = some ⟨oc, od, .func (PySem.W.fnOf "is_whole" "is_whole" (defArgs s_is_whole) (defBody s_is_whole) (defScope s_is_whole) .none kV doc pm an cdv ct), osl⟩) (c : PySem.W.codeIn K cdv "is_whole" = true) (k : PySem.W.keepIn K (.ref f) = true) : Df K mg "is_whole" s_is_whole ["thing", "least", "most"] := ⟨f, _, fun_mk l c k, PySem.W.mg_of X Gm a, (fun_mk l c k).binds (fun _ _ _ _ _ _ us hl => match us, hl with | [_, _, _], _ => by kernel_rfl)⟩
theorem df_is_spot (X : K.In h) (Gm : h.Ns mainGlobals mg) (a : PySem.W.nsIn K mainGlobals "is_spot" = some (some (.ref f))) (l : K.lookup f = some ⟨oc, od, .func (PySem.W.fnOf "is_spot" "is_spot" (defArgs s_is_spot) (defBody s_is_spot) (defScope s_is_spot) .none kV doc pm an cdv ct), osl⟩) (c : PySem.W.codeIn K cdv "is_spot" = true) (k : PySem.W.keepIn K (.ref f) = true) : Df K mg "is_spot" s_is_spot ["thing"] := ⟨f, _, fun_mk l c k, PySem.W.mg_of X Gm a, (fun_mk l c k).binds (fun _ _ _ _ _ _ us hl => match us, hl with | [_], _ => by kernel_rfl)⟩
theorem df_is_thing (X : K.In h) (Gm : h.Ns mainGlobals mg) (a : PySem.W.nsIn K mainGlobals "is_thing" = some (some (.ref f))) (l : K.lookup f = some ⟨oc, od, .func (PySem.W.fnOf "is_thing" "is_thing" (defArgs s_is_thing) (defBody s_is_thing) (defScope s_is_thing) .none kV doc pm an cdv ct), osl⟩) (c : PySem.W.codeIn K cdv "is_thing" = true) (k : PySem.W.keepIn K (.ref f) = true) : Df K mg "is_thing" s_is_thing ["thing"] := ⟨f, _, fun_mk l c k, PySem.W.mg_of X Gm a, (fun_mk l c k).binds (fun _ _ _ _ _ _ us hl => match us, hl with | [_], _ => by kernel_rfl)⟩
theorem df_length_of (X : K.In h) (Gm : h.Ns mainGlobals mg) (a : PySem.W.nsIn K mainGlobals "length_of" = some (some (.ref f))) (l : K.lookup f = some ⟨oc, od, .func (PySem.W.fnOf "length_of" "length_of" (defArgs s_length_of) (defBody s_length_of) (defScope s_length_of) .none kV doc pm an cdv ct), osl⟩) (c : PySem.W.codeIn K cdv "length_of" = true) (k : PySem.W.keepIn K (.ref f) = true) : Df K mg "length_of" s_length_of ["ends"] := ⟨f, _, fun_mk l c k, PySem.W.mg_of X Gm a, (fun_mk l c k).binds (fun _ _ _ _ _ _ us hl => match us, hl with | [_], _ => by kernel_rfl)⟩
theorem df_span_of (X : K.In h) (Gm : h.Ns mainGlobals mg) (a : PySem.W.nsIn K mainGlobals "span_of" = some (some (.ref f))) (l : K.lookup f = some ⟨oc, od, .func (PySem.W.fnOf "span_of" "span_of" (defArgs s_span_of) (defBody s_span_of) (defScope s_span_of) .none kV doc pm an cdv ct), osl⟩) (c : PySem.W.codeIn K cdv "span_of" = true) (k : PySem.W.keepIn K (.ref f) = true) : Df K mg "span_of" s_span_of ["net", "opening"] := ⟨f, _, fun_mk l c k, PySem.W.mg_of X Gm a, (fun_mk l c k).binds (fun _ _ _ _ _ _ us hl => match us, hl with | [_, _], _ => by kernel_rfl)⟩
theorem df_are_apart_on (X : K.In h) (Gm : h.Ns mainGlobals mg) (a : PySem.W.nsIn K mainGlobals "are_apart_on" = some (some (.ref f))) (l : K.lookup f = some ⟨oc, od, .func (PySem.W.fnOf "are_apart_on" "are_apart_on" (defArgs s_are_apart_on) (defBody s_are_apart_on) (defScope s_are_apart_on) .none kV doc pm an cdv ct), osl⟩) (c : PySem.W.codeIn K cdv "are_apart_on" = true) (k : PySem.W.keepIn K (.ref f) = true) : Df K mg "are_apart_on" s_are_apart_on ["net", "one", "other"] := ⟨f, _, fun_mk l c k, PySem.W.mg_of X Gm a, (fun_mk l c k).binds (fun _ _ _ _ _ _ us hl => match us, hl with | [_, _, _], _ => by kernel_rfl)⟩
theorem df_does_stand_alone (X : K.In h) (Gm : h.Ns mainGlobals mg) (a : PySem.W.nsIn K mainGlobals "does_stand_alone" = some (some (.ref f))) (l : K.lookup f = some ⟨oc, od, .func (PySem.W.fnOf "does_stand_alone" "does_stand_alone" (defArgs s_does_stand_alone) (defBody s_does_stand_alone) (defScope s_does_stand_alone) .none kV doc pm an cdv ct), osl⟩) (c : PySem.W.codeIn K cdv "does_stand_alone" = true) (k : PySem.W.keepIn K (.ref f) = true) : Df K mg "does_stand_alone" s_does_stand_alone ["net", "opening"] := ⟨f, _, fun_mk l c k, PySem.W.mg_of X Gm a, (fun_mk l c k).binds (fun _ _ _ _ _ _ us hl => match us, hl with | [_, _], _ => by kernel_rfl)⟩
theorem df_does_stand (X : K.In h) (Gm : h.Ns mainGlobals mg) (a : PySem.W.nsIn K mainGlobals "does_stand" = some (some (.ref f))) (l : K.lookup f = some ⟨oc, od, .func (PySem.W.fnOf "does_stand" "does_stand" (defArgs s_does_stand) (defBody s_does_stand) (defScope s_does_stand) .none kV doc pm an cdv ct), osl⟩) (c : PySem.W.codeIn K cdv "does_stand" = true) (k : PySem.W.keepIn K (.ref f) = true) : Df K mg "does_stand" s_does_stand ["net", "opening", "openings"] := ⟨f, _, fun_mk l c k, PySem.W.mg_of X Gm a, (fun_mk l c k).binds (fun _ _ _ _ _ _ us hl => match us, hl with | [_, _, _], _ => by kernel_rfl)⟩
theorem df_first_fallen (X : K.In h) (Gm : h.Ns mainGlobals mg) (a : PySem.W.nsIn K mainGlobals "first_fallen" = some (some (.ref f))) (l : K.lookup f = some ⟨oc, od, .func (PySem.W.fnOf "first_fallen" "first_fallen" (defArgs s_first_fallen) (defBody s_first_fallen) (defScope s_first_fallen) .none kV doc pm an cdv ct), osl⟩) (c : PySem.W.codeIn K cdv "first_fallen" = true) (k : PySem.W.keepIn K (.ref f) = true) : Df K mg "first_fallen" s_first_fallen ["net", "openings"] := ⟨f, _, fun_mk l c k, PySem.W.mg_of X Gm a, (fun_mk l c k).binds (fun _ _ _ _ _ _ us hl => match us, hl with | [_, _], _ => by kernel_rfl)⟩
theorem df_along (X : K.In h) (Gm : h.Ns mainGlobals mg) (a : PySem.W.nsIn K mainGlobals "along" = some (some (.ref f))) (l : K.lookup f = some ⟨oc, od, .func (PySem.W.fnOf "along" "along" (defArgs s_along) (defBody s_along) (defScope s_along) .none kV doc pm an cdv ct), osl⟩) (c : PySem.W.codeIn K cdv "along" = true) (k : PySem.W.keepIn K (.ref f) = true) : Df K mg "along" s_along ["ends", "by"] := ⟨f, _, fun_mk l c k, PySem.W.mg_of X Gm a, (fun_mk l c k).binds (fun _ _ _ _ _ _ us hl => match us, hl with | [_, _], _ => by kernel_rfl)⟩
theorem df_stretch (X : K.In h) (Gm : h.Ns mainGlobals mg) (a : PySem.W.nsIn K mainGlobals "stretch" = some (some (.ref f))) (l : K.lookup f = some ⟨oc, od, .func (PySem.W.fnOf "stretch" "stretch" (defArgs s_stretch) (defBody s_stretch) (defScope s_stretch) .none kV doc pm an cdv ct), osl⟩) (c : PySem.W.codeIn K cdv "stretch" = true) (k : PySem.W.keepIn K (.ref f) = true) : Df K mg "stretch" s_stretch ["net", "opening"] := ⟨f, _, fun_mk l c k, PySem.W.mg_of X Gm a, (fun_mk l c k).binds (fun _ _ _ _ _ _ us hl => match us, hl with | [_, _], _ => by kernel_rfl)⟩
theorem df_places (X : K.In h) (Gm : h.Ns mainGlobals mg) (a : PySem.W.nsIn K mainGlobals "places" = some (some (.ref f))) (l : K.lookup f = some ⟨oc, od, .func (PySem.W.fnOf "places" "places" (defArgs s_places) (defBody s_places) (defScope s_places) .none kV doc pm an cdv ct), osl⟩) (c : PySem.W.codeIn K cdv "places" = true) (k : PySem.W.keepIn K (.ref f) = true) : Df K mg "places" s_places ["net", "opening"] := ⟨f, _, fun_mk l c k, PySem.W.mg_of X Gm a, (fun_mk l c k).binds (fun _ _ _ _ _ _ us hl => match us, hl with | [_, _], _ => by kernel_rfl)⟩
theorem df_all_places (X : K.In h) (Gm : h.Ns mainGlobals mg) (a : PySem.W.nsIn K mainGlobals "all_places" = some (some (.ref f))) (l : K.lookup f = some ⟨oc, od, .func (PySem.W.fnOf "all_places" "all_places" (defArgs s_all_places) (defBody s_all_places) (defScope s_all_places) .none kV doc pm an cdv ct), osl⟩) (c : PySem.W.codeIn K cdv "all_places" = true) (k : PySem.W.keepIn K (.ref f) = true) : Df K mg "all_places" s_all_places ["net", "openings"] := ⟨f, _, fun_mk l c k, PySem.W.mg_of X Gm a, (fun_mk l c k).binds (fun _ _ _ _ _ _ us hl => match us, hl with | [_, _], _ => by kernel_rfl)⟩
theorem df_do_meet (X : K.In h) (Gm : h.Ns mainGlobals mg) (a : PySem.W.nsIn K mainGlobals "do_meet" = some (some (.ref f))) (l : K.lookup f = some ⟨oc, od, .func (PySem.W.fnOf "do_meet" "do_meet" (defArgs s_do_meet) (defBody s_do_meet) (defScope s_do_meet) .none kV doc pm an cdv ct), osl⟩) (c : PySem.W.codeIn K cdv "do_meet" = true) (k : PySem.W.keepIn K (.ref f) = true) : Df K mg "do_meet" s_do_meet ["one", "other"] := ⟨f, _, fun_mk l c k, PySem.W.mg_of X Gm a, (fun_mk l c k).binds (fun _ _ _ _ _ _ us hl => match us, hl with | [_, _], _ => by kernel_rfl)⟩
theorem df_goes_across (X : K.In h) (Gm : h.Ns mainGlobals mg) (a : PySem.W.nsIn K mainGlobals "goes_across" = some (some (.ref f))) (l : K.lookup f = some ⟨oc, od, .func (PySem.W.fnOf "goes_across" "goes_across" (defArgs s_goes_across) (defBody s_goes_across) (defScope s_goes_across) .none kV doc pm an cdv ct), osl⟩) (c : PySem.W.codeIn K cdv "goes_across" = true) (k : PySem.W.keepIn K (.ref f) = true) : Df K mg "goes_across" s_goes_across ["ends", "oblong"] := ⟨f, _, fun_mk l c k, PySem.W.mg_of X Gm a, (fun_mk l c k).binds (fun _ _ _ _ _ _ us hl => match us, hl with | [_, _], _ => by kernel_rfl)⟩
theorem df_room_by (X : K.In h) (Gm : h.Ns mainGlobals mg) (a : PySem.W.nsIn K mainGlobals "room_by" = some (some (.ref f))) (l : K.lookup f = some ⟨oc, od, .func (PySem.W.fnOf "room_by" "room_by" (defArgs s_room_by) (defBody s_room_by) (defScope s_room_by) .none kV doc pm an cdv ct), osl⟩) (c : PySem.W.codeIn K cdv "room_by" = true) (k : PySem.W.keepIn K (.ref f) = true) : Df K mg "room_by" s_room_by ["net", "found", "oblong"] := ⟨f, _, fun_mk l c k, PySem.W.mg_of X Gm a, (fun_mk l c k).binds (fun _ _ _ _ _ _ us hl => match us, hl with | [_, _, _], _ => by kernel_rfl)⟩
theorem df_first_misfit (X : K.In h) (Gm : h.Ns mainGlobals mg) (a : PySem.W.nsIn K mainGlobals "first_misfit" = some (some (.ref f))) (l : K.lookup f = some ⟨oc, od, .func (PySem.W.fnOf "first_misfit" "first_misfit" (defArgs s_first_misfit) (defBody s_first_misfit) (defScope s_first_misfit) .none kV doc pm an cdv ct), osl⟩) (c : PySem.W.codeIn K cdv "first_misfit" = true) (k : PySem.W.keepIn K (.ref f) = true) : Df K mg "first_misfit" s_first_misfit ["net", "openings", "things"] := ⟨f, _, fun_mk l c k, PySem.W.mg_of X Gm a, (fun_mk l c k).binds (fun _ _ _ _ _ _ us hl => match us, hl with | [_, _, _], _ => by kernel_rfl)⟩
theorem df_does_hold (X : K.In h) (Gm : h.Ns mainGlobals mg) (a : PySem.W.nsIn K mainGlobals "does_hold" = some (some (.ref f))) (l : K.lookup f = some ⟨oc, od, .func (PySem.W.fnOf "does_hold" "does_hold" (defArgs s_does_hold) (defBody s_does_hold) (defScope s_does_hold) .none kV doc pm an cdv ct), osl⟩) (c : PySem.W.codeIn K cdv "does_hold" = true) (k : PySem.W.keepIn K (.ref f) = true) : Df K mg "does_hold" s_does_hold ["net", "hold"] := ⟨f, _, fun_mk l c k, PySem.W.mg_of X Gm a, (fun_mk l c k).binds (fun _ _ _ _ _ _ us hl => match us, hl with | [_, _], _ => by kernel_rfl)⟩
theorem df_look_holds (X : K.In h) (Gm : h.Ns mainGlobals mg) (a : PySem.W.nsIn K mainGlobals "look_holds" = some (some (.ref f))) (l : K.lookup f = some ⟨oc, od, .func (PySem.W.fnOf "look_holds" "look_holds" (defArgs s_look_holds) (defBody s_look_holds) (defScope s_look_holds) .none kV doc pm an cdv ct), osl⟩) (c : PySem.W.codeIn K cdv "look_holds" = true) (k : PySem.W.keepIn K (.ref f) = true) : Df K mg "look_holds" s_look_holds ["net", "holds"] := ⟨f, _, fun_mk l c k, PySem.W.mg_of X Gm a, (fun_mk l c k).binds (fun _ _ _ _ _ _ us hl => match us, hl with | [_, _], _ => by kernel_rfl)⟩
theorem df_made (X : K.In h) (Gm : h.Ns mainGlobals mg) (a : PySem.W.nsIn K mainGlobals "made" = some (some (.ref f))) (l : K.lookup f = some ⟨oc, od, .func (PySem.W.fnOf "made" "made" (defArgs s_made) (defBody s_made) (defScope s_made) .none kV doc pm an cdv ct), osl⟩) (c : PySem.W.codeIn K cdv "made" = true) (k : PySem.W.keepIn K (.ref f) = true) : Df K mg "made" s_made ["net", "holds", "openings", "things"] := ⟨f, _, fun_mk l c k, PySem.W.mg_of X Gm a, (fun_mk l c k).binds (fun _ _ _ _ _ _ us hl => match us, hl with | [_, _, _, _], _ => by kernel_rfl)⟩
theorem df_thing_put (X : K.In h) (Gm : h.Ns mainGlobals mg) (a : PySem.W.nsIn K mainGlobals "thing_put" = some (some (.ref f))) (l : K.lookup f = some ⟨oc, od, .func (PySem.W.fnOf "thing_put" "thing_put" (defArgs s_thing_put) (defBody s_thing_put) (defScope s_thing_put) .none kV doc pm an cdv ct), osl⟩) (c : PySem.W.codeIn K cdv "thing_put" = true) (k : PySem.W.keepIn K (.ref f) = true) : Df K mg "thing_put" s_thing_put ["plan", "thing"] := ⟨f, _, fun_mk l c k, PySem.W.mg_of X Gm a, (fun_mk l c k).binds (fun _ _ _ _ _ _ us hl => match us, hl with | [_, _], _ => by kernel_rfl)⟩
theorem df__law_put_at (X : K.In h) (Gm : h.Ns mainGlobals mg) (a : PySem.W.nsIn K mainGlobals "_law_put_at" = some (some (.ref f))) (l : K.lookup f = some ⟨oc, od, .func (PySem.W.fnOf "_law_put_at" "_law_put_at" (defArgs s__law_put_at) (defBody s__law_put_at) (defScope s__law_put_at) .none kV doc pm an cdv ct), osl⟩) (c : PySem.W.codeIn K cdv "_law_put_at" = true) (k : PySem.W.keepIn K (.ref f) = true) : Df K mg "_law_put_at" s__law_put_at ["_law_plan_here", "_law_spot", "_law_w", "_law_h"] := ⟨f, _, fun_mk l c k, PySem.W.mg_of X Gm a, (fun_mk l c k).binds (fun _ _ _ _ _ _ us hl => match us, hl with | [_, _, _, _], _ => by kernel_rfl)⟩
theorem df__law_spots (X : K.In h) (Gm : h.Ns mainGlobals mg) (a : PySem.W.nsIn K mainGlobals "_law_spots" = some (some (.ref f))) (l : K.lookup f = some ⟨oc, od, .func (PySem.W.fnOf "_law_spots" "_law_spots" (defArgs s__law_spots) (defBody s__law_spots) (defScope s__law_spots) .none kV doc pm an cdv ct), osl⟩) (c : PySem.W.codeIn K cdv "_law_spots" = true) (k : PySem.W.keepIn K (.ref f) = true) : Df K mg "_law_spots" s__law_spots ["_law_feed_here", "_law_plan_here", "_law_spot"] := ⟨f, _, fun_mk l c k, PySem.W.mg_of X Gm a, (fun_mk l c k).binds (fun _ _ _ _ _ _ us hl => match us, hl with | [_, _, _], _ => by kernel_rfl)⟩
theorem df_oblongs_of (X : K.In h) (Gm : h.Ns mainGlobals mg) (a : PySem.W.nsIn K mainGlobals "oblongs_of" = some (some (.ref f))) (l : K.lookup f = some ⟨oc, od, .func (PySem.W.fnOf "oblongs_of" "oblongs_of" (defArgs s_oblongs_of) (defBody s_oblongs_of) (defScope s_oblongs_of) .none kV doc pm an cdv ct), osl⟩) (c : PySem.W.codeIn K cdv "oblongs_of" = true) (k : PySem.W.keepIn K (.ref f) = true) : Df K mg "oblongs_of" s_oblongs_of ["plan"] := ⟨f, _, fun_mk l c k, PySem.W.mg_of X Gm a, (fun_mk l c k).binds (fun _ _ _ _ _ _ us hl => match us, hl with | [_], _ => by kernel_rfl)⟩
theorem df_barred (X : K.In h) (Gm : h.Ns mainGlobals mg) (a : PySem.W.nsIn K mainGlobals "barred" = some (some (.ref f))) (l : K.lookup f = some ⟨oc, od, .func (PySem.W.fnOf "barred" "barred" (defArgs s_barred) (defBody s_barred) (defScope s_barred) .none kV doc pm an cdv ct), osl⟩) (c : PySem.W.codeIn K cdv "barred" = true) (k : PySem.W.keepIn K (.ref f) = true) : Df K mg "barred" s_barred ["plan", "y", "w", "h"] := ⟨f, _, fun_mk l c k, PySem.W.mg_of X Gm a, (fun_mk l c k).binds (fun _ _ _ _ _ _ us hl => match us, hl with | [_, _, _, _], _ => by kernel_rfl)⟩
theorem df_ends_along (X : K.In h) (Gm : h.Ns mainGlobals mg) (a : PySem.W.nsIn K mainGlobals "ends_along" = some (some (.ref f))) (l : K.lookup f = some ⟨oc, od, .func (PySem.W.fnOf "ends_along" "ends_along" (defArgs s_ends_along) (defBody s_ends_along) (defScope s_ends_along) .none kV doc pm an cdv ct), osl⟩) (c : PySem.W.codeIn K cdv "ends_along" = true) (k : PySem.W.keepIn K (.ref f) = true) : Df K mg "ends_along" s_ends_along ["plan", "axis"] := ⟨f, _, fun_mk l c k, PySem.W.mg_of X Gm a, (fun_mk l c k).binds (fun _ _ _ _ _ _ us hl => match us, hl with | [_, _], _ => by kernel_rfl)⟩
theorem df_is_barred (X : K.In h) (Gm : h.Ns mainGlobals mg) (a : PySem.W.nsIn K mainGlobals "is_barred" = some (some (.ref f))) (l : K.lookup f = some ⟨oc, od, .func (PySem.W.fnOf "is_barred" "is_barred" (defArgs s_is_barred) (defBody s_is_barred) (defScope s_is_barred) .none kV doc pm an cdv ct), osl⟩) (c : PySem.W.codeIn K cdv "is_barred" = true) (k : PySem.W.keepIn K (.ref f) = true) : Df K mg "is_barred" s_is_barred ["stretches", "x"] := ⟨f, _, fun_mk l c k, PySem.W.mg_of X Gm a, (fun_mk l c k).binds (fun _ _ _ _ _ _ us hl => match us, hl with | [_, _], _ => by kernel_rfl)⟩
theorem df_fit (X : K.In h) (Gm : h.Ns mainGlobals mg) (a : PySem.W.nsIn K mainGlobals "fit" = some (some (.ref f))) (l : K.lookup f = some ⟨oc, od, .func (PySem.W.fnOf "fit" "fit" (defArgs s_fit) (defBody s_fit) (defScope s_fit) .none kV doc pm an cdv ct), osl⟩) (c : PySem.W.codeIn K cdv "fit" = true) (k : PySem.W.keepIn K (.ref f) = true) : Df K mg "fit" s_fit ["plan", "room", "w", "h"] := ⟨f, _, fun_mk l c k, PySem.W.mg_of X Gm a, (fun_mk l c k).binds (fun _ _ _ _ _ _ us hl => match us, hl with | [_, _, _, _], _ => by kernel_rfl)⟩
theorem df_room_of (X : K.In h) (Gm : h.Ns mainGlobals mg) (a : PySem.W.nsIn K mainGlobals "room_of" = some (some (.ref f))) (l : K.lookup f = some ⟨oc, od, .func (PySem.W.fnOf "room_of" "room_of" (defArgs s_room_of) (defBody s_room_of) (defScope s_room_of) .none kV doc pm an cdv ct), osl⟩) (c : PySem.W.codeIn K cdv "room_of" = true) (k : PySem.W.keepIn K (.ref f) = true) : Df K mg "room_of" s_room_of ["net", "thing"] := ⟨f, _, fun_mk l c k, PySem.W.mg_of X Gm a, (fun_mk l c k).binds (fun _ _ _ _ _ _ us hl => match us, hl with | [_, _], _ => by kernel_rfl)⟩
theorem df__law_right (X : K.In h) (Gm : h.Ns mainGlobals mg) (a : PySem.W.nsIn K mainGlobals "_law_right" = some (some (.ref f))) (l : K.lookup f = some ⟨oc, od, .func (PySem.W.fnOf "_law_right" "_law_right" (defArgs s__law_right) (defBody s__law_right) (defScope s__law_right) .none kV doc pm an cdv ct), osl⟩) (c : PySem.W.codeIn K cdv "_law_right" = true) (k : PySem.W.keepIn K (.ref f) = true) : Df K mg "_law_right" s__law_right ["_law_feed_here", "_law_plan_here", "_law_room", "_law_w", "_law_h"] := ⟨f, _, fun_mk l c k, PySem.W.mg_of X Gm a, (fun_mk l c k).binds (fun _ _ _ _ _ _ us hl => match us, hl with | [_, _, _, _, _], _ => by kernel_rfl)⟩
theorem df_room_of_rim (X : K.In h) (hC : mg "Found" = some (.ref C)) (a : PySem.W.findIn K (.ref C) "room_of_rim" = some (some (.ref f))) (i : PySem.W.isFn K (.ref f) = true) (l : K.lookup f = some ⟨oc, od, .func (PySem.W.fnOf "room_of_rim" "Found.room_of_rim" (defArgs s_Found_room_of_rim) (defBody s_Found_room_of_rim) (defScope s_Found_room_of_rim) .none kV doc pm an cdv ct), osl⟩) (c : PySem.W.codeIn K cdv "Found.room_of_rim" = true) (k : PySem.W.keepIn K (.ref f) = true) : Dm K C "room_of_rim" "Found.room_of_rim" s_Found_room_of_rim ["self", "number"] := ⟨f, _, fun_mk l c k, ⟨a, i, k⟩, (fun_mk l c k).binds (fun _ _ _ _ _ _ us hl => match us, hl with | [_, _], _ => by kernel_rfl)⟩
theorem df_rims_in (X : K.In h) (hC : mg "Found" = some (.ref C)) (a : PySem.W.findIn K (.ref C) "rims_in" = some (some (.ref f))) (i : PySem.W.isFn K (.ref f) = true) (l : K.lookup f = some ⟨oc, od, .func (PySem.W.fnOf "rims_in" "Found.rims_in" (defArgs s_Found_rims_in) (defBody s_Found_rims_in) (defScope s_Found_rims_in) .none kV doc pm an cdv ct), osl⟩) (c : PySem.W.codeIn K cdv "Found.rims_in" = true) (k : PySem.W.keepIn K (.ref f) = true) : Dm K C "rims_in" "Found.rims_in" s_Found_rims_in ["self", "room"] := ⟨f, _, fun_mk l c k, ⟨a, i, k⟩, (fun_mk l c k).binds (fun _ _ _ _ _ _ us hl => match us, hl with | [_, _], _ => by kernel_rfl)⟩
theorem df_room (X : K.In h) (hC : mg "Found" = some (.ref C)) (a : PySem.W.findIn K (.ref C) "room" = some (some (.ref f))) (i : PySem.W.isFn K (.ref f) = true) (l : K.lookup f = some ⟨oc, od, .func (PySem.W.fnOf "room" "Found.room" (defArgs s_Found_room) (defBody s_Found_room) (defScope s_Found_room) .none kV doc pm an cdv ct), osl⟩) (c : PySem.W.codeIn K cdv "Found.room" = true) (k : PySem.W.keepIn K (.ref f) = true) : Dm K C "room" "Found.room" s_Found_room ["self", "number"] := ⟨f, _, fun_mk l c k, ⟨a, i, k⟩, (fun_mk l c k).binds (fun _ _ _ _ _ _ us hl => match us, hl with | [_, _], _ => by kernel_rfl)⟩
theorem df_rooms (X : K.In h) (Gm : h.Ns mainGlobals mg) (a : PySem.W.nsIn K mainGlobals "rooms" = some (some (.ref f))) (l : K.lookup f = some ⟨oc, od, .func (PySem.W.fnOf "rooms" "rooms" (defArgs s_rooms) (defBody s_rooms) (defScope s_rooms) .none kV doc pm an cdv ct), osl⟩) (c : PySem.W.codeIn K cdv "rooms" = true) (k : PySem.W.keepIn K (.ref f) = true) : Df K mg "rooms" s_rooms ["net"] := ⟨f, _, fun_mk l c k, PySem.W.mg_of X Gm a, (fun_mk l c k).binds (fun _ _ _ _ _ _ us hl => match us, hl with | [_], _ => by kernel_rfl)⟩
theorem df_NoThing (X : K.In h) (hN : mg "NoThing" = some (.ref CN)) (a : PySem.W.findIn K (.ref CN) "__init__" = some (some (.ref f))) (i : PySem.W.typeIn K (.ref f) = some (.type "function")) (l : K.lookup f = some ⟨oc, od, .func (PySem.W.fnOf "__init__" "NoThing.__init__" (defArgs s_NoThing_init) (defBody s_NoThing_init) (defScope s_NoThing_init) .none kV doc pm an cdv ct), osl⟩) (c : PySem.W.codeIn K cdv "NoThing.__init__" = true) (k : PySem.W.keepIn K (.ref f) = true) : Dn K CN := ⟨f, _, fun_mk l c k, a, i, (fun_mk l c k).binds (fun _ _ _ _ _ _ us hl => match us, hl with | [_, _], _ => by kernel_rfl)⟩
theorem law_at {fa : Addr} (X : K.In h) (Gm : h.Ns mainGlobals mg) (hfa : mg "law" = some (.ref fa)) (a : PySem.W.nsIn K mainGlobals "law" = some (some (.ref f))) (l : K.lookup f = some ⟨oc, od, .func (PySem.W.fnOf "law" "law" (defArgs s_law) (defBody s_law) (defScope s_law) .none kV doc pm an cdv ct), osl⟩) (c : PySem.W.codeIn K cdv "law" = true) (k : PySem.W.keepIn K (.ref f) = true) : ∃ fd : FuncData, (∀ (s : Shared) (v : Value), BindsTo s fd ⟨[v], []⟩ [("_law_script", v)]) ∧ Fun K "law" "law" s_law fa fd := by
  have e := hfa.symm.trans (PySem.W.mg_of X Gm a)
  cases e
  exact ⟨_, fun s v => .of_eq rfl, fun_mk l c k⟩
end
section
variable {P : Program} {w : World} {K : PySem.W.Frag} {mg : Str → Option Value} {base : Heap} {C CP CN ax : Addr} {h : Heap}
theorem bi_of (X : K.In h) (Gm : h.Ns mainGlobals mg) (z_len : PySem.W.nsIn K mainGlobals "len" = some none) (z_list : PySem.W.nsIn K mainGlobals "list" = some none) (z_range : PySem.W.nsIn K mainGlobals "range" = some none) (z_sorted : PySem.W.nsIn K mainGlobals "sorted" = some none) (z_tuple : PySem.W.nsIn K mainGlobals "tuple" = some none) (z_set : PySem.W.nsIn K mainGlobals "set" = some none) (z_min : PySem.W.nsIn K mainGlobals "min" = some none) (z_max : PySem.W.nsIn K mainGlobals "max" = some none) (z_sum : PySem.W.nsIn K mainGlobals "sum" = some none) (z_any : PySem.W.nsIn K mainGlobals "any" = some none) (z_all : PySem.W.nsIn K mainGlobals "all" = some none) (z_enumerate : PySem.W.nsIn K mainGlobals "enumerate" = some none) (z_zip : PySem.W.nsIn K mainGlobals "zip" = some none) (z_dict : PySem.W.nsIn K mainGlobals "dict" = some none) (z_int : PySem.W.nsIn K mainGlobals "int" = some none) (z_bool : PySem.W.nsIn K mainGlobals "bool" = some none) (z_str : PySem.W.nsIn K mainGlobals "str" = some none) (z_isinstance : PySem.W.nsIn K mainGlobals "isinstance" = some none) : Bi mg := ⟨PySem.W.mg_none_of X Gm z_len, PySem.W.mg_none_of X Gm z_list, PySem.W.mg_none_of X Gm z_range, PySem.W.mg_none_of X Gm z_sorted, PySem.W.mg_none_of X Gm z_tuple, PySem.W.mg_none_of X Gm z_set, PySem.W.mg_none_of X Gm z_min, PySem.W.mg_none_of X Gm z_max, PySem.W.mg_none_of X Gm z_sum, PySem.W.mg_none_of X Gm z_any, PySem.W.mg_none_of X Gm z_all, PySem.W.mg_none_of X Gm z_enumerate, PySem.W.mg_none_of X Gm z_zip, PySem.W.mg_none_of X Gm z_dict, PySem.W.mg_none_of X Gm z_int, PySem.W.mg_none_of X Gm z_bool, PySem.W.mg_none_of X Gm z_str, PySem.W.mg_none_of X Gm z_isinstance⟩
theorem tx_of {t1 t2 t3 t4 : Tok} (X : K.In h) (Gm : h.Ns mainGlobals mg) (b : Bi mg) (hC : mg "Found" = some (.ref C)) (n1 : PySem.W.nsIn K mainGlobals "FARTHEST" = some (some (.int 1000000 t1))) (n2 : PySem.W.nsIn K mainGlobals "MOST_HOLDS" = some (some (.int 30 t2))) (n3 : PySem.W.nsIn K mainGlobals "MOST_OPENINGS" = some (some (.int 40 t3))) (n4 : PySem.W.nsIn K mainGlobals "MOST_THINGS" = some (some (.int 30 t4)))
    (pg : PySem.W.plainGet K C Str.empty = true) (hd : PySem.W.hasDictIn K C = true) (po : PySem.W.plainOver K C = true) (sa : PySem.W.findIn K (.ref C) "__setattr__" = some (some (.builtin "object.__setattr__"))) (a1 : PySem.W.findIn K (.ref C) "spots" = some none) (a2 : PySem.W.findIn K (.ref C) "rings" = some none) (a3 : PySem.W.findIn K (.ref C) "areas" = some none) (a4 : PySem.W.findIn K (.ref C) "lines" = some none) (a5 : PySem.W.findIn K (.ref C) "ring_by" = some none) : Tx K mg C :=
  ⟨b, ⟨_, PySem.W.mg_of X Gm n1⟩, ⟨_, PySem.W.mg_of X Gm n2⟩, ⟨_, PySem.W.mg_of X Gm n3⟩, ⟨_, PySem.W.mg_of X Gm n4⟩, ⟨pg, hd, po, sa⟩, fun f hf => by
    rcases hf with rfl | rfl | rfl | rfl | rfl
    · exact a1
    · exact a2
    · exact a3
    · exact a4
    · exact a5⟩
theorem st1 {x : Str} {Z : Prop} (X : K.In h) (Gm : h.Ns mainGlobals mg) (a : PySem.W.nsIn K mainGlobals x = some (some (.ref C))) (r : mg x = some (.ref C) → Z) : Z := r (PySem.W.mg_of X Gm a)
theorem kont {A Z : Prop} (a : A) (r : A → Z) : Z := r a
abbrev AOf {x : Str} (_ : mg x = some (.ref C)) : Addr := C
theorem kd_of {x : Str} {i : Int} {es : Array DictEntry} {n : Nat} {t : Tok} (X : K.In h) (hax : mg "AXES" = some (.ref ax)) (l : K.lookup ax = some ⟨.type "dict", none, .dict es n, #[]⟩) (a : PySem.W.nsIn K ax x = some (some (.int i t))) (lit : PySem.W.KeysLit w.params es.toList) : KDct K w ax x (.int i) := ⟨es, n, _, l, lit, a, t, rfl⟩
theorem te_of {cc : _} (s1 : PySem.W.subIn K (.ref CN) (.type "BaseException") = some true) (s2 : PySem.W.clsIn K CN = some cc) (s3 : PySem.W.typeIn K (.ref CN) = some (.type "type")) (s4 : PySem.W.subIn K (.ref CN) (.ref CN) = some true) : PySem.W.exmOne K (.ref CN) (.ref CN) = some true := by
  unfold PySem.W.exmOne PySem.W.kitCls
  rw [s1, if_pos (by rfl)]
  dsimp only
  rw [s2, s3, s4, if_pos (by rfl)]
theorem er_of {cc : _} {nm q : _} {N : _} {bs bm : _} {sn sub ab col dd k0 k1 k2 k3 k5 : _} (X : K.In h) (hP : mg "PlanError" = some (.ref CP)) (hN : mg "NoThing" = some (.ref CN)) (rP : PySem.W.readsIn K CP (.type "type") = true) (sP : PySem.W.specialIn K (.ref CP) "__getattribute__" = some (some (.builtin "type.__getattribute__"))) (vP : PySem.W.findCls K (.ref CP) (.type "type") "__init__" = some (.val (.builtin "ValueError.__init__")))
    (l : K.lookup CN = some (excClassObj nm q CN N bs bm true sn sub ab col dd k0 k1 k2 k3 k5 "ValueError.__new__")) (sa : PySem.W.findIn K (.ref CN) "__setattr__" = some (some (.builtin "object.__setattr__"))) (s1 : PySem.W.subIn K (.ref CN) (.type "BaseException") = some true) (s3 : PySem.W.typeIn K (.ref CN) = some (.type "type")) (kC : PySem.W.keepIn K (.ref CN) = true)
    (nmn : PySem.W.findIn K (.ref CN) "name" = some none) (s2 : PySem.W.clsIn K CN = some cc) (s4 : PySem.W.subIn K (.ref CN) (.ref CN) = some true) (bm_ : PySem.HandSPX.refsVE bm = true) : Er K mg CP CN :=
  ⟨hP, rP, sP, vP, hN, ⟨⟨nm, q, N, bs, bm, sn, sub, ab, col, dd, k0, k1, k2, k3, k5, l, bm_⟩, sa, s1, s3, kC⟩, nmn, te_of s1 s2 s3 s4⟩
theorem sp_of {H : Hp} {a : Addr} {ns : List Int} (hS : SqL K H a (ns.map V.int)) : spG (c_law K) [.ref a] H (fun v _ => v = .bl true) fun _ _ _ => False :=
  ⟨H, [.ab (scriptM K ns)], [], fun d _ => d = B true, ⟨.refl _, fun q hq => (by cases hq), List.nodup_nil⟩, .cons ⟨a, rfl, hS⟩ .nil, ⟨ns, rfl, rfl, fun F n => rfl⟩, fun v d Ω' H0' H' e _ _ r => by
    subst e
    cases r; rfl⟩
theorem walk {l : PySem.W.OpenLaw} {q : Program} {loose : List Str} {XP : (Str → Option Value) → Heap → Prop} {YP : World → Heap → Prop} {d : DefRec} {K : Params → PySem.W.Frag} (hn : l.most = some 63) (hdf : d.params.defaults = [])
    (hY : ∀ (w : World) (h : Heap), YP w h → (K w.params).In h)
    (F : ∀ (w : World) (mg : Str → Option Value) (fa : Addr) (h : Heap), (K w.params).In h → h.Ns mainGlobals mg → mg d.name = some (.ref fa) →
      ∃ fd : FuncData, (∀ (s : Shared) (u : Value), BindsTo s fd ⟨[u], []⟩ [("_law_script", u)]) ∧ ∀ base : Heap, (K w.params).In base → base.Ns mainGlobals mg → FnOk l.prog w (K w.params) mg base CX0 12 fa fd ["_law_script"] (spG (c_law (K w.params)))) :
    PySem.W.WalkO q loose XP YP l.row.toRowW d [] (fun f vs => PySem.call f vs) :=
  L2.walk_of (n := 63) (k := 12) (x := "_law_script") (CX := fun _ => CX0) (sp := fun w => spG (c_law (K w.params))) hn (by decide) hdf ⟨rfl, by decide, by decide⟩ hY F (fun _ _ a ns hl _ hS => sp_of hS) fun _ _ _ _ _ z => z
end
end My
end

set_option Elab.async false
open PySem PySem.W PyProof.Rows
set_option maxRecDepth 100000 in
set_option maxHeartbeats 0 in
theorem PySem.Challenge.cw_wallplan_k61_whole_what_fits_is_put_holds : PySem.Challenge.rw_wallplan_k61_whole_what_fits_is_put.Holds := by
  w_on; o_law; k_head; (case hw => w_witness2)
  k_fill
  refine My.walk (l := PySem.Challenge.rw_wallplan_k61_whole_what_fits_is_put) rfl rfl (fun w h Y => PySem.W.kIn_of Y) ?F
  case F =>
    intro w mg fa h KX Gm hmg
    refine' My.kont (My.bi_of KX Gm ?z_len_1 ?z_list_1 ?z_range_1 ?z_sorted_1 ?z_tuple_1 ?z_set_1 ?z_min_1 ?z_max_1 ?z_sum_1 ?z_any_1 ?z_all_1 ?z_enumerate_1 ?z_zip_1 ?z_dict_1 ?z_int_1 ?z_bool_1 ?z_str_1 ?z_isinstance_1) ?r_1
    (case z_len_1 => k_is)
    (case z_list_1 => k_is)
    (case z_range_1 => k_is)
    (case z_sorted_1 => k_is)
    (case z_tuple_1 => k_is)
    (case z_set_1 => k_is)
    (case z_min_1 => k_is)
    (case z_max_1 => k_is)
    (case z_sum_1 => k_is)
    (case z_any_1 => k_is)
    (case z_all_1 => k_is)
    (case z_enumerate_1 => k_is)
    (case z_zip_1 => k_is)
    (case z_dict_1 => k_is)
    (case z_int_1 => k_is)
    (case z_bool_1 => k_is)
    (case z_str_1 => k_is)
    (case z_isinstance_1 => k_is)
    intro b
    refine' My.st1 (x := "Found") KX Gm ?a_2 ?r_2
    (case a_2 => k_is)
    intro hC
    refine' My.st1 (x := "PlanError") KX Gm ?a_3 ?r_3
    (case a_3 => k_is)
    intro hP
    refine' My.st1 (x := "NoThing") KX Gm ?a_4 ?r_4
    (case a_4 => k_is)
    intro hN
    refine' My.st1 (x := "AXES") KX Gm ?a_5 ?r_5
    (case a_5 => k_is)
    intro hax
    refine' My.kont (My.tx_of KX Gm b hC ?n1_6 ?n2_6 ?n3_6 ?n4_6 ?pg_6 ?hd_6 ?po_6 ?sa_6 ?a1_6 ?a2_6 ?a3_6 ?a4_6 ?a5_6) ?r_6
    (case n1_6 => k_is)
    (case n2_6 => k_is)
    (case n3_6 => k_is)
    (case n4_6 => k_is)
    (case pg_6 => k_is)
    (case hd_6 => k_is)
    (case po_6 => k_is)
    (case sa_6 => k_is)
    (case a1_6 => k_is)
    (case a2_6 => k_is)
    (case a3_6 => k_is)
    (case a4_6 => k_is)
    (case a5_6 => k_is)
    intro T
    refine' My.kont (My.kd_of (x := "x") (i := 0) KX hax ?klx ?kax ?ktx) ?krx
    (case klx => k_is)
    (case kax => k_is)
    (case ktx => exact ⟨⟨_, _, rfl, rfl⟩, ⟨_, _, rfl, rfl⟩, trivial⟩)
    intro hx
    refine' My.kont (My.kd_of (x := "y") (i := 1) KX hax ?kly ?kay ?kty) ?kry
    (case kly => k_is)
    (case kay => k_is)
    (case kty => exact ⟨⟨_, _, rfl, rfl⟩, ⟨_, _, rfl, rfl⟩, trivial⟩)
    intro hy
    refine' My.kont (My.er_of KX hP hN ?e_rP ?e_sP ?e_vP ?e_l ?e_sa ?e_s1 ?e_s3 ?e_kC ?e_nmn ?e_s2 ?e_s4 ?e_bm) ?e_r
    (case e_rP => k_is)
    (case e_sP => k_is)
    (case e_vP => k_is)
    (case e_l => k_is)
    (case e_sa => k_is)
    (case e_s1 => k_is)
    (case e_s3 => k_is)
    (case e_kC => k_is)
    (case e_nmn => k_is)
    (case e_s2 => k_is)
    (case e_s4 => k_is)
    (case e_bm => rfl)
    intro R
    refine' My.kont (My.df_NoThing KX hN ?a_7 ?i_7 ?l_7 ?c_7 ?k_7) ?r_7
    (case a_7 => k_is)
    (case i_7 => k_is)
    (case l_7 => k_is)
    (case c_7 => k_is)
    (case k_7 => k_is)
    intro D0
    refine' My.kont (My.df__law_draw KX Gm ?a_8 ?l_8 ?c_8 ?k_8) ?r_8
    (case a_8 => k_is)
    (case l_8 => k_is)
    (case c_8 => k_is)
    (case k_8 => k_is)
    intro d__law_draw
    refine' My.kont (My.df__law_feed KX Gm ?a_9 ?l_9 ?c_9 ?k_9) ?r_9
    (case a_9 => k_is)
    (case l_9 => k_is)
    (case c_9 => k_is)
    (case k_9 => k_is)
    intro d__law_feed
    refine' My.kont (My.df__law_names KX Gm ?a_10 ?l_10 ?c_10 ?k_10) ?r_10
    (case a_10 => k_is)
    (case l_10 => k_is)
    (case c_10 => k_is)
    (case k_10 => k_is)
    intro d__law_names
    refine' My.kont (My.df__law_holds KX Gm ?a_11 ?l_11 ?c_11 ?k_11) ?r_11
    (case a_11 => k_is)
    (case l_11 => k_is)
    (case c_11 => k_is)
    (case k_11 => k_is)
    intro d__law_holds
    refine' My.kont (My.df__law_line KX Gm ?a_12 ?l_12 ?c_12 ?k_12) ?r_12
    (case a_12 => k_is)
    (case l_12 => k_is)
    (case c_12 => k_is)
    (case k_12 => k_is)
    intro d__law_line
    refine' My.kont (My.df__law_links KX Gm ?a_13 ?l_13 ?c_13 ?k_13) ?r_13
    (case a_13 => k_is)
    (case l_13 => k_is)
    (case c_13 => k_is)
    (case k_13 => k_is)
    intro d__law_links
    refine' My.kont (My.df__law_merged KX Gm ?a_14 ?l_14 ?c_14 ?k_14) ?r_14
    (case a_14 => k_is)
    (case l_14 => k_is)
    (case c_14 => k_is)
    (case k_14 => k_is)
    intro d__law_merged
    refine' My.kont (My.df__law_numbers KX Gm ?a_15 ?l_15 ?c_15 ?k_15) ?r_15
    (case a_15 => k_is)
    (case l_15 => k_is)
    (case c_15 => k_is)
    (case k_15 => k_is)
    intro d__law_numbers
    refine' My.kont (My.df__law_net KX Gm ?a_16 ?l_16 ?c_16 ?k_16) ?r_16
    (case a_16 => k_is)
    (case l_16 => k_is)
    (case c_16 => k_is)
    (case k_16 => k_is)
    intro d__law_net
    refine' My.kont (My.df__law_spots_of KX Gm ?a_17 ?l_17 ?c_17 ?k_17) ?r_17
    (case a_17 => k_is)
    (case l_17 => k_is)
    (case c_17 => k_is)
    (case k_17 => k_is)
    intro d__law_spots_of
    refine' My.kont (My.df__law_length KX Gm ?a_18 ?l_18 ?c_18 ?k_18) ?r_18
    (case a_18 => k_is)
    (case l_18 => k_is)
    (case c_18 => k_is)
    (case k_18 => k_is)
    intro d__law_length
    refine' My.kont (My.df__law_openings KX Gm ?a_19 ?l_19 ?c_19 ?k_19) ?r_19
    (case a_19 => k_is)
    (case l_19 => k_is)
    (case c_19 => k_is)
    (case k_19 => k_is)
    intro d__law_openings
    refine' My.kont (My.df__law_meet KX Gm ?a_20 ?l_20 ?c_20 ?k_20) ?r_20
    (case a_20 => k_is)
    (case l_20 => k_is)
    (case c_20 => k_is)
    (case k_20 => k_is)
    intro d__law_meet
    refine' My.kont (My.df__law_oblong KX Gm ?a_21 ?l_21 ?c_21 ?k_21) ?r_21
    (case a_21 => k_is)
    (case l_21 => k_is)
    (case c_21 => k_is)
    (case k_21 => k_is)
    intro d__law_oblong
    refine' My.kont (My.df_sides_of_ring KX Gm ?a_22 ?l_22 ?c_22 ?k_22) ?r_22
    (case a_22 => k_is)
    (case l_22 => k_is)
    (case c_22 => k_is)
    (case k_22 => k_is)
    intro d_sides_of_ring
    refine' My.kont (My.df_spots_of KX Gm ?a_23 ?l_23 ?c_23 ?k_23) ?r_23
    (case a_23 => k_is)
    (case l_23 => k_is)
    (case c_23 => k_is)
    (case k_23 => k_is)
    intro d_spots_of
    refine' My.kont (My.df_area_of KX Gm ?a_24 ?l_24 ?c_24 ?k_24) ?r_24
    (case a_24 => k_is)
    (case l_24 => k_is)
    (case c_24 => k_is)
    (case k_24 => k_is)
    intro d_area_of
    refine' My.kont (My.df_way_from KX Gm ?a_25 ?l_25 ?c_25 ?k_25) ?r_25
    (case a_25 => k_is)
    (case l_25 => k_is)
    (case c_25 => k_is)
    (case k_25 => k_is)
    intro d_way_from
    refine' My.kont (My.df_links_of KX Gm ?a_26 ?l_26 ?c_26 ?k_26) ?r_26
    (case a_26 => k_is)
    (case l_26 => k_is)
    (case c_26 => k_is)
    (case k_26 => k_is)
    intro d_links_of
    refine' My.kont (My.df_way_of KX Gm ?a_27 ?l_27 ?c_27 ?k_27) ?r_27
    (case a_27 => k_is)
    (case l_27 => k_is)
    (case c_27 => k_is)
    (case k_27 => k_is)
    intro d_way_of
    refine' My.kont (My.df_next_side KX Gm ?a_28 ?l_28 ?c_28 ?k_28) ?r_28
    (case a_28 => k_is)
    (case l_28 => k_is)
    (case c_28 => k_is)
    (case k_28 => k_is)
    intro d_next_side
    refine' My.kont (My.df_ring_from KX Gm ?a_29 ?l_29 ?c_29 ?k_29) ?r_29
    (case a_29 => k_is)
    (case l_29 => k_is)
    (case c_29 => k_is)
    (case k_29 => k_is)
    intro d_ring_from
    refine' My.kont (My.df_sides_of KX Gm ?a_30 ?l_30 ?c_30 ?k_30) ?r_30
    (case a_30 => k_is)
    (case l_30 => k_is)
    (case c_30 => k_is)
    (case k_30 => k_is)
    intro d_sides_of
    refine' My.kont (My.df_rings KX Gm ?a_31 ?l_31 ?c_31 ?k_31) ?r_31
    (case a_31 => k_is)
    (case l_31 => k_is)
    (case c_31 => k_is)
    (case k_31 => k_is)
    intro d_rings
    refine' My.kont (My.df_ends_of KX Gm ?a_32 ?l_32 ?c_32 ?k_32) ?r_32
    (case a_32 => k_is)
    (case l_32 => k_is)
    (case c_32 => k_is)
    (case k_32 => k_is)
    intro d_ends_of
    refine' My.kont (My.df_is_upright KX Gm ?a_33 ?l_33 ?c_33 ?k_33) ?r_33
    (case a_33 => k_is)
    (case l_33 => k_is)
    (case c_33 => k_is)
    (case k_33 => k_is)
    intro d_is_upright
    refine' My.kont (My.df_upright_lines KX Gm ?a_34 ?l_34 ?c_34 ?k_34) ?r_34
    (case a_34 => k_is)
    (case l_34 => k_is)
    (case c_34 => k_is)
    (case k_34 => k_is)
    intro d_upright_lines
    refine' My.kont (My.df_init KX hC ?mk_35 ?kc_35 ?a_35 ?i_35 ?l_35 ?c_35 ?k_35) ?r_35
    (case mk_35 => k_is)
    (case kc_35 => k_is)
    (case a_35 => k_is)
    (case i_35 => k_is)
    (case l_35 => k_is)
    (case c_35 => k_is)
    (case k_35 => k_is)
    intro d_init
    refine' My.kont (My.df_wall_west KX Gm ?a_36 ?l_36 ?c_36 ?k_36) ?r_36
    (case a_36 => k_is)
    (case l_36 => k_is)
    (case c_36 => k_is)
    (case k_36 => k_is)
    intro d_wall_west
    refine' My.kont (My.df_side_west_of KX hC ?a_37 ?i_37 ?l_37 ?c_37 ?k_37) ?r_37
    (case a_37 => k_is)
    (case i_37 => k_is)
    (case l_37 => k_is)
    (case c_37 => k_is)
    (case k_37 => k_is)
    intro d_side_west_of
    refine' My.kont (My.df_room_left KX hC ?a_38 ?i_38 ?l_38 ?c_38 ?k_38) ?r_38
    (case a_38 => k_is)
    (case i_38 => k_is)
    (case l_38 => k_is)
    (case c_38 => k_is)
    (case k_38 => k_is)
    intro d_room_left
    refine' My.kont (My.df_room_of_cell KX hC ?a_39 ?i_39 ?l_39 ?c_39 ?k_39) ?r_39
    (case a_39 => k_is)
    (case i_39 => k_is)
    (case l_39 => k_is)
    (case c_39 => k_is)
    (case k_39 => k_is)
    intro d_room_of_cell
    refine' My.kont (My.df_room_rings KX hC ?a_40 ?i_40 ?l_40 ?c_40 ?k_40) ?r_40
    (case a_40 => k_is)
    (case i_40 => k_is)
    (case l_40 => k_is)
    (case c_40 => k_is)
    (case k_40 => k_is)
    intro d_room_rings
    refine' My.kont (My.df_cell_of KX Gm ?a_41 ?l_41 ?c_41 ?k_41) ?r_41
    (case a_41 => k_is)
    (case l_41 => k_is)
    (case c_41 => k_is)
    (case k_41 => k_is)
    intro d_cell_of
    refine' My.kont (My.df_cell_at KX Gm ?a_42 ?l_42 ?c_42 ?k_42) ?r_42
    (case a_42 => k_is)
    (case l_42 => k_is)
    (case c_42 => k_is)
    (case k_42 => k_is)
    intro d_cell_at
    refine' My.kont (My.df__law_things KX Gm ?a_43 ?l_43 ?c_43 ?k_43) ?r_43
    (case a_43 => k_is)
    (case l_43 => k_is)
    (case c_43 => k_is)
    (case k_43 => k_is)
    intro d__law_things
    refine' My.kont (My.df__law_plan KX Gm ?a_44 ?l_44 ?c_44 ?k_44) ?r_44
    (case a_44 => k_is)
    (case l_44 => k_is)
    (case c_44 => k_is)
    (case k_44 => k_is)
    intro d__law_plan
    refine' My.kont (My.df_in_place KX Gm ?a_45 ?l_45 ?c_45 ?k_45) ?r_45
    (case a_45 => k_is)
    (case l_45 => k_is)
    (case c_45 => k_is)
    (case k_45 => k_is)
    intro d_in_place
    refine' My.kont (My.df_is_name KX Gm ?a_46 ?l_46 ?c_46 ?k_46) ?r_46
    (case a_46 => k_is)
    (case l_46 => k_is)
    (case c_46 => k_is)
    (case k_46 => k_is)
    intro d_is_name
    refine' My.kont (My.df_is_whole KX Gm ?a_47 ?l_47 ?c_47 ?k_47) ?r_47
    (case a_47 => k_is)
    (case l_47 => k_is)
    (case c_47 => k_is)
    (case k_47 => k_is)
    intro d_is_whole
    refine' My.kont (My.df_is_spot KX Gm ?a_48 ?l_48 ?c_48 ?k_48) ?r_48
    (case a_48 => k_is)
    (case l_48 => k_is)
    (case c_48 => k_is)
    (case k_48 => k_is)
    intro d_is_spot
    refine' My.kont (My.df_is_thing KX Gm ?a_49 ?l_49 ?c_49 ?k_49) ?r_49
    (case a_49 => k_is)
    (case l_49 => k_is)
    (case c_49 => k_is)
    (case k_49 => k_is)
    intro d_is_thing
    refine' My.kont (My.df_length_of KX Gm ?a_50 ?l_50 ?c_50 ?k_50) ?r_50
    (case a_50 => k_is)
    (case l_50 => k_is)
    (case c_50 => k_is)
    (case k_50 => k_is)
    intro d_length_of
    refine' My.kont (My.df_span_of KX Gm ?a_51 ?l_51 ?c_51 ?k_51) ?r_51
    (case a_51 => k_is)
    (case l_51 => k_is)
    (case c_51 => k_is)
    (case k_51 => k_is)
    intro d_span_of
    refine' My.kont (My.df_are_apart_on KX Gm ?a_52 ?l_52 ?c_52 ?k_52) ?r_52
    (case a_52 => k_is)
    (case l_52 => k_is)
    (case c_52 => k_is)
    (case k_52 => k_is)
    intro d_are_apart_on
    refine' My.kont (My.df_does_stand_alone KX Gm ?a_53 ?l_53 ?c_53 ?k_53) ?r_53
    (case a_53 => k_is)
    (case l_53 => k_is)
    (case c_53 => k_is)
    (case k_53 => k_is)
    intro d_does_stand_alone
    refine' My.kont (My.df_does_stand KX Gm ?a_54 ?l_54 ?c_54 ?k_54) ?r_54
    (case a_54 => k_is)
    (case l_54 => k_is)
    (case c_54 => k_is)
    (case k_54 => k_is)
    intro d_does_stand
    refine' My.kont (My.df_first_fallen KX Gm ?a_55 ?l_55 ?c_55 ?k_55) ?r_55
    (case a_55 => k_is)
    (case l_55 => k_is)
    (case c_55 => k_is)
    (case k_55 => k_is)
    intro d_first_fallen
    refine' My.kont (My.df_along KX Gm ?a_56 ?l_56 ?c_56 ?k_56) ?r_56
    (case a_56 => k_is)
    (case l_56 => k_is)
    (case c_56 => k_is)
    (case k_56 => k_is)
    intro d_along
    refine' My.kont (My.df_stretch KX Gm ?a_57 ?l_57 ?c_57 ?k_57) ?r_57
    (case a_57 => k_is)
    (case l_57 => k_is)
    (case c_57 => k_is)
    (case k_57 => k_is)
    intro d_stretch
    refine' My.kont (My.df_places KX Gm ?a_58 ?l_58 ?c_58 ?k_58) ?r_58
    (case a_58 => k_is)
    (case l_58 => k_is)
    (case c_58 => k_is)
    (case k_58 => k_is)
    intro d_places
    refine' My.kont (My.df_all_places KX Gm ?a_59 ?l_59 ?c_59 ?k_59) ?r_59
    (case a_59 => k_is)
    (case l_59 => k_is)
    (case c_59 => k_is)
    (case k_59 => k_is)
    intro d_all_places
    refine' My.kont (My.df_do_meet KX Gm ?a_60 ?l_60 ?c_60 ?k_60) ?r_60
    (case a_60 => k_is)
    (case l_60 => k_is)
    (case c_60 => k_is)
    (case k_60 => k_is)
    intro d_do_meet
    refine' My.kont (My.df_goes_across KX Gm ?a_61 ?l_61 ?c_61 ?k_61) ?r_61
    (case a_61 => k_is)
    (case l_61 => k_is)
    (case c_61 => k_is)
    (case k_61 => k_is)
    intro d_goes_across
    refine' My.kont (My.df_room_by KX Gm ?a_62 ?l_62 ?c_62 ?k_62) ?r_62
    (case a_62 => k_is)
    (case l_62 => k_is)
    (case c_62 => k_is)
    (case k_62 => k_is)
    intro d_room_by
    refine' My.kont (My.df_first_misfit KX Gm ?a_63 ?l_63 ?c_63 ?k_63) ?r_63
    (case a_63 => k_is)
    (case l_63 => k_is)
    (case c_63 => k_is)
    (case k_63 => k_is)
    intro d_first_misfit
    refine' My.kont (My.df_does_hold KX Gm ?a_64 ?l_64 ?c_64 ?k_64) ?r_64
    (case a_64 => k_is)
    (case l_64 => k_is)
    (case c_64 => k_is)
    (case k_64 => k_is)
    intro d_does_hold
    refine' My.kont (My.df_look_holds KX Gm ?a_65 ?l_65 ?c_65 ?k_65) ?r_65
    (case a_65 => k_is)
    (case l_65 => k_is)
    (case c_65 => k_is)
    (case k_65 => k_is)
    intro d_look_holds
    refine' My.kont (My.df_made KX Gm ?a_66 ?l_66 ?c_66 ?k_66) ?r_66
    (case a_66 => k_is)
    (case l_66 => k_is)
    (case c_66 => k_is)
    (case k_66 => k_is)
    intro d_made
    refine' My.kont (My.df_thing_put KX Gm ?a_67 ?l_67 ?c_67 ?k_67) ?r_67
    (case a_67 => k_is)
    (case l_67 => k_is)
    (case c_67 => k_is)
    (case k_67 => k_is)
    intro d_thing_put
    refine' My.kont (My.df__law_put_at KX Gm ?a_68 ?l_68 ?c_68 ?k_68) ?r_68
    (case a_68 => k_is)
    (case l_68 => k_is)
    (case c_68 => k_is)
    (case k_68 => k_is)
    intro d__law_put_at
    refine' My.kont (My.df__law_spots KX Gm ?a_69 ?l_69 ?c_69 ?k_69) ?r_69
    (case a_69 => k_is)
    (case l_69 => k_is)
    (case c_69 => k_is)
    (case k_69 => k_is)
    intro d__law_spots
    refine' My.kont (My.df_oblongs_of KX Gm ?a_70 ?l_70 ?c_70 ?k_70) ?r_70
    (case a_70 => k_is)
    (case l_70 => k_is)
    (case c_70 => k_is)
    (case k_70 => k_is)
    intro d_oblongs_of
    refine' My.kont (My.df_barred KX Gm ?a_71 ?l_71 ?c_71 ?k_71) ?r_71
    (case a_71 => k_is)
    (case l_71 => k_is)
    (case c_71 => k_is)
    (case k_71 => k_is)
    intro d_barred
    refine' My.kont (My.df_ends_along KX Gm ?a_72 ?l_72 ?c_72 ?k_72) ?r_72
    (case a_72 => k_is)
    (case l_72 => k_is)
    (case c_72 => k_is)
    (case k_72 => k_is)
    intro d_ends_along
    refine' My.kont (My.df_is_barred KX Gm ?a_73 ?l_73 ?c_73 ?k_73) ?r_73
    (case a_73 => k_is)
    (case l_73 => k_is)
    (case c_73 => k_is)
    (case k_73 => k_is)
    intro d_is_barred
    refine' My.kont (My.df_fit KX Gm ?a_74 ?l_74 ?c_74 ?k_74) ?r_74
    (case a_74 => k_is)
    (case l_74 => k_is)
    (case c_74 => k_is)
    (case k_74 => k_is)
    intro d_fit
    refine' My.kont (My.df_room_of KX Gm ?a_75 ?l_75 ?c_75 ?k_75) ?r_75
    (case a_75 => k_is)
    (case l_75 => k_is)
    (case c_75 => k_is)
    (case k_75 => k_is)
    intro d_room_of
    refine' My.kont (My.df__law_right KX Gm ?a_76 ?l_76 ?c_76 ?k_76) ?r_76
    (case a_76 => k_is)
    (case l_76 => k_is)
    (case c_76 => k_is)
    (case k_76 => k_is)
    intro d__law_right
    refine' My.kont (My.df_room_of_rim KX hC ?a_77 ?i_77 ?l_77 ?c_77 ?k_77) ?r_77
    (case a_77 => k_is)
    (case i_77 => k_is)
    (case l_77 => k_is)
    (case c_77 => k_is)
    (case k_77 => k_is)
    intro d_room_of_rim
    refine' My.kont (My.df_rims_in KX hC ?a_78 ?i_78 ?l_78 ?c_78 ?k_78) ?r_78
    (case a_78 => k_is)
    (case i_78 => k_is)
    (case l_78 => k_is)
    (case c_78 => k_is)
    (case k_78 => k_is)
    intro d_rims_in
    refine' My.kont (My.df_room KX hC ?a_79 ?i_79 ?l_79 ?c_79 ?k_79) ?r_79
    (case a_79 => k_is)
    (case i_79 => k_is)
    (case l_79 => k_is)
    (case c_79 => k_is)
    (case k_79 => k_is)
    intro d_room
    refine' My.kont (My.df_rooms KX Gm ?a_80 ?l_80 ?c_80 ?k_80) ?r_80
    (case a_80 => k_is)
    (case l_80 => k_is)
    (case c_80 => k_is)
    (case k_80 => k_is)
    intro d_rooms
    refine' My.kont (My.law_at KX Gm hmg ?w_a ?w_l ?w_c ?w_k) ?w_r
    (case w_a => k_is)
    (case w_l => k_is)
    (case w_c => k_is)
    (case w_k => k_is)
    intro hl
    obtain ⟨fd, hb, d_law⟩ := hl
    exact ⟨fd, hb, fun base _ _ => My.law_ok T hC hax hx hy R D0 d__law_draw d__law_feed d__law_names d__law_holds d__law_line d__law_links d__law_merged d__law_numbers d__law_net d__law_spots_of d__law_length d__law_openings d__law_meet d__law_oblong d_sides_of_ring d_spots_of d_area_of d_way_from d_links_of d_way_of d_next_side d_ring_from d_sides_of d_rings d_ends_of d_is_upright d_upright_lines d_init d_wall_west d_side_west_of d_room_left d_room_of_cell d_room_rings d_cell_of d_cell_at d__law_things d__law_plan d_in_place d_is_name d_is_whole d_is_spot d_is_thing d_length_of d_span_of d_are_apart_on d_does_stand_alone d_does_stand d_first_fallen d_along d_stretch d_places d_all_places d_do_meet d_goes_across d_room_by d_first_misfit d_does_hold d_look_holds d_made d_thing_put d__law_put_at d__law_spots d_oblongs_of d_barred d_ends_along d_is_barred d_fit d_room_of d__law_right d_room_of_rim d_rims_in d_room d_rooms d_law⟩
