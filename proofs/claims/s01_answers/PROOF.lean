import PyProof.Rows.All
import Wide.All
import OpenK.AllK
import Wide.FinOn
import HandS.ForSpec
import HandS.Comp
import HandS.Iter
import HandS.Walk
import HandS.Wide
import HandS.Deep
import HandS.SortRule
import HandS.Zip
import HandS.NoneIn
import HandS.More
import PyProof.EqAt
import PyProof.EqKinds
import PyProof.TupleCall
import HandS.ExcSuper
import HandS.Style
import HandS.Codes
import PySem.Challenge.RW_stationplans_s01_answers
import HandS.CallLocal
import HandS.Dict
import PyFlatLaws
import Open.SpecLaws
import KE.OsGo
import KE.OsRun
/-! ## Fw -/
set_option Elab.async false
set_option linter.all false
set_option maxRecDepth 100000
set_option maxHeartbeats 2000000
set_option autoImplicit false
/-! Data-level reasoning over the hand layer: plain data D stands for values, Is says how it lies in a heap. -/
namespace Pd
open PySem PySem.Spec PyProof.Rows L2

inductive D where
  | non | bl (b : Bool) | int (i : Int) | tup (xs : List D) | lst (xs : List D) | obj (k : Nat) (a b c : D) | pr (i j : Int) | at_ (p : Addr) (d : D) | sq (xs : List D) | adr (p : Addr)

/-- the attributes of the program's three data classes -/
def n0 : Nat → Str
  | 0 => "servers"
  | 1 => "arrival"
  | _ => "stations"
def n1 : Nat → Str
  | 0 => "rate"
  | 1 => "weight"
  | _ => "target"
def n2 : Nat → Str
  | 0 => "cost"
  | 1 => "options"
  | _ => "limit"

mutual
inductive Is (K : PySem.W.Frag) (C : Nat → Addr) (F : Hp) : V → D → Prop
  | non : Is K C F .non .non
  | bl (b : Bool) : Is K C F (.bl b) (.bl b)
  | int (i : Int) : Is K C F (.int i) (.int i)
  | tup {a : Addr} {vs : List V} {ds : List D} : SqT K F a vs → IsL K C F vs ds → Is K C F (.ref a) (.tup ds)
  | lst {a : Addr} {vs : List V} {ds : List D} : F a = some (.lst vs) → IsL K C F vs ds → Is K C F (.ref a) (.lst ds)
  | obj {a dx : Addr} {k : Nat} {x y z : V} {dx' dy dz : D} : F a = some (.ins (C k) dx [(n0 k, x), (n1 k, y), (n2 k, z)]) → Is K C F x dx' → Is K C F y dy → Is K C F z dz → Is K C F (.ref a) (.obj k dx' dy dz)
  | pr {a : Addr} {i j : Int} : F a = some (.tup [.int i, .int j]) → Is K C F (.ref a) (.pr i j)
  | at_ {a : Addr} {d : D} : Is K C F (.ref a) d → Is K C F (.ref a) (.at_ a d)
  | sq {a : Addr} {vs : List V} {ds : List D} : SqL K F a vs → IsL K C F vs ds → Is K C F (.ref a) (.sq ds)
  | adr {a : Addr} : Is K C F (.ref a) (.adr a)
inductive IsL (K : PySem.W.Frag) (C : Nat → Addr) (F : Hp) : List V → List D → Prop
  | nil : IsL K C F [] []
  | cons {v : V} {vs : List V} {d : D} {ds : List D} : Is K C F v d → IsL K C F vs ds → IsL K C F (v :: vs) (d :: ds)
end

/-- all of H stands in H' -/
def Ex (H H' : Hp) : Prop := ∀ a o, H a = some o → H' a = some o
theorem Ex.refl (H : Hp) : Ex H H := fun _ _ h => h
theorem Ex.trans {H H1 H2 : Hp} (a : Ex H H1) (b : Ex H1 H2) : Ex H H2 := fun x o h => b x o (a x o h)
theorem Ex.new {H : Hp} {p : Addr} {o : HO} (h : H p = none) : Ex H (upd H p o) := fun a u e => by
  rw [upd_ne (ne_of_none e h)]
  exact e
theorem Ex.back {H H' : Hp} (e : Ex H H') {p : Addr} (h : H' p = none) : H p = none := by
  cases q : H p with
  | none => rfl
  | some o =>
    rw [e p o q] at h
    cases h
theorem Ex.rd {H H' : Hp} {a : Addr} {u : HO} (e : Ex H H') (h : Rd H a u) : Rd H' a u := by
  rcases h with h | ⟨o, h⟩
  · exact Or.inl (e a _ h)
  · exact Or.inr ⟨o, e a _ h⟩
theorem Ex.sqT {K : PySem.W.Frag} {H H' : Hp} {a : Addr} {xs : List V} (e : Ex H H') (h : SqT K H a xs) : SqT K H' a xs := by
  rcases h with h | h
  · exact Or.inl (e.rd h)
  · exact Or.inr h
theorem Ex.sqL {K : PySem.W.Frag} {H H' : Hp} {a : Addr} {xs : List V} (e : Ex H H') (h : SqL K H a xs) : SqL K H' a xs := by
  rcases h with h | h
  · exact Or.inl (e.rd h)
  · exact Or.inr h

section
variable {K : PySem.W.Frag} {C : Nat → Addr} {F F' : Hp}
mutual
theorem Is.mono (e : Ex F F') : ∀ {v : V} {d : D}, Is K C F v d → Is K C F' v d
  | _, _, .non => .non
  | _, _, .bl b => .bl b
  | _, _, .int i => .int i
  | _, _, .tup h r => .tup (e.sqT h) (IsL.mono e r)
  | _, _, .lst h r => .lst (e _ _ h) (IsL.mono e r)
  | _, _, .obj h p q r => .obj (e _ _ h) (Is.mono e p) (Is.mono e q) (Is.mono e r)
  | _, _, .pr h => .pr (e _ _ h)
  | _, _, .at_ h => .at_ (Is.mono e h)
  | _, _, .sq h r => .sq (e.sqL h) (IsL.mono e r)
  | _, _, .adr => .adr
theorem IsL.mono (e : Ex F F') : ∀ {vs : List V} {ds : List D}, IsL K C F vs ds → IsL K C F' vs ds
  | _, _, .nil => .nil
  | _, _, .cons h r => .cons (Is.mono e h) (IsL.mono e r)
end
theorem IsL.length : ∀ {vs : List V} {ds : List D}, IsL K C F vs ds → vs.length = ds.length
  | _, _, .nil => rfl
  | _, _, .cons _ r => by rw [List.length_cons, List.length_cons, IsL.length r]
theorem IsL.get : ∀ {vs : List V} {ds : List D} {i : Nat} {v : V}, IsL K C F vs ds → vs[i]? = some v → ∃ d, ds[i]? = some d ∧ Is K C F v d
  | _, _, i, v, .nil, h => by simp at h
  | _, _, 0, v, .cons h _, e => by
    have e' := Option.some.inj e
    subst e'
    exact ⟨_, rfl, h⟩
  | _, _, i + 1, v, .cons _ r, e => by
    obtain ⟨d, h1, h2⟩ := IsL.get (i := i) (v := v) r (by simpa using e)
    exact ⟨d, by simpa using h1, h2⟩
theorem IsL.get' : ∀ {vs : List V} {ds : List D} {i : Nat} {d : D}, IsL K C F vs ds → ds[i]? = some d → ∃ v, vs[i]? = some v ∧ Is K C F v d
  | _, _, i, v, .nil, h => by simp at h
  | _, _, 0, v, .cons h _, e => by
    have e' := Option.some.inj e
    subst e'
    exact ⟨_, rfl, h⟩
  | _, _, i + 1, v, .cons _ r, e => by
    obtain ⟨d, h1, h2⟩ := IsL.get' (i := i) (d := v) r (by simpa using e)
    exact ⟨d, by simpa using h1, h2⟩
theorem IsL.append : ∀ {vs ws : List V} {ds es : List D}, IsL K C F vs ds → IsL K C F ws es → IsL K C F (vs ++ ws) (ds ++ es)
  | _, _, _, _, .nil, s => s
  | _, _, _, _, .cons h r, s => .cons h (IsL.append r s)
theorem IsL.one {v : V} {d : D} (h : Is K C F v d) : IsL K C F [v] [d] := .cons h .nil
theorem IsL.take (n : Nat) : ∀ {vs : List V} {ds : List D}, IsL K C F vs ds → IsL K C F (vs.take n) (ds.take n) := by
  induction n with
  | zero => intro vs ds _; exact .nil
  | succ n ih =>
    intro vs ds h
    cases h with
    | nil => exact .nil
    | cons h r => exact .cons h (ih r)
theorem IsL.drop (n : Nat) : ∀ {vs : List V} {ds : List D}, IsL K C F vs ds → IsL K C F (vs.drop n) (ds.drop n) := by
  induction n with
  | zero => intro vs ds h; exact h
  | succ n ih =>
    intro vs ds h
    cases h with
    | nil => exact .nil
    | cons h r => exact ih r
theorem IsL.dropLast {vs : List V} {ds : List D} (h : IsL K C F vs ds) : IsL K C F vs.dropLast ds.dropLast := by
  rw [List.dropLast_eq_take, List.dropLast_eq_take, h.length]
  exact h.take _
theorem IsL.eraseIdx : ∀ {vs : List V} {ds : List D} (i : Nat), IsL K C F vs ds → IsL K C F (vs.eraseIdx i) (ds.eraseIdx i)
  | _, _, _, .nil => .nil
  | _, _, 0, .cons _ r => r
  | _, _, i + 1, .cons h r => .cons h (IsL.eraseIdx i r)
theorem IsL.ints : ∀ {vs : List V} (ns : List Int), IsL K C F vs (ns.map D.int) → vs = ns.map V.int
  | _, [], .nil => rfl
  | _, n :: ns, .cons h r => by
    cases h
    rw [IsL.ints ns r]
    rfl
theorem IsL.of_ints : ∀ (ns : List Int), IsL K C F (ns.map V.int) (ns.map D.int)
  | [] => .nil
  | n :: ns => .cons (.int n) (IsL.of_ints ns)
end

/-! ### growing: new things alone -/
structure Gr (F H F' H' : Hp) : Prop where
  f : Ex F F'
  h : Ex H H'
  fh : Ex F' H'
  nw : ∀ a, F a = none → H a ≠ none → F' a = none
theorem Gr.refl {F H : Hp} (fh : Ex F H) : Gr F H F H := ⟨Ex.refl _, Ex.refl _, fh, fun _ h _ => h⟩
theorem Gr.trans {F H F1 H1 F2 H2 : Hp} (a : Gr F H F1 H1) (b : Gr F1 H1 F2 H2) : Gr F H F2 H2 :=
  ⟨a.f.trans b.f, a.h.trans b.h, b.fh, fun x h1 h2 => b.nw x (a.nw x h1 h2) fun z => h2 (a.h.back z)⟩
/-- a new object is laid, and known for good -/
theorem Gr.lay {F H : Hp} {p : Addr} {o : HO} (fh : Ex F H) (h : H p = none) : Gr F H (upd F p o) (upd H p o) where
  f := Ex.new (fh.back h)
  h := Ex.new h
  fh := fun a u e => by
    by_cases q : a = p
    · subst q
      rw [upd_same] at e ⊢
      exact e
    · rw [upd_ne q] at e ⊢
      exact fh a u e
  nw := fun a h1 h2 => by
    have q : a ≠ p := fun z => by
      subst z
      exact h2 h
    rw [upd_ne q]
    exact h1
/-- a new object is laid, not known yet -/
theorem Gr.lay0 {F H : Hp} {p : Addr} {o : HO} (fh : Ex F H) (h : H p = none) : Gr F H F (upd H p o) where
  f := Ex.refl _
  h := Ex.new h
  fh := fun a u e => by
    rw [upd_ne (ne_of_none (fh a u e) h)]
    exact fh a u e
  nw := fun a h1 h2 => h1
/-- an object that is not known yet becomes known -/
theorem Gr.know {F H F' H' : Hp} {p : Addr} {o : HO} (g : Gr F H F' H') (fh : Ex F H) (h : H p = none) (h' : F' p = none) (e : H' p = some o) : Gr F H (upd F' p o) H' where
  f := fun a u q => by
    rw [upd_ne (ne_of_none (fh a u q) h)]
    exact g.f a u q
  h := g.h
  fh := fun a u q => by
    by_cases z : a = p
    · subst z
      rw [upd_same] at q
      rw [e]
      exact q
    · rw [upd_ne z] at q
      exact g.fh a u q
  nw := fun a h1 h2 => by
    have z : a ≠ p := fun z => by
      subst z
      exact h2 h
    rw [upd_ne z]
    exact g.nw a h1 h2

/-! ### slots -/
inductive Sd where
  | any | dat (d : D) | own (ds : List D)

section
variable (K : PySem.W.Frag) (C : Nat → Addr)
/-- what is known between two expressions: F of the heap H is known for good; dat: the slot holds this datum; own: it holds a list that nobody else holds -/
structure Ok (δ : List Sd) (F : Hp) (σ : L2.St) (H : Hp) : Prop where
  fh : Ex F H
  len : σ.length = δ.length
  dat : ∀ (i : Nat) (d : D), δ[i]? = some (Sd.dat d) → ∃ v, σ[i]? = some (some v) ∧ Is K C F v d
  own : ∀ (i : Nat) (ds : List D), δ[i]? = some (Sd.own ds) → ∃ (p : Addr) (vs : List V), σ[i]? = some (some (V.ref p)) ∧ H p = some (.lst vs) ∧ F p = none ∧ IsL K C F vs ds
  sep : ∀ (i j : Nat) (p : Addr) (ds es : List D), δ[i]? = some (Sd.own ds) → δ[j]? = some (Sd.own es) → σ[i]? = some (some (V.ref p)) → σ[j]? = some (some (V.ref p)) → i = j
/-- an expression's value; a new list; a test's; arguments; an optional part; an error -/
def ED (te : TE) (δ : List Sd) (d : D) : Prop := ∀ F σ H (Q : VK), Ok K C δ F σ H → (∀ v F' H', Gr F H F' H' → Is K C F' v d → Q v H') → te σ H Q
def EL (te : TE) (δ : List Sd) (ds : List D) : Prop := ∀ F σ H (Q : VK), Ok K C δ F σ H → (∀ p vs F' H', Gr F H F' H' → H p = none → H' p = some (.lst vs) → F' p = none → IsL K C F' vs ds → Q (.ref p) H') → te σ H Q
def TD (tt : TT) (δ : List Sd) (b : Bool) : Prop := ∀ F σ H (Q : Bool → Hp → Prop), Ok K C δ F σ H → (∀ F' H', Gr F H F' H' → Q b H') → tt σ H Q
def AD (ta : TA) (δ : List Sd) (ds : List D) : Prop := ∀ F σ H (Q : List V → Hp → Prop), Ok K C δ F σ H → (∀ vs F' H', Gr F H F' H' → IsL K C F' vs ds → Q vs H') → ta σ H Q
def OD (to : TO) (δ : List Sd) (o : Option Int) : Prop := ∀ F σ H (Q : Option Int → Hp → Prop), Ok K C δ F σ H → (∀ F' H', Gr F H F' H' → Q o H') → to σ H Q
/-- an operation on values, a call on values -/
def RD (r : R2) (x y z : D) : Prop := ∀ F H vx vy (Q : VK), Ex F H → Is K C F vx x → Is K C F vy y → (∀ v F' H', Gr F H F' H' → Is K C F' v z → Q v H') → r vx vy H Q
def CD (r : List V → Hp → VK → Prop) (xs : List D) (z : D) : Prop := ∀ F H vs (Q : VK), Ex F H → IsL K C F vs xs → (∀ v F' H', Gr F H F' H' → Is K C F' v z → Q v H') → r vs H Q
end

section
variable {K : PySem.W.Frag} {C : Nat → Addr} {δ : List Sd} {F F' H H' : Hp} {σ : L2.St}
theorem Ok.gr (o : Ok K C δ F σ H) (g : Gr F H F' H') : Ok K C δ F' σ H' where
  fh := g.fh
  len := o.len
  dat := fun i d e => by
    obtain ⟨v, h1, h2⟩ := o.dat i d e
    exact ⟨v, h1, h2.mono g.f⟩
  own := fun i ds e => by
    obtain ⟨p, vs, h1, h2, h3, h4⟩ := o.own i ds e
    exact ⟨p, vs, h1, g.h _ _ h2, g.nw _ h3 (by rw [h2]; simp), h4.mono g.f⟩
  sep := o.sep
variable {te ta tb : TE} {d x y z : D} {ds : List D}
theorem EL.ed (h : EL K C te δ ds) : ED K C te δ (.lst ds) := fun F σ H Q o q => h F σ H Q o fun p vs F' H' g hp e n r =>
  q (.ref p) (upd F' p (.lst vs)) H' (g.know o.fh hp n e) (.lst upd_same (r.mono (Ex.new n)))
theorem ED.is {d' : D} (h : ED K C te δ d) (e : d = d') : ED K C te δ d' := e ▸ h
theorem TD.is {t : TT} {b b' : Bool} (h : TD K C t δ b) (e : b = b') : TD K C t δ b' := e ▸ h
theorem EL.is {ds' : List D} (h : EL K C te δ ds) (e : ds = ds') : EL K C te δ ds' := e ▸ h
theorem ed_var {i : Nat} (h : δ[i]? = some (Sd.dat d)) : ED K C (tVar i) δ d := fun F σ H Q o q => by
  obtain ⟨v, h1, h2⟩ := o.dat i d h
  exact ⟨v, h1, q v F H (.refl o.fh) h2⟩
theorem ed_int {i : Int} : ED K C (tC (.int i)) δ (.int i) := fun F _ H _ o q => q _ F H (.refl o.fh) (.int i)
theorem ed_bl {b : Bool} : ED K C (tC (.bl b)) δ (.bl b) := fun F _ H _ o q => q _ F H (.refl o.fh) (.bl b)
theorem ed_non : ED K C (tC .non) δ .non := fun F _ H _ o q => q _ F H (.refl o.fh) .non
/-- a tuple of ints of the written part -/
theorem ed_ktup {a : Addr} {ns : List Int} (h : ∀ H, SqT K H a (ns.map V.int)) : ED K C (tC (.ref a)) δ (.tup (ns.map D.int)) := fun F _ H _ o q => q _ F H (.refl o.fh) (.tup (h F) (.of_ints ns))
theorem ed_op {r : R2} (ha : ED K C ta δ x) (hb : ED K C tb δ y) (hr : RD K C r x y z) : ED K C (tOp r ta tb) δ z := fun F σ H Q o q =>
  ha F σ H _ o fun v F1 H1 g1 i1 => hb F1 σ H1 _ (o.gr g1) fun w F2 H2 g2 i2 => hr F2 H2 v w Q g2.fh (i1.mono g2.f) i2 fun u F3 H3 g3 i3 => q u F3 H3 ((g1.trans g2).trans g3) i3
theorem ed_un {i : Int} {g : Int → V} {e : Int} (ha : ED K C ta δ (.int i)) (he : g i = .int e) : ED K C (tUn (rU g) ta) δ (.int e) := fun F σ H Q o q =>
  ha F σ H _ o fun v F1 H1 g1 i1 => by
    cases i1
    exact ⟨i, rfl, by rw [he]; exact q _ F1 H1 g1 (.int e)⟩
theorem ed_fld {k : Nat} {a b c : D} {f : Str} (h : ED K C te δ (.obj k a b c)) (hc : Cls K (C k)) (hn : NoAttr K (C k) f)
    (hl : (f = n0 k ∧ d = a) ∨ (f = n1 k ∧ n1 k ≠ n0 k ∧ d = b) ∨ (f = n2 k ∧ n2 k ≠ n0 k ∧ n2 k ≠ n1 k ∧ d = c)) : ED K C (tFld K te f) δ d := fun F σ H Q o q =>
  h F σ H _ o fun v F1 H1 g1 i1 => by
    cases i1 with
    | obj e p1 p2 p3 =>
      rename_i a' dx x y z
      rcases hl with ⟨rfl, rfl⟩ | ⟨rfl, h1, rfl⟩ | ⟨rfl, h1, h2, rfl⟩
      · exact ⟨a', C k, dx, _, x, rfl, g1.fh _ _ e, hc, hn, by simp [List.lookup], q _ F1 H1 g1 p1⟩
      · exact ⟨a', C k, dx, _, y, rfl, g1.fh _ _ e, hc, hn, by
          have z1 : (n1 k == n0 k) = false := by simpa using h1
          simp [List.lookup, z1], q _ F1 H1 g1 p2⟩
      · exact ⟨a', C k, dx, _, z, rfl, g1.fh _ _ e, hc, hn, by
          have z1 : (n2 k == n0 k) = false := by simpa using h1
          have z2 : (n2 k == n1 k) = false := by simpa using h2
          simp [List.lookup, z1, z2], q _ F1 H1 g1 p3⟩
theorem ad_nil : AD K C tNil δ [] := fun F _ H _ o q => q [] F H (.refl o.fh) .nil
theorem ad_cons {t : TA} (h : ED K C te δ d) (hr : AD K C t δ ds) : AD K C (tCons te t) δ (d :: ds) := fun F σ H Q o q =>
  h F σ H _ o fun v F1 H1 g1 i1 => hr F1 σ H1 _ (o.gr g1) fun vs F2 H2 g2 i2 => q (v :: vs) F2 H2 (g1.trans g2) (.cons (i1.mono g2.f) i2)
theorem ed_tup {t : TA} (h : AD K C t δ ds) (hl : ds.length ≤ 1000) : ED K C (tTup t) δ (.tup ds) := fun F σ H Q o q =>
  h F σ H _ o fun vs F1 H1 g1 i1 => ⟨by rw [i1.length]; exact Nat.le_trans hl (by decide), fun p hp => q _ _ _ (g1.trans (.lay g1.fh hp)) (.tup (.of upd_same) (i1.mono (Ex.new (g1.fh.back hp))))⟩
theorem ed_pr {t : TA} {i j : Int} (h : AD K C t δ [.int i, .int j]) : ED K C (tTup t) δ (.pr i j) := fun F σ H Q o q =>
  h F σ H _ o fun vs F1 H1 g1 i1 => ⟨by rw [i1.length]; show 2 ≤ sizeLine; decide, fun p hp => by
    cases i1 with
    | cons a b =>
      cases b with
      | cons b c =>
        cases c
        cases a
        cases b
        exact q _ _ _ (g1.trans (.lay g1.fh hp)) (.pr upd_same)⟩
theorem el_lst {t : TA} (h : AD K C t δ ds) (hl : ds.length ≤ 1000) : EL K C (tLst t) δ ds := fun F σ H Q o q =>
  h F σ H _ o fun vs F1 H1 g1 i1 => ⟨by rw [i1.length]; exact Nat.le_trans hl (by decide), fun p hp => q p vs F1 _ (g1.trans (.lay0 g1.fh hp)) (g1.h.back hp) upd_same (g1.fh.back hp) i1⟩
theorem ed_lst {t : TA} (h : AD K C t δ ds) (hl : ds.length ≤ 1000) : ED K C (tLst t) δ (.lst ds) := (el_lst h hl).ed
theorem ed_cb {r : List V → Hp → VK → Prop} {t : TA} (h : AD K C t δ ds) (hr : CD K C r ds z) : ED K C (tCB r t) δ z := fun F σ H Q o q =>
  h F σ H _ o fun vs F1 H1 g1 i1 => hr F1 H1 vs Q g1.fh i1 fun v F2 H2 g2 i2 => q v F2 H2 (g1.trans g2) i2
theorem od_none : OD K C tNoPart δ none := fun F _ H _ o q => q F H (.refl o.fh)
theorem od_some {i : Int} (h : ED K C te δ (.int i)) : OD K C (tPart te) δ (some i) := fun F σ H Q o q =>
  h F σ H _ o fun v F1 H1 g1 i1 => by
    cases i1
    exact ⟨i, rfl, q F1 H1 g1⟩
/-- the cut of a list -/
def cutD (xs : List D) (lo hi : Option Int) : List D := (xs.drop (HT.sIx xs.length 0 lo)).take (HT.sIx xs.length xs.length hi - HT.sIx xs.length 0 lo)
theorem el_sl {tl th : TO} {lo hi : Option Int} (h : ED K C te δ (.lst ds)) (h1 : OD K C tl δ lo) (h2 : OD K C th δ hi) : EL K C (tSl (rSlL K) te tl th) δ (cutD ds lo hi) := fun F σ H Q o q =>
  h F σ H _ o fun v F1 H1 g1 i1 => h1 F1 σ H1 _ (o.gr g1) fun F2 H2 g2 => h2 F2 σ H2 _ ((o.gr g1).gr g2) fun F3 H3 g3 => by
    have i3 := i1.mono (g2.f.trans g3.f)
    cases i3 with
    | lst e r =>
      rename_i a vs
      refine ⟨a, vs, rfl, .of (g3.fh _ _ e), fun p hp => q p _ F3 _ (((g1.trans g2).trans g3).trans (.lay0 g3.fh hp)) (((g1.trans g2).trans g3).h.back hp) upd_same (g3.fh.back hp) ?_⟩
      unfold cutD cutV
      rw [← r.length]
      exact (r.drop _).take _
theorem el_slSq {tl th : TO} {lo hi : Option Int} (h : ED K C te δ (.sq ds)) (h1 : OD K C tl δ lo) (h2 : OD K C th δ hi) : EL K C (tSl (rSlL K) te tl th) δ (cutD ds lo hi) := fun F σ H Q o q =>
  h F σ H _ o fun v F1 H1 g1 i1 => h1 F1 σ H1 _ (o.gr g1) fun F2 H2 g2 => h2 F2 σ H2 _ ((o.gr g1).gr g2) fun F3 H3 g3 => by
    have i3 := i1.mono (g2.f.trans g3.f)
    cases i3 with
    | sq e r =>
      rename_i a vs
      refine ⟨a, vs, rfl, g3.fh.sqL e, fun p hp => q p _ F3 _ (((g1.trans g2).trans g3).trans (.lay0 g3.fh hp)) (((g1.trans g2).trans g3).h.back hp) upd_same (g3.fh.back hp) ?_⟩
      unfold cutD cutV
      rw [← r.length]
      exact (r.drop _).take _
theorem ed_if {t : TT} {b : Bool} (h : TD K C t δ b) (h1 : b = true → ED K C ta δ d) (h2 : b = false → ED K C tb δ d) : ED K C (tIf t ta tb) δ d := fun F σ H Q o q =>
  h F σ H _ o fun F1 H1 g1 => by
    cases b with
    | true => exact iteT (h1 rfl F1 σ H1 Q (o.gr g1) fun v F2 H2 g2 i2 => q v F2 H2 (g1.trans g2) i2)
    | false => exact iteF (h2 rfl F1 σ H1 Q (o.gr g1) fun v F2 H2 g2 i2 => q v F2 H2 (g1.trans g2) i2)
theorem ed_andV {a b : Bool} (h1 : ED K C ta δ (.bl a)) (h2 : a = true → ED K C tb δ (.bl b)) : ED K C (tAndV ta tb) δ (.bl (a && b)) := fun F σ H Q o q =>
  h1 F σ H _ o fun v F1 H1 g1 i1 => by
    cases i1
    refine ⟨a, rfl, ?_⟩
    cases a with
    | true => exact iteT (h2 rfl F1 σ H1 Q (o.gr g1) fun v F2 H2 g2 i2 => q v F2 H2 (g1.trans g2) i2)
    | false => exact iteF (q _ F1 H1 g1 (.bl false))
theorem ed_orV {a b : Bool} (h1 : ED K C ta δ (.bl a)) (h2 : a = false → ED K C tb δ (.bl b)) : ED K C (tOrV ta tb) δ (.bl (a || b)) := fun F σ H Q o q =>
  h1 F σ H _ o fun v F1 H1 g1 i1 => by
    cases i1
    refine ⟨a, rfl, ?_⟩
    cases a with
    | true => exact iteT (q _ F1 H1 g1 (.bl true))
    | false => exact iteF (h2 rfl F1 σ H1 Q (o.gr g1) fun v F2 H2 g2 i2 => q v F2 H2 (g1.trans g2) i2)
theorem ed_notV {a : Bool} (h1 : ED K C ta δ (.bl a)) : ED K C (tNotV ta) δ (.bl (!a)) := fun F σ H Q o q =>
  h1 F σ H _ o fun v F1 H1 g1 i1 => by
    cases i1
    exact ⟨a, rfl, q _ F1 H1 g1 (.bl (!a))⟩
theorem ed_chain {r r' : R2} {a b : Bool} {tc : TE} {w : D} (ha : ED K C ta δ x) (hb : ED K C tb δ y) (hr : RD K C r x y (.bl a)) (hc : a = true → ED K C tc δ w) (hr' : a = true → RD K C r' y w (.bl b)) : ED K C (tChain r r' ta tb tc) δ (.bl (a && b)) := fun F σ H Q o q =>
  ha F σ H _ o fun v F1 H1 g1 i1 => hb F1 σ H1 _ (o.gr g1) fun u F2 H2 g2 i2 => hr F2 H2 v u _ g2.fh (i1.mono g2.f) i2 fun s F3 H3 g3 i3 => by
    cases i3
    refine ⟨a, rfl, ?_⟩
    cases a with
    | true =>
      exact iteT (hc rfl F3 σ H3 _ ((o.gr (g1.trans g2)).gr g3) fun s' F4 H4 g4 i4 => hr' rfl F4 H4 u s' Q g4.fh (i2.mono (g3.f.trans g4.f)) i4 fun s5 F5 H5 g5 i5 => q s5 F5 H5 ((((g1.trans g2).trans g3).trans g4).trans g5) i5)
    | false => exact iteF (q _ F3 H3 ((g1.trans g2).trans g3) (.bl false))
/-! tests -/
variable {t u : TT} {a b : Bool}
theorem td_test (h : ED K C te δ (.bl b)) : TD K C (tTest te) δ b := fun F σ H Q o q => h F σ H _ o fun v F1 H1 g1 i1 => by
  cases i1
  exact ⟨b, rfl, q F1 H1 g1⟩
theorem td_B (h : ED K C te δ (.bl b)) : TD K C (tB te) δ b := fun F σ H Q o q => h F σ H _ o fun v F1 H1 g1 i1 => by
  cases i1
  exact ⟨b, rfl, q F1 H1 g1⟩
theorem td_and (h1 : TD K C t δ a) (h2 : a = true → TD K C u δ b) : TD K C (tAnd t u) δ (a && b) := fun F σ H Q o q => h1 F σ H _ o fun F1 H1 g1 => by
  cases a with
  | true => exact iteT (h2 rfl F1 σ H1 Q (o.gr g1) fun F2 H2 g2 => q F2 H2 (g1.trans g2))
  | false => exact iteF (q F1 H1 g1)
theorem td_or (h1 : TD K C t δ a) (h2 : a = false → TD K C u δ b) : TD K C (tOr t u) δ (a || b) := fun F σ H Q o q => h1 F σ H _ o fun F1 H1 g1 => by
  cases a with
  | true => exact iteT (q F1 H1 g1)
  | false => exact iteF (h2 rfl F1 σ H1 Q (o.gr g1) fun F2 H2 g2 => q F2 H2 (g1.trans g2))
theorem td_not (h1 : TD K C t δ a) : TD K C (tNot t) δ (!a) := fun F σ H Q o q => h1 F σ H _ o fun F1 H1 g1 => q F1 H1 g1
theorem td_yes : TD K C tYes δ true := fun F σ H Q o q => q F H (.refl o.fh)
end
end Pd

/-! ## Fw2 -/
set_option Elab.async false
set_option linter.all false
set_option maxRecDepth 100000
set_option maxHeartbeats 2000000
set_option autoImplicit false
/-! Data-level reasoning, second part: operations, calls of built-ins, statements, loops, comprehensions. -/
namespace Pd
open PySem PySem.Spec PyProof.Rows L2

/-! ### plain data as PyData -/
mutual
def toPy : D → PyData
  | .non => .none
  | .bl b => .bool b
  | .int i => .int i
  | .tup ds => .tuple (toPyL ds)
  | .lst ds => .list (toPyL ds)
  | .obj _ _ _ _ => .none
  | .at_ _ _ => .none
  | .sq _ => .none
  | .adr _ => .none
  | .pr i j => .tuple [.int i, .int j]
def toPyL : List D → List PyData
  | [] => []
  | d :: ds => toPy d :: toPyL ds
end
/-- no object within, at most n deep -/
inductive Fl : Nat → D → Prop
  | non {n : Nat} : Fl n .non
  | bl {n : Nat} {b : Bool} : Fl n (.bl b)
  | int {n : Nat} {i : Int} : Fl n (.int i)
  | tup {n : Nat} {ds : List D} : (∀ d ∈ ds, Fl n d) → Fl (n + 1) (.tup ds)
  | lst {n : Nat} {ds : List D} : (∀ d ∈ ds, Fl n d) → Fl (n + 1) (.lst ds)
theorem Fl.shape {n : Nat} {d : D} (h : Fl n d) : (toPy d).canLay0 = true ∧ (toPy d).depth ≤ n := by
  induction h with
  | non => exact ⟨rfl, Nat.zero_le _⟩
  | bl => exact ⟨rfl, Nat.zero_le _⟩
  | int => exact ⟨rfl, Nat.zero_le _⟩
  | @tup n ds _ ih =>
    have q : PyData.canLayAll0 (toPyL ds) = true ∧ PyData.depthAll (toPyL ds) ≤ n := by
      induction ds with
      | nil => exact ⟨rfl, Nat.zero_le _⟩
      | cons d ds ih2 =>
        obtain ⟨a1, a2⟩ := ih d (by simp)
        obtain ⟨b1, b2⟩ := ih2 (fun x hx => by rename_i h0; exact h0 x (by simp [hx])) (fun x hx => ih x (by simp [hx]))
        constructor
        · show (PyData.canLay0 (toPy d) && PyData.canLayAll0 (toPyL ds)) = true
          rw [a1, b1]; rfl
        · show max (toPy d).depth (PyData.depthAll (toPyL ds)) ≤ n
          omega
    constructor
    · show PyData.canLay0 (.tuple (toPyL ds)) = true
      simp only [PyData.canLay0]; exact q.1
    · show PyData.depth (.tuple (toPyL ds)) ≤ n + 1
      simp only [PyData.depth]; omega
  | @lst n ds _ ih =>
    have q : PyData.canLayAll0 (toPyL ds) = true ∧ PyData.depthAll (toPyL ds) ≤ n := by
      induction ds with
      | nil => exact ⟨rfl, Nat.zero_le _⟩
      | cons d ds ih2 =>
        obtain ⟨a1, a2⟩ := ih d (by simp)
        obtain ⟨b1, b2⟩ := ih2 (fun x hx => by rename_i h0; exact h0 x (by simp [hx])) (fun x hx => ih x (by simp [hx]))
        constructor
        · show (PyData.canLay0 (toPy d) && PyData.canLayAll0 (toPyL ds)) = true
          rw [a1, b1]; rfl
        · show max (toPy d).depth (PyData.depthAll (toPyL ds)) ≤ n
          omega
    constructor
    · show PyData.canLay0 (.list (toPyL ds)) = true
      simp only [PyData.canLay0]; exact q.1
    · show PyData.depth (.list (toPyL ds)) ≤ n + 1
      simp only [PyData.depth]; omega
theorem Fl.shaped {n : Nat} {d : D} (h : Fl n d) (hn : n ≤ 64) : SeqAt.shaped (toPy d) = true := by
  unfold SeqAt.shaped
  rw [h.shape.1, Bool.true_and]
  exact decide_eq_true (Nat.le_trans h.shape.2 hn)
section
variable {K : PySem.W.Frag} {C : Nat → Addr} {F : Hp}
theorem dpAll_of {H : Hp} : ∀ (ds : List D) (vs : List V), (∀ d ∈ ds, ∀ v, Is K C F v d → Dp K H v (toPy d)) → IsL K C F vs ds → DpAll K H vs (toPyL ds)
  | [], _, _, .nil => .nil
  | d :: ds, _, h, .cons a b => .cons (h d (by simp) _ a) (dpAll_of ds _ (fun x hx => h x (by simp [hx])) b)
theorem Is.dp {H : Hp} (fh : Ex F H) {n : Nat} {d : D} (h : Fl n d) : ∀ {v : V}, Is K C F v d → Dp K H v (toPy d) := by
  induction h with
  | non => intro v i; cases i; exact .non
  | bl => intro v i; cases i; exact .bl _
  | int => intro v i; cases i; exact .int _
  | @tup n ds _ ih =>
    intro v i
    cases i with
    | tup s r => exact .tup (fh.sqT s) (dpAll_of _ _ (fun d hd v iv => ih d hd iv) r)
  | @lst n ds _ ih =>
    intro v i
    cases i with
    | lst s r => exact .lst (.of (fh _ _ s)) (dpAll_of _ _ (fun d hd v iv => ih d hd iv) r)
end
def isNon : D → Bool
  | .non => true
  | _ => false

/-! ### operations on values -/
section
variable {K : PySem.W.Frag} {C : Nat → Addr} {δ : List Sd} {F F' H H' : Hp} {σ : L2.St} {te ta tb : TE} {d x y z : D} {ds es : List D} {r r' : R2} {i j : Int}
theorem rd_I0 {g : Int → Int → Int} : RD K C (rI0 fun i j => .int (g i j)) (.int i) (.int j) (.int (g i j)) := fun F H vx vy Q fh hx hy q => by
  cases hx
  cases hy
  exact ⟨i, j, rfl, rfl, q _ F H (.refl fh) (.int _)⟩
theorem rd_B0 {g : Int → Int → Bool} : RD K C (rI0 fun i j => .bl (g i j)) (.int i) (.int j) (.bl (g i j)) := fun F H vx vy Q fh hx hy q => by
  cases hx
  cases hy
  exact ⟨i, j, rfl, rfl, q _ F H (.refl fh) (.bl _)⟩
theorem rd_I {g : Int → Int → Int} {P : Int → Int → Prop} (h : P i j) : RD K C (rI P fun i j => .int (g i j)) (.int i) (.int j) (.int (g i j)) := fun F H vx vy Q fh hx hy q => by
  cases hx
  cases hy
  exact ⟨i, j, rfl, rfl, h, q _ F H (.refl fh) (.int _)⟩
theorem rd_l (h : RD K C r x y z) : RD K C (fun x y H Q => r x y H Q ∨ r' x y H Q) x y z := fun F H vx vy Q fh hx hy q => .inl (h F H vx vy Q fh hx hy q)
theorem rd_r (h : RD K C r' x y z) : RD K C (fun x y H Q => r x y H Q ∨ r' x y H Q) x y z := fun F H vx vy Q fh hx hy q => .inr (h F H vx vy Q fh hx hy q)
theorem rd_cat (h : ds.length + es.length ≤ 1000000) : RD K C rCat (.lst ds) (.lst es) (.lst (ds ++ es)) := fun F H vx vy Q fh hx hy q => by
  cases hx with
  | lst e1 r1 =>
    cases hy with
    | lst e2 r2 =>
      exact ⟨_, _, _, _, rfl, rfl, fh _ _ e1, fh _ _ e2, by rw [r1.length, r2.length]; exact Nat.le_trans h (by decide), fun p hp =>
        q _ _ _ (.lay fh hp) (.lst upd_same ((r1.append r2).mono (Ex.new (fh.back hp))))⟩
theorem at_get {vs : List V} {k : Nat} (r : IsL K C F vs ds) (h : atI ds i = some d) : ∃ v, atI vs i = some v ∧ Is K C F v d := by
  unfold atI at h ⊢
  rw [r.length]
  cases e : ixN ds.length i with
  | none =>
    rw [e] at h
    cases h
  | some k =>
    rw [e] at h
    exact r.get' h
theorem rd_ixL (h : atI ds i = some d) : RD K C (rIxL K) (.lst ds) (.int i) d := fun F H vx vy Q fh hx hy q => by
  cases hx with
  | lst e1 r1 =>
    cases hy
    obtain ⟨v, h1, h2⟩ := at_get (k := 0) r1 h
    exact ⟨_, _, i, v, rfl, rfl, .of (fh _ _ e1), h1, q v F H (.refl fh) h2⟩
theorem rd_ixSq (h : atI ds i = some d) : RD K C (rIxL K) (.sq ds) (.int i) d := fun F H vx vy Q fh hx hy q => by
  cases hx with
  | sq e1 r1 =>
    cases hy
    obtain ⟨v, h1, h2⟩ := at_get (k := 0) r1 h
    exact ⟨_, _, i, v, rfl, rfl, fh.sqL e1, h1, q v F H (.refl fh) h2⟩
theorem rd_ixT (h : atI ds i = some d) : RD K C (rIxT K) (.tup ds) (.int i) d := fun F H vx vy Q fh hx hy q => by
  cases hx with
  | tup e1 r1 =>
    cases hy
    obtain ⟨v, h1, h2⟩ := at_get (k := 0) r1 h
    exact ⟨_, _, i, v, rfl, rfl, fh.sqT e1, h1, q v F H (.refl fh) h2⟩
theorem rd_ix_l (h : atI ds i = some d) : RD K C (rIx K) (.lst ds) (.int i) d := rd_l (rd_ixL h)
theorem rd_ix_sq (h : atI ds i = some d) : RD K C (rIx K) (.sq ds) (.int i) d := rd_l (rd_ixSq h)
theorem rd_ix_t (h : atI ds i = some d) : RD K C (rIx K) (.tup ds) (.int i) d := rd_r (rd_l (rd_ixT h))
/-- an item of a list that is the slot's own -/
theorem ed_ixO {k : Nat} {tb : TE} (h : δ[k]? = some (Sd.own ds)) (hb : ED K C tb δ (.int i)) (ha : atI ds i = some d) : ED K C (tOp (rIx K) (tVar k) tb) δ d := fun F σ H Q o q => by
  obtain ⟨p, vs, h1, h2, h3, h4⟩ := o.own k ds h
  refine ⟨_, h1, ?_⟩
  refine hb F σ H _ o fun v F1 H1 g1 i1 => ?_
  cases i1
  obtain ⟨v, a1, a2⟩ := at_get (k := 0) (h4.mono g1.f) ha
  exact .inl ⟨p, vs, i, v, rfl, rfl, .of (g1.h _ _ h2), a1, q v F1 H1 g1 a2⟩
def rIsN1 : R2 := fun x y H Q => y = .non ∧ Q (.bl (decide (x = .non))) H
def rNotN1 : R2 := fun x y H Q => y = .non ∧ Q (.bl (!decide (x = .non))) H
theorem isNon_is {v : V} (h : Is K C F v d) : decide (v = .non) = isNon d := by
  cases h <;> rfl
theorem rd_isN : RD K C rIsN1 x .non (.bl (isNon x)) := fun F H vx vy Q fh hx hy q => by
  cases hy
  refine ⟨rfl, ?_⟩
  rw [isNon_is hx]
  exact q _ F H (.refl fh) (.bl _)
theorem rd_notN : RD K C rNotN1 x .non (.bl (!isNon x)) := fun F H vx vy Q fh hx hy q => by
  cases hy
  refine ⟨rfl, ?_⟩
  rw [isNon_is hx]
  exact q _ F H (.refl fh) (.bl _)
theorem rd_eqD {n m : Nat} (h1 : Fl n x) (h2 : Fl m y) (hn : n ≤ 64) (hm : m ≤ 64) : RD K C (rEqD K) x y (.bl (PyData.eqv (toPy x) (toPy y))) := fun F H vx vy Q fh hx hy q =>
  ⟨_, _, hx.dp fh h1, hy.dp fh h2, h1.shaped hn, h2.shaped hm, q _ F H (.refl fh) (.bl _)⟩
theorem rd_neD {n m : Nat} (h1 : Fl n x) (h2 : Fl m y) (hn : n ≤ 64) (hm : m ≤ 64) : RD K C (rNeD K) x y (.bl (!PyData.eqv (toPy x) (toPy y))) := fun F H vx vy Q fh hx hy q =>
  ⟨_, _, hx.dp fh h1, hy.dp fh h2, h1.shaped hn, h2.shaped hm, q _ F H (.refl fh) (.bl _)⟩
theorem toPyL_any (p : PyData → Bool) : ∀ ds : List D, (toPyL ds).any p = ds.any fun d => p (toPy d)
  | [] => rfl
  | d :: ds => by
    show (p (toPy d) || (toPyL ds).any p) = (p (toPy d) || ds.any fun d => p (toPy d))
    rw [toPyL_any p ds]
theorem rd_inD {n m : Nat} (h1 : Fl n x) (h2 : Fl m (.lst ds)) (hn : n ≤ 64) (hm : m ≤ 64) : RD K C (rInD K) x (.lst ds) (.bl (ds.any fun z => PyData.eqv (toPy z) (toPy x))) := fun F H vx vy Q fh hx hy q => by
  refine ⟨_, toPyL ds, hx.dp fh h1, hy.dp fh h2, h1.shaped hn, h2.shaped hm, ?_⟩
  rw [toPyL_any]
  exact q _ F H (.refl fh) (.bl _)
/-- own list == [] -/
theorem own_dp {H : Hp} (fh : Ex F H) {n : Nat} {vs : List V} {p : Addr} (h : Fl n (.lst ds)) (e : H p = some (.lst vs)) (r : IsL K C F vs ds) : Dp K H (.ref p) (toPy (.lst ds)) := by
  cases h with
  | lst h => exact .lst (.of e) (dpAll_of _ _ (fun d hd v iv => iv.dp fh (h d hd)) r)
theorem ed_eqO {k n : Nat} {tb : TE} (h : δ[k]? = some (Sd.own ds)) (hf : Fl n (.lst ds)) (hn : n ≤ 64) (hb : ED K C tb δ (.lst [])) : ED K C (tOp (rEqD K) (tVar k) tb) δ (.bl ds.isEmpty) := fun F σ H Q o q => by
  obtain ⟨p, vs, h1, h2, h3, h4⟩ := o.own k ds h
  refine ⟨_, h1, ?_⟩
  refine hb F σ H _ o fun v F1 H1 g1 i1 => ?_
  have e : PyData.eqv (toPy (.lst ds)) (toPy (.lst [])) = ds.isEmpty := by
    show PyData.eqv (.list (toPyL ds)) (.list []) = _
    rw [PyData.eqv]
    cases ds <;> rfl
  refine ⟨_, _, own_dp g1.fh hf (g1.h _ _ h2) (h4.mono g1.f), i1.dp g1.fh (n := 1) (.lst (by simp)), hf.shaped hn, Fl.shaped (n := 1) (.lst (by simp)) (by omega), ?_⟩
  rw [e]
  exact q _ F1 H1 g1 (.bl _)
theorem ed_neO {k n : Nat} {tb : TE} (h : δ[k]? = some (Sd.own ds)) (hf : Fl n (.lst ds)) (hn : n ≤ 64) (hb : ED K C tb δ (.lst [])) : ED K C (tOp (rNeD K) (tVar k) tb) δ (.bl (!ds.isEmpty)) := fun F σ H Q o q => by
  obtain ⟨p, vs, h1, h2, h3, h4⟩ := o.own k ds h
  refine ⟨_, h1, ?_⟩
  refine hb F σ H _ o fun v F1 H1 g1 i1 => ?_
  have e : PyData.eqv (toPy (.lst ds)) (toPy (.lst [])) = ds.isEmpty := by
    show PyData.eqv (.list (toPyL ds)) (.list []) = _
    rw [PyData.eqv]
    cases ds <;> rfl
  refine ⟨_, _, own_dp g1.fh hf (g1.h _ _ h2) (h4.mono g1.f), i1.dp g1.fh (n := 1) (.lst (by simp)), hf.shaped hn, Fl.shaped (n := 1) (.lst (by simp)) (by omega), ?_⟩
  rw [e]
  exact q _ F1 H1 g1 (.bl _)
theorem eqv_nil : PyData.eqv (toPy (.lst ds)) (toPy (.lst [])) = ds.isEmpty := by
  show PyData.eqv (.list (toPyL ds)) (.list []) = _
  rw [PyData.eqv]
  cases ds <;> rfl

/-! ### calls of built-ins on values -/
def rLen1 (K : PySem.W.Frag) : List V → Hp → VK → Prop := fun xs H Q => ∃ p ys, xs = [.ref p] ∧ (SqL K H p ys ∨ SqT K H p ys) ∧ Q (.int ys.length) H
def rList1 (K : PySem.W.Frag) : List V → Hp → VK → Prop := fun xs H Q => ∃ p ys, xs = [.ref p] ∧ (SqL K H p ys ∨ SqT K H p ys) ∧ ∀ l, H l = none → Q (.ref l) (upd H l (.lst ys))
def rAbs1 : List V → Hp → VK → Prop := fun xs H Q => ∃ i, xs = [.int i] ∧ Q (.int (if i < 0 then -i else i)) H
def rInt1 : List V → Hp → VK → Prop := fun xs H Q => (∃ i, xs = [.int i] ∧ Q (.int i) H) ∨ ∃ k, xs = [.bl k] ∧ Q (.int (if k then 1 else 0)) H
theorem cd_len : CD K C (rLen1 K) [.lst ds] (.int ds.length) := fun F H vs Q fh hx q => by
  cases hx with
  | cons a b =>
    cases b
    cases a with
    | lst e r =>
      refine ⟨_, _, rfl, .inl (.of (fh _ _ e)), ?_⟩
      rw [r.length]
      exact q _ F H (.refl fh) (.int _)
theorem cd_lenSq : CD K C (rLen1 K) [.sq ds] (.int ds.length) := fun F H vs Q fh hx q => by
  cases hx with
  | cons a b =>
    cases b
    cases a with
    | sq e r =>
      refine ⟨_, _, rfl, .inl (fh.sqL e), ?_⟩
      rw [r.length]
      exact q _ F H (.refl fh) (.int _)
theorem cd_list : CD K C (rList1 K) [.tup ds] (.lst ds) := fun F H vs Q fh hx q => by
  cases hx with
  | cons a b =>
    cases b
    cases a with
    | tup e r => exact ⟨_, _, rfl, .inr (fh.sqT e), fun l hl => q _ _ _ (.lay fh hl) (.lst upd_same (r.mono (Ex.new (fh.back hl))))⟩
theorem cd_abs : CD K C rAbs1 [.int i] (.int (if i < 0 then -i else i)) := fun F H vs Q fh hx q => by
  cases hx with
  | cons a b =>
    cases b
    cases a
    exact ⟨i, rfl, q _ F H (.refl fh) (.int _)⟩
theorem cd_intB {b : Bool} : CD K C rInt1 [.bl b] (.int (if b then 1 else 0)) := fun F H vs Q fh hx q => by
  cases hx with
  | cons a b =>
    cases b
    cases a
    exact .inr ⟨b, rfl, q _ F H (.refl fh) (.int _)⟩
theorem cd_sum {ns : List Int} : CD K C (rSum K) [.lst (ns.map D.int)] (.int ns.sum) := fun F H vs Q fh hx q => by
  cases hx with
  | cons a b =>
    cases b
    cases a with
    | lst e r =>
      have e' := r.ints ns
      subst e'
      exact ⟨_, ns, rfl, .of (fh _ _ e), q _ F H (.refl fh) (.int _)⟩
/-- len of a slot's own list -/
theorem ed_lenO {k : Nat} (h : δ[k]? = some (Sd.own ds)) : ED K C (tCB (rLen1 K) (tCons (tVar k) tNil)) δ (.int ds.length) := fun F σ H Q o q => by
  obtain ⟨p, vs, h1, h2, h3, h4⟩ := o.own k ds h
  refine ⟨_, h1, p, vs, rfl, .inl (.of h2), ?_⟩
  rw [h4.length]
  exact q _ F H (.refl o.fh) (.int _)
end
end Pd

/-! ## RefX -/
set_option Elab.async false
set_option linter.all false
set_option maxRecDepth 100000
set_option maxHeartbeats 2000000
/-! The program's own error class with its one attribute: made, raised, read (the block that skel/42 gives, turned to this class). -/
namespace PySem
namespace RefX
open PySem.W PySem.Calls PyProof.Rows PySem.HandSPX
/-! ### the text of __init__ -/
def iA (p1 p2 : Pos) : Arguments := { posonlyargs := [], args := [{ arg := "self", annotation := none, pos := p1 }, { arg := "code", annotation := none, pos := p2 }], vararg := none, kwonlyargs := [], kw_defaults := [], kwarg := none, defaults := [] }
def iB (q1 q2 q3 q4 : Pos) : List Stmt := [.Assign [.Attribute (.Name "self" q1) "code" q2] (.Name "code" q3) q4]
def iS : Scope := { kind := .function, names := [(PySem.Str.ofString "self", .local), (PySem.Str.ofString "code", .local)], isGenerator := false, isCoroutine := false, more := [] }
/-- what the written part says of Ref, at C, and of its __init__, at fI -/
structure RefTxt (K : Frag) (mg : Str → Option Value) (C fI : Addr) : Prop where
  gC : mg "Refused" = some (.ref C)
  cls : ∃ nm q N bs sn sub ab col dd k0 k1 k2 k3 k5, K.lookup C = some (excClassObj nm q C N bs PySem.ESX.exTail true sn sub ab col dd k0 k1 k2 k3 k5 "Exception.__new__")
  sa : findIn K (.ref C) "__setattr__" = some (some (.builtin "object.__setattr__"))
  ga : findIn K (.ref C) "__getattribute__" = some (some (.builtin "BaseException.__getattribute__"))
  gg : findIn K (.ref C) "__getattr__" = some none
  noN : findIn K (.ref C) "code" = some none
  iC : findIn K (.ref C) "__init__" = some (some (.ref fI))
  tC : typeIn K (.ref fI) = some (.type "function")
  kC : keepIn K (.ref C) = true
  exC : subIn K (.ref C) (.type "BaseException") = some true
  tyC : typeIn K (.ref C) = some (.type "type")
  hdC : hasDictIn K C = true
  te : exmOne K (.ref C) (.ref C) = some true
  fn : ∃ (oc : Value) (od : Option Addr) (doc pm : Value) (an : Option Addr) (cdv ct : Value) (osl : Array (Option Value)) (p1 p2 q1 q2 q3 q4 : Pos),
    K.lookup fI = some ⟨oc, od, .func (fnOf "__init__" "Refused.__init__" (iA p1 p2) (iB q1 q2 q3 q4) iS .none .none doc pm an cdv ct), osl⟩ ∧ codeIn K cdv "Refused.__init__" = true
theorem one_size (v : Value) : [v].length ≤ sizeLine := by
  rw [sizeLine_eq]
  exact (by decide : 1 ≤ 16777216)
theorem kept_but {K : Frag} {h h' : Heap} {x : Addr} (X : K.In h) (hx : K.lookup x = none) (k : ∀ b o, b ≠ x → h.get? b = some o → h'.get? b = some o) : K.In h' := fun a o e =>
  k a o (fun z => by rw [z, hx] at e; cases e) (X a o e)
theorem ldC {M : Model} {s : Shared} {name : Str} {scope : Scope} {L a : Addr} {cd : Value} {m : Str → Option Value} {x : Str} {pos : Pos} {v : Value} {Q : Value → Shared → Prop} {A : Around} {E : Value → Shared → Prop} (hn : s.heap.Ns L m) (hv : m x = some v) (h : Q v s)
    (hk : scope.kind = .function := by rfl) (hl : (envOfC name scope L a cd).kindOf x = some .local := by rfl) (hd : (x == ("__debug__" : Str)) = false := by decide) :
    wpAny M A (eval (.Name x pos) (envOfC name scope L a cd)) Q E s := wpAny_Name (wpAny_loadName_local hk hl hn hv h) hd
/-- what __init__ leaves of a fresh exception at x -/
structure InitEnd (h h' : Heap) (x C dx t1 : Addr) (v : Value) : Prop where
  keep : ∀ b o, b ≠ x → h.get? b = some o → h'.get? b = some o
  obj : h'.get? x = some { cls := .ref C, dict := some dx, data := .fields #[.ref t1, .none, .none, .none, .bool false, .none] }
  dbig : h.objs.size ≤ dx
  dne : dx ≠ x
  ns : h'.Ns1 dx (fun y => if y = "code" then some v else none)
/-- a made Ref -/
structure OwnMade (h h' : Heap) (e C d : Addr) (v : Value) : Prop where
  keep : ∀ b o, h.get? b = some o → h'.get? b = some o
  new : h.objs.size ≤ e
  obj : ∃ oe vs, h'.get? e = some oe ∧ oe.cls = .ref C ∧ oe.dict = some d ∧ oe.data = .fields vs ∧ vs[1]? = some .none
  dbig : h.objs.size ≤ d
  dne : d ≠ e
  ns : h'.Ns1 d (fun y => if y = "code" then some v else none)
section
variable {prog : Program} {w : World} {A : Around} {E : Value → Shared → Prop} {R : Result → Shared → Prop} {s : Shared} {K : Frag} {mg : Str → Option Value} {C fI : Addr}
theorem ref_init (T : RefTxt K mg C fI) {x t0 : Addr} {v : Value} (X : K.In s.heap) (hlim : s.heap.NoLimit) (hx : s.heap.get? x = some (excO C t0)) (hnx : K.lookup x = none) (hroom : A.depth < recursionLimit)
    (hq : ∀ h' tk dx, InitEnd s.heap h' x C dx t0 v → R (.ok (.ret .none)) { s with heap := h', toks := tk }) :
    codeAny (model prog w) A (.call (.ref fI) ⟨[.ref x, v], []⟩) R s := by
  obtain ⟨oc, od, doc, pm, an, cdv, ct, osl, p1, p2, q1, q2, q3, q4, ho, hcd⟩ := T.fn
  obtain ⟨nm, q, N, bs, sn, sub, ab, col, dd, k0, k1, k2, k3, k5, hC⟩ := T.cls
  have hcl : clsIn K C = some { name := nm, bases := bs, mro := .ref C :: PySem.ESX.exTail, ns := N, qualname := q, hasDict := true, slotNames := sn, subclasses := sub, abstract := ab, collection := col, hasDel := false } := by unfold clsIn; rw [hC] <;> rfl
  refine Att.call_fn (binds := [("self", .ref x), ("code", v)]) X hlim ho hcd hroom (BindsTo.of_eq (by first | rfl | with_unfolding_all rfl)) (by first | rfl | decide | with_unfolding_all rfl) (fun s₁ IC => ?_) rfl rfl rfl
  obtain ⟨h₁, tk₁, rfl⟩ := IC.toInCall.same
  have k : ∀ b o, s.heap.get? b = some o → h₁.get? b = some o := IC.toInCall.keep
  have hn := IC.toInCall.ns
  have hxL : s.heap.objs.size ≠ x := Nat.ne_of_gt (Heap.lt_size hx)
  have X₁ : K.In h₁ := X.keeps k
  have hx₁ := k _ _ hx
  -- self.by = by
  show wpAny _ _ (execs _ _) _ _ _
  refine wpAny_execs_cons (plainObj_wpAny_Assign_Attribute ?_)
  refine ldC (v := v) hn (by first | rfl | with_unfolding_all rfl | kernel_rfl) (ldC (v := .ref x) hn (by first | rfl | with_unfolding_all rfl | kernel_rfl) ?_)
  refine set_plain X₁ (ox := excO C t0) (od := none) ⟨hx₁, rfl, rfl, trivial⟩ T.sa ?_
  refine PySem.ESX.osa_new X₁ hx₁ hcl rfl rfl T.noN (fun h₃ tk₃ dx k₃ dn dne hx₃ hn₃ => ?_)
  show wpAny _ _ (execs _ _) _ _ _
  have z : s.heap.objs.size < h₁.objs.size := hn.lt
  exact wpAny_execs_nil (hq h₃ tk₃ dx ⟨fun b o hb e => k₃ b o hb (k b o e), hx₃, Nat.le_of_lt (Nat.lt_of_lt_of_le z dn), dne, hn₃⟩)
theorem ref_made (T : RefTxt K mg C fI) {v : Value} (X : K.In s.heap) (hlim : s.heap.NoLimit) (hroom : A.depth + 1 < recursionLimit)
    (hq : ∀ h' tk e d, OwnMade s.heap h' e C d v → R (.ok (.ret (.ref e))) { s with heap := h', toks := tk }) :
    codeAny (model prog w) A (.call (.ref C) ⟨[v], []⟩) R s := by
  obtain ⟨nm, q, N, bs, sn, sub, ab, col, dd, k0, k1, k2, k3, k5, hC⟩ := T.cls
  obtain ⟨hp, g, dr, tk, os⟩ := s
  have k : ∀ b o, hp.get? b = some o → ((hp.push (kdv_tup [v])).push (excO C hp.objs.size)).get? b = some o := fun b o e => Heap.get?_push_of_some _ (Heap.get?_push_of_some _ e)
  have hget : ((hp.push (kdv_tup [v])).push (excO C hp.objs.size)).get? (hp.objs.size + 1) = some (excO C hp.objs.size) := by heap_get
  have hnx : K.lookup (hp.objs.size + 1) = none := by
    cases e : K.lookup (hp.objs.size + 1) with
    | none => rfl
    | some o =>
      have z : hp.get? (hp.objs.size + 1) = some o := X _ _ e
      exact absurd (Nat.lt_of_succ_lt (Heap.lt_size z)) (Nat.lt_irrefl _)
  refine call_own F.excBase_Exception (fun X => rfl) (X _ _ hC) (looks_findIn X T.iC) (fun self => bind_fn X self T.tC) (one_size v) ?_
  refine ref_init (s := ⟨(hp.push (kdv_tup [v])).push (excO C hp.objs.size), g, dr, tk, os⟩) T (X.keeps k) (hlim.keeps k) hget hnx ?_ fun h' tk' dx ⟨k', hx, dn, dne, hns⟩ => ?_
  · show A.depth + 1 < recursionLimit
    exact hroom
  · have old : ∀ b o, hp.get? b = some o → h'.get? b = some o := fun b o e => k' b o (Nat.ne_of_lt (Nat.lt_succ_of_lt (Heap.lt_size e))) (k b o e)
    have z : hp.objs.size + 1 + 1 ≤ dx := by
      first
        | (simpa only [Heap.size_push] using dn)
        | exact dn
        | (have q := dn; rw [Heap.size_push, Heap.size_push] at q; exact q)
    exact ⟨rfl, hq h' tk' (hp.objs.size + 1) dx ⟨old, Nat.le_succ _, ⟨_, _, hx, rfl, rfl, rfl, rfl⟩, Nat.le_trans (Nat.le_trans (Nat.le_succ _) (Nat.le_succ _)) z, dne, hns⟩⟩
end
end RefX
end PySem
namespace L2
open PySem PySem.Spec PyProof.Rows
theorem relO_ref {v : V} {v' : Value} (r : RelV v v') (f : Str) : RelO (List.lookup f [(("code" : Str), v)]) (if f = "code" then some v' else none) := by
  by_cases hw : f = "code"
  · subst hw
    rw [if_pos rfl]
    have q : List.lookup ("code" : Str) [(("code" : Str), v)] = some v := by simp [List.lookup]
    rw [q]
    exact r
  · rw [if_neg hw]
    have qw : (f == ("code" : Str)) = false := by simpa using hw
    have q2 : List.lookup f [(("code" : Str), v)] = none := by simp [List.lookup, qw]
    rw [q2]
    trivial
section
variable {X : Cx} {C fI : Addr}
/-- Ref(e) -/
def tMkRef (C : Addr) (ta : TA) : St → Hp → XK → Prop := fun σ H Q => ta σ H fun vs H1 => ∃ v, vs = [v] ∧ ∀ d, H1 d = none → Q (.ref C) (some d) (upd H1 d (.xd [(("code" : Str), v)]))
theorem pmk_ref {a : Expr} {ta : TA} {p pos : Pos} {k : Nat} (T : PySem.RefX.RefTxt X.K X.mg C fI) (hr : Room k X.A) (ha : PA X [a] ta) (hg : Gl X "Refused" := by rfl)
    (he : starEach (a :: []) X.env = (false, eval a X.env) :: starEach [] X.env := by rfl) (hpl : (backTo pos (starEach [] X.env)).any (·.1) = false := by rfl) :
    PMk X (.Call (.Name "Refused" p) [a] [] pos) (tMkRef C ta) := by
  intro pins s σ H Q I h
  refine wpAny_Call_Name_kw (ld_glob I hg T.gC ?_)
  refine PySem.W.callWith_K (h₀ := X.base) I.ok.mod.kin T.kC (thn (ha.run pos pins s σ H _ I h) fun us s1 hh => ?_) he hpl
  obtain ⟨vs, H1, I1, r1, v, ev, q1⟩ := hh
  subst ev
  refine ⟨I1.kIn, ?_⟩
  cases r1 with
  | cons rv rn =>
    rename_i v' us'
    cases rn
    show wpAny _ _ (call (.ref C) [v']) _ _ _
    have hlim := I1.nolimit
    obtain ⟨hp, g, dr, tk, os⟩ := s1
    refine wpAny_call (PySem.RefX.ref_made T I1.kIn hlim (by have := hr.dp; omega) fun h' tk' e d M => ?_)
    show MkP X pins σ Q (.ref e) ⟨h', g, dr, tk', os⟩
    obtain ⟨oe, fv, hoe, hc, hd, hdat, h1⟩ := M.obj
    have hns := M.ns
    obtain ⟨G', g1, g2⟩ := restrict h' fun b => decide (b ≠ e)
    have gk : ∀ b, b ≠ e → G'.get? b = h'.get? b := fun b hb => g1 b (decide_eq_true hb)
    have ge : G'.get? e = none := g2 e (by simp)
    have old : ∀ b o, hp.get? b = some o → G'.get? b = some o := fun b o q => (gk b (Nat.ne_of_lt (Nat.lt_of_lt_of_le (Heap.lt_size q) M.new))).trans (M.keep b o q)
    have ob : ObjOk X.prog X.w (upd H1 d (.xd [(("code" : Str), v)])) G' d (.xd [(("code" : Str), v)]) :=
      ⟨_, hns.at (fun o q => (gk d M.dne).trans q), fun f => relO_ref rv f⟩
    have J : Inv X pins σ (upd H1 d (.xd [(("code" : Str), v)])) ⟨G', g, dr, tk', os⟩ := I1.laid (t' := tk') old M.dbig ob
    refine ⟨e, oe, fv, ⟨G', g, dr, tk', os⟩, _, .ref C, some d, rfl, J, fun b o q => ?_, ge, hoe, ⟨hc, hd⟩, hdat, h1, ?_, rfl, I1.bare, raises_own T.exC T.tyC, q1 d (I1.hok.fresh M.dbig)⟩
    · by_cases hb : b = e
      · have q' : G'.get? b = some o := q
        rw [hb, ge] at q'; cases q'
      · exact (gk b hb).symm.trans q
    · rw [upd_ne (Ne.symm M.dne)]
      exact I1.hok.fresh M.new
/-- raise Ref(e) -/
def tRaiseRef (C : Addr) (W : WX) (ta : TA) : TS := fun _ σ H => tMkRef C ta σ H fun cls d H' => W cls d σ H'
theorem ps_raiseRef {a : Expr} {ta : TA} {W : WX} {p pos pos2 : Pos} {k : Nat} (hc : X.calm = true) (T : PySem.RefX.RefTxt X.K X.mg C fI) (hr : Room k X.A) (tk : Takes X W) (ha : PA X [a] ta) (hg : Gl X "Refused" := by rfl)
    (he : starEach (a :: []) X.env = (false, eval a X.env) :: starEach [] X.env := by rfl) (hpl : (backTo pos (starEach [] X.env)).any (·.1) = false := by rfl) :
    PS X (.Raise (some (.Call (.Name "Refused" p) [a] [] pos)) none pos2) (tRaiseRef C W ta) := ps_raise hc tk (pmk_ref T hr ha hg he hpl)
/-- low.by, low the exception that the suite holds (at a; its class cls, its dict d) -/
def tCodeRef (C : Addr) (a : Addr) (cls : Value) (d : Option Addr) (te : TE) : TE := fun σ H Q => te σ H fun x H1 => x = .ref a ∧ cls = .ref C ∧ ∃ (dd : Addr) (v : V), d = some dd ∧ H1 dd = some (.xd [(("code" : Str), v)]) ∧ Q v H1
theorem pe_codeRef {a : Addr} {oe : Obj} {cls : Value} {d : Option Addr} {pn : List (Addr × Obj)} {e : Expr} {te : TE} {pos : Pos} (T : PySem.RefX.RefTxt X.K X.mg C fI) (hz : Zc cls d oe) (hf : ∃ vs, oe.data = .fields vs) (he : PE (X.suite a ((a, oe) :: pn)) e te)
    (hb : attributeBase e "code" X.env (eval e X.env) = eval e X.env := by rfl) :
    PE (X.suite a ((a, oe) :: pn)) (.Attribute e "code" pos) (tCodeRef C a cls d te) := by
  refine ⟨fun pins s σ H Q I h => ?_⟩
  refine attr_of hb (thn (he.run pins s σ H _ I h) fun u s1 hh => ?_)
  obtain ⟨x, H1, I1, rx, ex, ec, dd, v, ed, ea, q⟩ := hh
  subst ex
  obtain rfl : u = Value.ref a := rx
  subst ec
  subst ed
  obtain ⟨ha, _⟩ := I1.pin (a, oe) (List.mem_append_left _ List.mem_cons_self)
  obtain ⟨vs, hd⟩ := hf
  have hx : ObjOk X.prog X.w H1 s1.heap dd (.xd [(("code" : Str), v)]) := I1.hok dd _ ea
  obtain ⟨mA, hns, hr⟩ := hx
  obtain ⟨od, ho, hl⟩ := lookIn_ns hns
  have l : List.lookup ("code" : Str) [(("code" : Str), v)] = some v := by simp [List.lookup]
  obtain ⟨u, hu, ru⟩ := RelO.some_of (v := v) (o := mA "code") (by rw [← l]; exact hr "code")
  have J : PySem.W.InstAt s1.heap a oe C (some od) := ⟨ha, hz.1, by unfold PySem.W.notCls; rw [hd] <;> rfl, by rw [hz.2]; exact ho⟩
  exact HandSPX.exc_get I1.kIn J T.ga T.gg T.exC (PySem.W.findObj_own T.hdC T.noN rfl (by rw [hl, hu])) (handed_of ru) ⟨v, H1, I1.tok _, ru, q⟩
end
end L2


/-! ## Fw3 -/
set_option Elab.async false
set_option linter.all false
set_option maxRecDepth 100000
set_option maxHeartbeats 2000000
set_option autoImplicit false
/-! Data-level reasoning, third part: errors, promises, statements. -/
namespace Pd
open PySem PySem.Spec PyProof.Rows L2

/-- what lies behind an error of the program's own class with this code -/
def Err (CE : Addr) (E : XK) (H : Hp) (c : Int) : Prop := ∀ x H', Ex H H' → H' x = some (.xd [(("code" : Str), V.int c)]) → E (.ref CE) (some x) H'
theorem Err.mono {CE : Addr} {E : XK} {H H' : Hp} {c : Int} (h : Err CE E H c) (e : Ex H H') : Err CE E H' c := fun x H'' e' q => h x H'' (e.trans e') q

section
variable (K : PySem.W.Frag) (C : Nat → Addr) (CE : Addr)
/-- an expression, arguments end in the error with the code c -/
def ER (te : TE) (E : XK) (δ : List Sd) (c : Int) : Prop := ∀ F σ H (Q : VK), Ok K C δ F σ H → Err CE E H c → te σ H Q
def AR (ta : TA) (E : XK) (δ : List Sd) (c : Int) : Prop := ∀ F σ H (Q : List V → Hp → Prop), Ok K C δ F σ H → Err CE E H c → ta σ H Q
/-- a promise by a relation on data -/
def spP (R : List D → Except Int D → Prop) : Sp := fun vs H Q E => ∃ F ds r, Ex F H ∧ IsL K C F vs ds ∧ R ds r ∧
  match r with
  | .ok d => ∀ v F' H', Gr F H F' H' → Is K C F' v d → Q v H'
  | .error c => Err CE E H c
end
inductive Out where
  | nx (δ : List Sd) | rt (d : D) | rs (c : Int)

section
variable (K : PySem.W.Frag) (C : Nat → Addr) (CE : Addr)
/-- between two statements: H_0, F_0: the entry -/
structure Okf (H0 F0 : Hp) (δ : List Sd) (F : Hp) (σ : L2.St) (H : Hp) : Prop where
  ok : Ok K C δ F σ H
  gr : Gr F0 H0 F H
  own0 : ∀ (i : Nat) (ds : List D) (p : Addr), δ[i]? = some (Sd.own ds) → σ[i]? = some (some (V.ref p)) → H0 p = none
def Post (H0 F0 : Hp) (o : Out) (D : Ends) (E : XK) : Prop := match o with
  | .nx δ => ∀ F σ H, Okf K C H0 F0 δ F σ H → D.nx σ H
  | .rt d => ∀ v F H, Gr F0 H0 F H → Is K C F v d → D.rt v H
  | .rs c => Err CE E H0 c
def SD (ts : TS) (E : XK) (δ : List Sd) (o : Out) : Prop := ∀ H0 F0 F σ H (D : Ends), Okf K C H0 F0 δ F σ H → Post K C CE H0 F0 o D E → ts D σ H
/-- a target takes a value; ts: the slots it writes -/
def GD (g : TG) (ts : List Nat) (δ : List Sd) (d : D) (δ' : List Sd) : Prop := ∀ F σ H v (Q : L2.St → Hp → Prop), Ok K C δ F σ H → Is K C F v d →
  (∀ σ', Ok K C δ' F σ' H → (∀ j, j ∉ ts → σ'[j]? = σ[j]?) → (∀ j ds, δ'[j]? = some (Sd.own ds) → j ∉ ts ∧ δ[j]? = some (Sd.own ds)) → Q σ' H) → g v σ H Q
def GDs (g : TGs) (ts : List Nat) (δ : List Sd) (ds : List D) (δ' : List Sd) : Prop := ∀ F σ H vs (Q : L2.St → Hp → Prop), Ok K C δ F σ H → IsL K C F vs ds →
  (∀ σ', Ok K C δ' F σ' H → (∀ j, j ∉ ts → σ'[j]? = σ[j]?) → (∀ j ds, δ'[j]? = some (Sd.own ds) → j ∉ ts ∧ δ[j]? = some (Sd.own ds)) → Q σ' H) → g vs σ H Q
end

section
variable {K : PySem.W.Frag} {C : Nat → Addr} {CE : Addr} {δ δ' δ1 δ2 : List Sd} {F F' F0 H H' H0 : Hp} {σ : L2.St} {te ta tb : TE} {d x y z : D} {ds es : List D} {E : XK} {c : Int} {o : Out}
/-! ### errors -/
theorem ar_head {t : TA} (h : ER K C CE te E δ c) : AR K C CE (tCons te t) E δ c := fun F σ H Q o e => h F σ H _ o e
theorem ar_tail {t : TA} (h : ED K C te δ d) (hr : AR K C CE t E δ c) : AR K C CE (tCons te t) E δ c := fun F σ H Q o e => h F σ H _ o fun v F1 H1 g1 i1 => hr F1 σ H1 _ (o.gr g1) (e.mono g1.h)
theorem er_args {sp : Sp} {dvs : List V} {E' : XK} {t : TA} (h : AR K C CE t E δ c) : ER K C CE (tCall sp dvs E' t) E δ c := fun F σ H Q o e => h F σ H _ o e
theorem er_cb {r : List V → Hp → VK → Prop} {t : TA} (h : AR K C CE t E δ c) : ER K C CE (tCB r t) E δ c := fun F σ H Q o e => h F σ H _ o e
theorem er_op1 {r : R2} (h : ER K C CE ta E δ c) : ER K C CE (tOp r ta tb) E δ c := fun F σ H Q o e => h F σ H _ o e
theorem er_op2 {r : R2} (h : ED K C ta δ d) (hr : ER K C CE tb E δ c) : ER K C CE (tOp r ta tb) E δ c := fun F σ H Q o e => h F σ H _ o fun v F1 H1 g1 i1 => hr F1 σ H1 _ (o.gr g1) (e.mono g1.h)
theorem er_call {R : List D → Except Int D → Prop} {t : TA} (h : AD K C t δ ds) (hR : R ds (.error c)) : ER K C CE (tCall (spP K C CE R) [] E t) E δ c := fun F σ H Q o e =>
  h F σ H _ o fun vs F1 H1 g1 i1 => ⟨F1, ds, .error c, g1.fh, by rw [List.append_nil]; exact i1, hR, e.mono g1.h⟩
theorem ed_call {R : List D → Except Int D → Prop} {t : TA} {E' : XK} (h : AD K C t δ ds) (hR : R ds (.ok d)) : ED K C (tCall (spP K C CE R) [] E' t) δ d := fun F σ H Q o q =>
  h F σ H _ o fun vs F1 H1 g1 i1 => ⟨F1, ds, .ok d, g1.fh, by rw [List.append_nil]; exact i1, hR, fun v F2 H2 g2 i2 => q v F2 H2 (g1.trans g2) i2⟩

/-! ### slots -/
theorem Ok.set_dat (ok : Ok K C δ F σ H) {v : V} (i : Nat) (h : Is K C F v d) : Ok K C (δ.set i (.dat d)) F (σ.set i (some v)) H where
  fh := ok.fh
  len := by rw [List.length_set, List.length_set, ok.len]
  dat := fun j e hj => by
    rw [List.getElem?_set] at hj
    rw [List.getElem?_set, ok.len]
    split at hj
    · rename_i hij
      split at hj
      · rename_i hl
        rw [if_pos hij, if_pos (hij ▸ hl)]
        cases hj
        exact ⟨v, rfl, h⟩
      · cases hj
    · rename_i hij
      rw [if_neg hij]
      exact ok.dat j e hj
  own := fun j e hj => by
    rw [List.getElem?_set] at hj
    split at hj
    · split at hj
      · cases hj
      · cases hj
    · rename_i hij
      obtain ⟨p, vs, h1, h2⟩ := ok.own j e hj
      exact ⟨p, vs, by rw [List.getElem?_set, if_neg hij]; exact h1, h2⟩
  sep := fun a b p e1 e2 h1 h2 h3 h4 => by
    rw [List.getElem?_set] at h1 h2 h3 h4
    split at h1
    · split at h1 <;> cases h1
    · split at h2
      · split at h2 <;> cases h2
      · rename_i n1 n2
        rw [if_neg n1] at h3
        rw [if_neg n2] at h4
        exact ok.sep a b p e1 e2 h1 h2 h3 h4
/-- a slot is forgotten -/
theorem Ok.any (ok : Ok K C δ F σ H) (hl : δ'.length = δ.length) (h : ∀ (i : Nat) (s : Sd), δ'[i]? = some s → s = .any ∨ δ[i]? = some s) : Ok K C δ' F σ H where
  fh := ok.fh
  len := ok.len.trans hl.symm
  dat := fun i d e => (h i _ e).elim (fun z => by cases z) fun z => ok.dat i d z
  own := fun i ds e => (h i _ e).elim (fun z => by cases z) fun z => ok.own i ds z
  sep := fun i j p a b e1 e2 => (h i _ e1).elim (fun z => by cases z) fun z1 => (h j _ e2).elim (fun z => by cases z) fun z2 => ok.sep i j p a b z1 z2
inductive Sle : List Sd → List Sd → Prop
  | nil : Sle [] []
  | any {s : Sd} {a b : List Sd} : Sle a b → Sle (s :: a) (.any :: b)
  | same {s : Sd} {a b : List Sd} : Sle a b → Sle (s :: a) (s :: b)
theorem Sle.refl : ∀ δ : List Sd, Sle δ δ
  | [] => .nil
  | s :: δ => .same (Sle.refl δ)
theorem Sle.trans {a b c : List Sd} (h : Sle a b) : Sle b c → Sle a c := by
  intro k
  induction h generalizing c with
  | nil => exact k
  | any h ih =>
    cases k with
    | any k => exact .any (ih k)
    | same k => exact .any (ih k)
  | same h ih =>
    cases k with
    | any k => exact .any (ih k)
    | same k => exact .same (ih k)
theorem Sle.len {a b : List Sd} (h : Sle a b) : b.length = a.length := by
  induction h with
  | nil => rfl
  | any _ ih => simp [ih]
  | same _ ih => simp [ih]
theorem Sle.get {a b : List Sd} (h : Sle a b) : ∀ (i : Nat) (s : Sd), b[i]? = some s → s = .any ∨ a[i]? = some s := by
  induction h with
  | nil => intro i s e; simp at e
  | any _ ih =>
    intro i s e
    cases i with
    | zero => exact .inl (Option.some.inj e).symm
    | succ i => exact ih i s (by simpa using e)
  | same _ ih =>
    intro i s e
    cases i with
    | zero => exact .inr e
    | succ i => exact ih i s (by simpa using e)
theorem Ok.le (ok : Ok K C δ F σ H) (l : Sle δ δ') : Ok K C δ' F σ H := ok.any l.len l.get
theorem Okf.le (ok : Okf K C H0 F0 δ F σ H) (l : Sle δ δ') : Okf K C H0 F0 δ' F σ H := ⟨ok.ok.le l, ok.gr, fun i ds p e h => (l.get i _ e).elim (fun z => by cases z) fun z => ok.own0 i ds p z h⟩
theorem ED.le (h : ED K C te δ' d) (l : Sle δ δ') : ED K C te δ d := fun F σ H Q o q => h F σ H Q (o.le l) q
theorem Okf.grow (ok : Okf K C H0 F0 δ F σ H) (g : Gr F H F' H') : Okf K C H0 F0 δ F' σ H' := ⟨ok.ok.gr g, ok.gr.trans g, ok.own0⟩
theorem Okf.ex (ok : Okf K C H0 F0 δ F σ H) : Ex H0 H := ok.gr.h
theorem Okf.set_dat (ok : Okf K C H0 F0 δ F σ H) {v : V} (i : Nat) (h : Is K C F v d) : Okf K C H0 F0 (δ.set i (.dat d)) F (σ.set i (some v)) H where
  ok := ok.ok.set_dat i h
  gr := ok.gr
  own0 := fun j e p hj h1 => by
    rw [List.getElem?_set] at hj h1
    split at hj
    · split at hj <;> cases hj
    · rename_i n
      rw [if_neg n] at h1
      exact ok.own0 j e p hj h1
/-- a new list goes into the slot as its own -/
theorem Okf.set_own (ok : Okf K C H0 F0 δ F σ H) {p : Addr} {vs : List V} {Hb : Hp} (i : Nat) (hb : Hb p = none) (hold : ∀ (j : Nat) (es : List D) (p : Addr), δ[j]? = some (Sd.own es) → σ[j]? = some (some (V.ref p)) → Hb p ≠ none) (h0 : H0 p = none) (hp : H p = some (.lst vs)) (hf : F p = none) (h : IsL K C F vs ds) :
    Okf K C H0 F0 (δ.set i (.own ds)) F (σ.set i (some (.ref p))) H where
  ok := by
    refine ⟨ok.ok.fh, by rw [List.length_set, List.length_set, ok.ok.len], fun j e hj => ?_, fun j e hj => ?_, fun a b q e1 e2 h1 h2 h3 h4 => ?_⟩
    · rw [List.getElem?_set] at hj
      split at hj
      · split at hj <;> cases hj
      · rename_i n
        rw [List.getElem?_set, if_neg n]
        exact ok.ok.dat j e hj
    · rw [List.getElem?_set] at hj
      rw [List.getElem?_set, ok.ok.len]
      split at hj
      · rename_i hij
        split at hj
        · rename_i hl
          rw [if_pos hij, if_pos (hij ▸ hl)]
          cases hj
          exact ⟨p, vs, rfl, hp, hf, h⟩
        · cases hj
      · rename_i n
        rw [if_neg n]
        exact ok.ok.own j e hj
    · rw [List.getElem?_set] at h1 h2 h3 h4
      by_cases na : i = a
      · by_cases nb : i = b
        · exact na.symm.trans nb
        · rw [if_neg nb] at h2 h4
          rw [if_pos na, ok.ok.len] at h3
          split at h3
          · have e := Option.some.inj (Option.some.inj h3)
            injection e with e
            rw [← e] at h4
            exact absurd hb (hold b e2 p h2 h4)
          · cases h3
      · rw [if_neg na] at h1 h3
        by_cases nb : i = b
        · rw [if_pos nb, ok.ok.len] at h4
          split at h4
          · have e := Option.some.inj (Option.some.inj h4)
            injection e with e
            rw [← e] at h3
            exact absurd hb (hold a e1 p h1 h3)
          · cases h4
        · rw [if_neg nb] at h2 h4
          exact ok.ok.sep a b q e1 e2 h1 h2 h3 h4
  gr := ok.gr
  own0 := fun j e q hj h1 => by
    rw [List.getElem?_set] at hj h1
    by_cases n : i = j
    · rw [if_pos n, ok.ok.len] at h1
      split at h1
      · have e := Option.some.inj (Option.some.inj h1)
        injection e with e
        rw [← e]
        exact h0
      · cases h1
    · rw [if_neg n] at hj h1
      exact ok.own0 j e q hj h1
/-- the slot's own list is changed -/
theorem Okf.put (ok : Okf K C H0 F0 δ F σ H) {i : Nat} {p : Addr} {vs : List V} (hi : δ[i]? = some (Sd.own es)) (hp : σ[i]? = some (some (V.ref p))) (h : IsL K C F vs ds) :
    Okf K C H0 F0 (δ.set i (.own ds)) F σ (upd H p (.lst vs)) := by
  obtain ⟨p', vs', h1, h2, h3, h4⟩ := ok.ok.own i es hi
  have e : p' = p := by
    rw [hp] at h1
    have q := Option.some.inj (Option.some.inj h1)
    injection q with q
    exact q.symm
  subst e
  have hil : i < δ.length := by
    rcases List.getElem?_eq_some_iff.mp hi with ⟨q, _⟩
    exact q
  have fh' : Ex F (upd H p' (.lst vs)) := fun a u q => by
    have n : a ≠ p' := fun z => by
      rw [z, h3] at q
      cases q
    rw [upd_ne n]
    exact ok.ok.fh a u q
  have h0 := ok.own0 i es p' hi hp
  refine ⟨⟨fh', by rw [List.length_set]; exact ok.ok.len, fun j e hj => ?_, fun j e hj => ?_, fun a b q e1 e2 g1 g2 g3 g4 => ?_⟩, ⟨ok.gr.f, fun a u q => ?_, fh', fun a a1 a2 => ok.gr.nw a a1 a2⟩, fun j e q hj g1 => ?_⟩
  · rw [List.getElem?_set] at hj
    split at hj
    · first | cases hj | (split at hj <;> cases hj)
    · exact ok.ok.dat j e hj
  · rw [List.getElem?_set] at hj
    by_cases n : i = j
    · rw [if_pos n, if_pos (n ▸ hil)] at hj
      cases hj
      subst n
      exact ⟨p', vs, hp, upd_same, h3, h⟩
    · rw [if_neg n] at hj
      obtain ⟨q, ws, a1, a2, a3, a4⟩ := ok.ok.own j e hj
      have nq : q ≠ p' := fun z => by
        subst z
        exact n (ok.ok.sep i j q es e hi hj hp a1)
      exact ⟨q, ws, a1, by rw [upd_ne nq]; exact a2, a3, a4⟩
  · have fix : ∀ (k : Nat) (e : List D), (δ.set i (.own ds))[k]? = some (Sd.own e) → ∃ e', δ[k]? = some (Sd.own e') := fun k e g => by
      rw [List.getElem?_set] at g
      by_cases n : i = k
      · exact ⟨es, n ▸ hi⟩
      · rw [if_neg n] at g
        exact ⟨e, g⟩
    obtain ⟨_, f1⟩ := fix a e1 g1
    obtain ⟨_, f2⟩ := fix b e2 g2
    exact ok.ok.sep a b q _ _ f1 f2 g3 g4
  · have n : a ≠ p' := fun z => by
      rw [z, h0] at q
      cases q
    rw [upd_ne n]
    exact ok.gr.h a u q
  · rw [List.getElem?_set] at hj
    by_cases n : i = j
    · subst n
      exact ok.own0 i es q hi g1
    · rw [if_neg n] at hj
      exact ok.own0 j e q hj g1
/-- the slot's own list is known for good from here on -/
theorem Okf.freeze (ok : Okf K C H0 F0 δ F σ H) {i : Nat} (hi : δ[i]? = some (Sd.own ds)) : ∃ F', Okf K C H0 F0 (δ.set i (.dat (.lst ds))) F' σ H := by
  obtain ⟨p, vs, h1, h2, h3, h4⟩ := ok.ok.own i ds hi
  have h0 := ok.own0 i ds p hi h1
  have hil : i < δ.length := by
    rcases List.getElem?_eq_some_iff.mp hi with ⟨q, _⟩
    exact q
  have ef : Ex F (upd F p (.lst vs)) := Ex.new h3
  have fh' : Ex (upd F p (.lst vs)) H := fun a u q => by
    by_cases n : a = p
    · subst n
      rw [upd_same] at q
      rw [h2]
      exact q
    · rw [upd_ne n] at q
      exact ok.ok.fh a u q
  refine ⟨upd F p (.lst vs), ⟨fh', by rw [List.length_set]; exact ok.ok.len, fun j e hj => ?_, fun j e hj => ?_, fun a b q e1 e2 g1 g2 g3 g4 => ?_⟩, ⟨ok.gr.f.trans ef, ok.gr.h, fh', fun a a1 a2 => ?_⟩, fun j e q hj g1 => ?_⟩
  · rw [List.getElem?_set] at hj
    by_cases n : i = j
    · rw [if_pos n, if_pos (n ▸ hil)] at hj
      cases hj
      subst n
      exact ⟨_, h1, .lst upd_same (h4.mono ef)⟩
    · rw [if_neg n] at hj
      obtain ⟨v, a1, a2⟩ := ok.ok.dat j e hj
      exact ⟨v, a1, a2.mono ef⟩
  · rw [List.getElem?_set] at hj
    by_cases n : i = j
    · rw [if_pos n, if_pos (n ▸ hil)] at hj
      cases hj
    · rw [if_neg n] at hj
      obtain ⟨q, ws, a1, a2, a3, a4⟩ := ok.ok.own j e hj
      have nq : q ≠ p := fun z => by
        subst z
        exact n (ok.ok.sep i j q ds e hi hj h1 a1)
      exact ⟨q, ws, a1, a2, by rw [upd_ne nq]; exact a3, a4.mono ef⟩
  · have fix : ∀ (k : Nat) (e : List D), (δ.set i (.dat (.lst ds)))[k]? = some (Sd.own e) → δ[k]? = some (Sd.own e) := fun k e g => by
      rw [List.getElem?_set] at g
      by_cases n : i = k
      · rw [if_pos n, if_pos (n ▸ hil)] at g
        cases g
      · rw [if_neg n] at g
        exact g
    exact ok.ok.sep a b q _ _ (fix a e1 g1) (fix b e2 g2) g3 g4
  · have n : a ≠ p := fun z => a2 (z ▸ h0)
    rw [upd_ne n]
    exact ok.gr.nw a a1 a2
  · rw [List.getElem?_set] at hj
    by_cases n : i = j
    · rw [if_pos n, if_pos (n ▸ hil)] at hj
      cases hj
    · rw [if_neg n] at hj
      exact ok.own0 j e q hj g1

/-! ### statements -/
theorem SD.le {ts : TS} (h : SD K C CE ts E δ' o) (l : Sle δ δ') : SD K C CE ts E δ o := fun H0 F0 F σ H D ok p => h H0 F0 F σ H D (ok.le l) p
theorem SD.weak {ts : TS} (h : SD K C CE ts E δ (.nx δ1)) (l : Sle δ1 δ2) : SD K C CE ts E δ (.nx δ2) := fun H0 F0 F σ H D ok p => h H0 F0 F σ H D ok fun F' σ' H' ok' => p F' σ' H' (ok'.le l)
theorem SD.is {ts : TS} {o' : Out} (h : SD K C CE ts E δ o) (e : o = o') : SD K C CE ts E δ o' := e ▸ h
theorem sd_freeze {ts : TS} (i : Nat) (hi : δ[i]? = some (Sd.own ds)) (h : SD K C CE ts E (δ.set i (.dat (.lst ds))) o) : SD K C CE ts E δ o := fun H0 F0 F σ H D ok p => by
  obtain ⟨F', ok'⟩ := ok.freeze hi
  exact h H0 F0 F' σ H D ok' p
theorem sd_next : SD K C CE tNext E δ (.nx δ) := fun H0 F0 F σ H D ok p => p F σ H ok
theorem sd_seq {t u : TS} (h : SD K C CE t E δ (.nx δ1)) (h2 : SD K C CE u E δ1 o) : SD K C CE (tSeq t u) E δ o := fun H0 F0 F σ H D ok p =>
  h H0 F0 F σ H _ ok fun F' σ' H' ok' => h2 H0 F0 F' σ' H' D ok' p
theorem sd_seq_rt {t u : TS} (h : SD K C CE t E δ (.rt d)) : SD K C CE (tSeq t u) E δ (.rt d) := fun H0 F0 F σ H D ok p => h H0 F0 F σ H _ ok p
theorem sd_seq_rs {t u : TS} (h : SD K C CE t E δ (.rs c)) : SD K C CE (tSeq t u) E δ (.rs c) := fun H0 F0 F σ H D ok p => h H0 F0 F σ H _ ok p
theorem sd_ret (h : ED K C te δ d) : SD K C CE (tRet te) E δ (.rt d) := fun H0 F0 F σ H D ok p =>
  h F σ H _ ok.ok fun v F' H' g i => p v F' H' (ok.gr.trans g) i
theorem sd_ret_e (h : ER K C CE te E δ c) : SD K C CE (tRet te) E δ (.rs c) := fun H0 F0 F σ H D ok p => h F σ H _ ok.ok (Err.mono p ok.ex)
theorem sd_drop (h : ED K C te δ d) : SD K C CE (tDrop te) E δ (.nx δ) := fun H0 F0 F σ H D ok p => h F σ H _ ok.ok fun v F' H' g i => p F' σ H' (ok.grow g)
theorem sd_drop_e (h : ER K C CE te E δ c) : SD K C CE (tDrop te) E δ (.rs c) := fun H0 F0 F σ H D ok p => h F σ H _ ok.ok (Err.mono p ok.ex)
theorem sd_if {t : TT} {u w : TS} {b : Bool} (h : TD K C t δ b) (h1 : b = true → SD K C CE u E δ o) (h2 : b = false → SD K C CE w E δ o) : SD K C CE (tIfS t u w) E δ o := fun H0 F0 F σ H D ok p =>
  h F σ H _ ok.ok fun F' H' g => by
    cases b with
    | true => exact iteT (h1 rfl H0 F0 F' σ H' D (ok.grow g) p)
    | false => exact iteF (h2 rfl H0 F0 F' σ H' D (ok.grow g) p)
theorem sd_set {i : Nat} (h : ED K C te δ d) : SD K C CE (tAsg te (gName i)) E δ (.nx (δ.set i (.dat d))) := fun H0 F0 F σ H D ok p =>
  h F σ H _ ok.ok fun v F' H' g j => p F' _ H' ((ok.grow g).set_dat i j)
theorem sd_asg_e {g : TG} (h : ER K C CE te E δ c) : SD K C CE (tAsg te g) E δ (.rs c) := fun H0 F0 F σ H D ok p => h F σ H _ ok.ok (Err.mono p ok.ex)
theorem Okf.held (ok : Okf K C H0 F0 δ F σ H) : ∀ (j : Nat) (es : List D) (p : Addr), δ[j]? = some (Sd.own es) → σ[j]? = some (some (V.ref p)) → H p ≠ none := fun j es p h1 h2 => by
  obtain ⟨q, vs, a1, a2, _⟩ := ok.ok.own j es h1
  rw [h2] at a1
  have e := Option.some.inj (Option.some.inj a1)
  injection e with e
  rw [e, a2]
  simp
theorem sd_setO {i : Nat} (h : EL K C te δ ds) : SD K C CE (tAsg te (gName i)) E δ (.nx (δ.set i (.own ds))) := fun H0 F0 F σ H D ok p =>
  h F σ H _ ok.ok fun q vs F' H' g hq e n r => p F' _ H' ((ok.grow g).set_own i (Hb := H) hq ok.held (ok.ex.back hq) e n r)
/-- two names at once; the second may be a new list of its own -/
theorem sd_par {i j : Nat} {t : TA} (h : AD K C t δ [x, y]) : SD K C CE (tPar i j t) E δ (.nx ((δ.set i (.dat x)).set j (.dat y))) := fun H0 F0 F σ H D ok p =>
  h F σ H _ ok.ok fun vs F' H' g r => by
    cases r with
    | cons a r =>
      cases r with
      | cons b r =>
        cases r
        exact ⟨_, _, rfl, p F' _ H' (((ok.grow g).set_dat i a).set_dat j b)⟩
theorem sd_parO {i j : Nat} (h : ED K C ta δ x) (h2 : EL K C tb δ ds) : SD K C CE (tPar i j (tCons ta (tCons tb tNil))) E δ (.nx ((δ.set i (.dat x)).set j (.own ds))) := fun H0 F0 F σ H D ok p =>
  h F σ H _ ok.ok fun v F1 H1 g1 a => h2 F1 σ H1 _ (ok.ok.gr g1) fun q vs F2 H2 g2 hq e n r => by
    have ok2 := ok.grow (g1.trans g2)
    refine ⟨v, .ref q, rfl, p F2 _ H2 ((ok2.set_dat i (a.mono g2.f)).set_own j (Hb := H1) hq (fun k es p' k1 k2 => ?_) (ok.ex.back (g1.h.back hq)) e n r)⟩
    rw [List.getElem?_set] at k1 k2
    split at k1
    · split at k1 <;> cases k1
    · rename_i nk
      rw [if_neg nk] at k2
      exact (ok.grow g1).held k es p' k1 k2
theorem sd_par_e {i j : Nat} {t : TA} (h : AR K C CE t E δ c) : SD K C CE (tPar i j t) E δ (.rs c) := fun H0 F0 F σ H D ok p => h F σ H _ ok.ok (Err.mono p ok.ex)
theorem sd_aug {i : Nat} {a b : Int} {f : Int → Int → Int} (hi : δ[i]? = some (Sd.dat (.int a))) (h : ED K C te δ (.int b)) : SD K C CE (tAug i te (ipI f)) E δ (.nx (δ.set i (.dat (.int (f a b))))) := fun H0 F0 F σ H D ok p => by
  obtain ⟨v, h1, h2⟩ := ok.ok.dat i _ hi
  cases h2
  refine ⟨_, h1, ?_⟩
  refine h F σ H _ ok.ok fun v F' H' g j => ?_
  cases j
  exact ⟨a, b, rfl, rfl, p F' _ H' ((ok.grow g).set_dat i (.int _))⟩
theorem sd_append {i : Nat} (hi : δ[i]? = some (Sd.own ds)) (h : ED K C te δ d) (hl : ds.length < 1000000) : SD K C CE (tDrop (tBM K "list" rAppend (tVar i) (tCons te tNil))) E δ (.nx (δ.set i (.own (ds ++ [d])))) := fun H0 F0 F σ H D ok p => by
  obtain ⟨q, vs, h1, h2, h3, h4⟩ := ok.ok.own i ds hi
  refine ⟨_, h1, .inl ⟨rfl, _, .of h2⟩, ?_⟩
  refine h F σ H _ ok.ok fun v F' H' g j => ?_
  refine ⟨q, vs, v, rfl, rfl, g.h _ _ h2, by rw [h4.length]; exact Nat.lt_trans hl (by decide), ?_⟩
  exact p F' σ _ ((ok.grow g).put hi h1 ((h4.mono g.f).append (.one j)))
theorem sd_extend {i : Nat} (hi : δ[i]? = some (Sd.own ds)) (h : ED K C te δ (.lst es)) (hl : ds.length + es.length ≤ 1000000) : SD K C CE (tDrop (tBM K "list" rExtend (tVar i) (tCons te tNil))) E δ (.nx (δ.set i (.own (ds ++ es)))) := fun H0 F0 F σ H D ok p => by
  obtain ⟨q, vs, h1, h2, h3, h4⟩ := ok.ok.own i ds hi
  refine ⟨_, h1, .inl ⟨rfl, _, .of h2⟩, ?_⟩
  refine h F σ H _ ok.ok fun v F' H' g j => ?_
  cases j with
  | lst e r =>
    refine ⟨q, _, vs, _, rfl, rfl, g.h _ _ h2, g.fh _ _ e, by rw [h4.length, r.length]; exact Nat.le_trans hl (by decide), ?_⟩
    exact p F' σ _ ((ok.grow g).put hi h1 ((h4.mono g.f).append r))
theorem sd_pop {i : Nat} (hi : δ[i]? = some (Sd.own ds)) (hne : ds ≠ []) : SD K C CE (tDrop (tBM0 K "list" rPop (tVar i))) E δ (.nx (δ.set i (.own ds.dropLast))) := fun H0 F0 F σ H D ok p => by
  obtain ⟨q, vs, h1, h2, h3, h4⟩ := ok.ok.own i ds hi
  refine ⟨_, h1, .inl ⟨rfl, _, .of h2⟩, ?_⟩
  have hl : vs.length - 1 < vs.length := by
    have e := h4.length
    cases ds with
    | nil => exact absurd rfl hne
    | cons a r =>
      rw [List.length_cons] at e
      omega
  refine ⟨q, vs, vs[vs.length - 1], rfl, rfl, h2, List.getElem?_eq_getElem hl, ?_⟩
  exact p F σ _ (ok.put hi h1 h4.dropLast)
theorem sd_raise {t : TA} (h : AD K C t δ [.int c]) : SD K C CE (L2.tRaiseRef CE (fun cls d _ H => E cls d H) t) E δ (.rs c) := fun H0 F0 F σ H D ok p =>
  h F σ H _ ok.ok fun vs F' H' g r => by
    cases r with
    | cons a r =>
      cases r
      cases a
      exact ⟨_, rfl, fun dd hd => p dd _ ((ok.ex.trans g.h).trans (Ex.new hd)) upd_same⟩
end
end Pd

/-! ## Fw4 -/
set_option Elab.async false
set_option linter.all false
set_option maxRecDepth 100000
set_option maxHeartbeats 2000000
set_option autoImplicit false
/-! Data-level reasoning, fourth part: targets, walks, loops, comprehensions, the promise of a def from its body. -/
namespace Pd
open PySem PySem.Spec PyProof.Rows L2

section
variable {K : PySem.W.Frag} {C : Nat → Addr} {CE : Addr} {δ δ' δ1 δ2 : List Sd} {F F' F0 H H' H0 : Hp} {σ : L2.St} {te ta tb : TE} {d x y z : D} {ds es : List D} {E : XK} {c : Int} {o : Out}
/-! ### targets -/
theorem gd_name {i : Nat} : GD K C (gName i) [i] δ d (δ.set i (.dat d)) := fun F σ H v Q ok h q =>
  q _ (ok.set_dat i h) (fun j hj => by
    have n : i ≠ j := fun z => hj (by simp [z])
    rw [List.getElem?_set, if_neg n]) (fun j es hj => by
    rw [List.getElem?_set] at hj
    split at hj
    · split at hj <;> cases hj
    · rename_i n
      exact ⟨by simpa using fun z => n z.symm, hj⟩)
theorem gds_nil : GDs K C gNil [] δ [] δ := fun F σ H vs Q ok h q => by
  cases h
  exact ⟨rfl, q σ ok (fun _ _ => rfl) fun j es hj => ⟨by simp, hj⟩⟩
theorem gds_cons {t : TG} {u : TGs} {ts us : List Nat} (h : GD K C t ts δ d δ1) (h2 : GDs K C u us δ1 ds δ2) : GDs K C (gCons t u) (ts ++ us) δ (d :: ds) δ2 := fun F σ H vs Q ok r q => by
  cases r with
  | cons a b =>
    refine ⟨_, _, rfl, ?_⟩
    refine h F σ H _ _ ok a fun σ1 ok1 k1 o1 => ?_
    refine h2 F σ1 H _ _ ok1 b fun σ2 ok2 k2 o2 => ?_
    refine q σ2 ok2 (fun j hj => ?_) fun j es hj => ?_
    · rw [List.mem_append, not_or] at hj
      rw [k2 j hj.2, k1 j hj.1]
    · obtain ⟨a1, a2⟩ := o2 j es hj
      obtain ⟨b1, b2⟩ := o1 j es a2
      exact ⟨by rw [List.mem_append, not_or]; exact ⟨b1, a1⟩, b2⟩
theorem gd_tup {n : Nat} {t : TGs} {ts : List Nat} (h : GDs K C t ts δ ds δ') (hn : ds.length = n) : GD K C (gTup K n t) ts δ (.tup ds) δ' := fun F σ H v Q ok r q => by
  cases r with
  | tup e r => exact ⟨_, _, rfl, ok.fh.sqT e, by rw [r.length, hn], h F σ H _ Q ok r q⟩
theorem gd_unl {n : Nat} {t : TGs} {ts : List Nat} (h : GDs K C t ts δ ds δ') (hn : ds.length = n) : GD K C (gUnl K n t) ts δ (.lst ds) δ' := fun F σ H v Q ok r q => by
  cases r with
  | lst e r => exact ⟨_, _, rfl, .of (ok.fh _ _ e), by rw [r.length, hn], h F σ H _ Q ok r q⟩
theorem gd_pr {i j : Nat} {a b : Int} : GD K C (gTup K 2 (gCons (gName i) (gCons (gName j) gNil))) [i, j] δ (.pr a b) ((δ.set i (.dat (.int a))).set j (.dat (.int b))) := fun F σ H v Q ok r q => by
  cases r with
  | pr e => exact ⟨_, _, rfl, .of (ok.fh _ _ e), rfl, (gds_cons gd_name (gds_cons gd_name gds_nil)) F σ H _ Q ok (.cons (.int a) (.cons (.int b) .nil)) q⟩
theorem Okf.took {ts : List Nat} {σ' : L2.St} (ok : Okf K C H0 F0 δ F σ H) (ok' : Ok K C δ' F σ' H) (k : ∀ j, j ∉ ts → σ'[j]? = σ[j]?) (ow : ∀ j ds, δ'[j]? = some (Sd.own ds) → j ∉ ts ∧ δ[j]? = some (Sd.own ds)) : Okf K C H0 F0 δ' F σ' H :=
  ⟨ok', ok.gr, fun i ds p h1 h2 => by
    obtain ⟨a, b⟩ := ow i ds h1
    rw [k i a] at h2
    exact ok.own0 i ds p b h2⟩
theorem sd_asg {g : TG} {ts : List Nat} (h : ED K C te δ d) (hg : GD K C g ts δ d δ') : SD K C CE (tAsg te g) E δ (.nx δ') := fun H0 F0 F σ H D ok p =>
  h F σ H _ ok.ok fun v F' H' g' j => hg F' σ H' v _ (ok.ok.gr g') j fun σ' ok' k ow => p F' σ' H' ((ok.grow g').took ok' k ow)

/-! ### what is walked -/
def WalkD (K : PySem.W.Frag) (C : Nat → Addr) (J : It) (F1 : Hp) (ds : List D) : Prop :=
  Walk J ds.length (fun H => Ex F1 H) fun i H x H' => ∃ d, ds[i]? = some d ∧ ∀ F, Ex F1 F → Ex F H → ∃ F', Gr F H F' H' ∧ Is K C F' x d
def WD (K : PySem.W.Frag) (C : Nat → Addr) (wi : TI) (δ : List Sd) (ds : List D) : Prop := ∀ F σ H (R : It → Hp → Prop), Ok K C δ F σ H → (∀ J F1 H1, Gr F H F1 H1 → WalkD K C J F1 ds → R J H1) → wi σ H R
theorem wd_list (h : ED K C te δ (.lst ds)) : WD K C (iList K te) δ ds := fun F σ H R ok q =>
  h F σ H _ ok fun v F1 H1 g1 i1 => by
    cases i1 with
    | lst e r =>
      rename_i a vs
      refine ⟨a, rfl, ⟨_, .of (g1.fh _ _ e)⟩, q _ F1 H1 g1 ?_⟩
      unfold WalkD
      rw [← r.length]
      refine walk_list.mono (fun H x => .of (x _ _ e)) fun i H x H' hi hF y => ?_
      obtain ⟨rfl, hx⟩ := y
      obtain ⟨d, h1, h2⟩ := r.get hx
      exact ⟨d, h1, fun F a b => ⟨F, .refl b, h2.mono a⟩⟩
def enumD (ds : List D) : List D := ds.mapIdx fun i d => .tup [.int (i : Nat), d]
theorem wd_enum (h : ED K C te δ (.lst ds)) : WD K C (iEnum K (tCons te tNil)) δ (enumD ds) := fun F σ H R ok q =>
  h F σ H _ ok fun v F1 H1 g1 i1 => by
    cases i1 with
    | lst e r =>
      rename_i a vs
      refine ⟨a, vs, rfl, .of (g1.fh _ _ e), q _ F1 H1 g1 ?_⟩
      unfold WalkD enumD
      rw [List.length_mapIdx, ← r.length]
      refine walk_enum.mono (fun H x => .of (x _ _ e)) fun i H x H' hi hF y => ?_
      obtain ⟨T, a1, b1, rfl, hT, rfl, e1, e2⟩ := y
      cases e1
      obtain ⟨d, h1, h2⟩ := r.get e2
      refine ⟨.tup [.int (i : Nat), d], by rw [List.getElem?_mapIdx, h1]; rfl, fun F a b => ⟨upd F T (.tup [.int (i : Nat), b1]), .lay b hT, ?_⟩⟩
      exact .tup (.of upd_same) (.cons (.int _) (.cons (h2.mono (a.trans (Ex.new (b.back hT)))) .nil))
theorem wd_zip (h : ED K C ta δ (.lst ds)) (h' : ED K C tb δ (.lst es)) : WD K C (iZip K (tCons ta (tCons tb tNil))) δ (List.zipWith (fun a b => .tup [a, b]) ds es) := fun F σ H R ok q =>
  h F σ H _ ok fun v F1 H1 g1 i1 => h' F1 σ H1 _ (ok.gr g1) fun w F2 H2 g2 i2 => by
    have i1 := i1.mono g2.f
    cases i1 with
    | lst e r =>
      rename_i a vs
      cases i2 with
      | lst e' r' =>
        rename_i b ws
        refine ⟨a, b, vs, ws, rfl, .of (g2.fh _ _ e), .of (g2.fh _ _ e'), q _ F2 H2 (g1.trans g2) ?_⟩
        unfold WalkD
        rw [List.length_zipWith, ← r.length, ← r'.length]
        refine (walk_zip (n := min vs.length ws.length) rfl).mono (fun H x => ⟨.of (x _ _ e), .of (x _ _ e')⟩) fun i H x H' hi hF y => ?_
        obtain ⟨T, a1, b1, rfl, hT, rfl, e1, e2⟩ := y
        obtain ⟨d, h1, h2⟩ := r.get e1
        obtain ⟨d', h1', h2'⟩ := r'.get e2
        refine ⟨.tup [d, d'], by rw [List.getElem?_zipWith, h1, h1'], fun F a b => ⟨upd F T (.tup [a1, b1]), .lay b hT, ?_⟩⟩
        have e := a.trans (Ex.new (o := .tup [a1, b1]) (b.back hT))
        exact .tup (.of upd_same) (.cons (h2.mono e) (.cons (h2'.mono e) .nil))
theorem wd_range {n : Int} (h : ED K C te δ (.int n)) (hn : -1000000 ≤ n ∧ n ≤ 1000000) : WD K C (iRng1 (tCons te tNil)) δ ((List.range n.toNat).map fun (i : Nat) => D.int i) := fun F σ H R ok q =>
  h F σ H _ ok fun v F1 H1 g1 i1 => by
    cases i1
    refine ⟨n, rfl, by omega, by omega, q _ F1 H1 g1 ?_⟩
    unfold WalkD
    rw [List.length_map, List.length_range]
    refine walk_range.mono (fun H x => trivial) fun i H x H' hi hF y => ?_
    obtain ⟨rfl, rfl⟩ := y
    refine ⟨.int i, by rw [List.getElem?_map, List.getElem?_range hi]; rfl, fun F a b => ⟨F, .refl b, ?_⟩⟩
    show Is K C F (.int (0 + (i : Int))) (.int i)
    rw [Int.zero_add]
    exact .int _

/-! ### for -/
theorem gr_base {F1 H1 : Hp} (g : Gr F0 H0 F1 H1) (k : Gr F1 H0 F H) : Gr F0 H0 F H := ⟨g.f.trans k.f, k.h, k.fh, fun a h1 h2 => k.nw a (g.nw a h1 h2) h2⟩
theorem sd_for {wi : TI} {g : TG} {tb : TS} {ts : List Nat} (P : Nat → List Sd) (hw : WD K C wi δ ds) (h0 : Sle δ (P 0))
    (hs : ∀ i d, ds[i]? = some d → ∃ δ1, GD K C g ts (P i) d δ1 ∧ SD K C CE tb E δ1 (.nx (P (i + 1)))) : SD K C CE (tFor wi g tb) E δ (.nx (P ds.length)) := fun H0 F0 F σ H D ok p =>
  hw F σ H _ ok.ok fun J F1 H1 g1 wd => by
    have ok1 := (ok.grow g1).le h0
    refine for_it wd (fun i σ H => ∃ F, Okf K C H0 F1 (P i) F σ H) ⟨F1, ok1.ok, ⟨Ex.refl _, ok1.gr.h, ok1.gr.fh, fun a b _ => b⟩, ok1.own0⟩ (fun i σ H _ ⟨F, k⟩ => k.gr.f.trans k.gr.fh) ?_ ?_
    · rintro i x σ H H' hi ⟨F, k⟩ ⟨d, hd, y⟩
      obtain ⟨F', gF, ix⟩ := y F k.gr.f k.ok.fh
      obtain ⟨δ1, hg, hb⟩ := hs i d hd
      have k1 := k.grow gF
      refine hg F' σ H' x _ k1.ok ix fun σ' ok' a b => ?_
      exact hb H0 F1 F' σ' H' _ (k1.took ok' a b) fun F2 σ2 H2 k2 => ⟨F2, k2⟩
    · rintro σ H ⟨F, k⟩
      exact p F σ H ⟨k.ok, gr_base (ok.gr.trans g1) k.gr, k.own0⟩
/-- a loop that may return: st tells at which turn, and what -/
theorem sd_forR {wi : TI} {g : TG} {tb : TS} {ts : List Nat} (P : Nat → List Sd) (st : Nat → Option D) (hw : WD K C wi δ ds) (h0 : Sle δ (P 0))
    (hs : ∀ i d, ds[i]? = some d → ∃ δ1, GD K C g ts (P i) d δ1 ∧ SD K C CE tb E δ1 (match st i with | none => .nx (P (i + 1)) | some r => .rt r))
    (ho : (∀ i, i < ds.length → st i = none) → o = .nx (P ds.length)) (hr : ∀ i r, i < ds.length → st i = some r → (∀ j, j < i → st j = none) → o = .rt r) : SD K C CE (tFor wi g tb) E δ o := fun H0 F0 F σ H D ok p =>
  hw F σ H _ ok.ok fun J F1 H1 g1 wd => by
    have ok1 := (ok.grow g1).le h0
    refine for_it wd (fun i σ H => (∃ F, Okf K C H0 F1 (P i) F σ H) ∧ ∀ j, j < i → st j = none) ⟨⟨F1, ok1.ok, ⟨Ex.refl _, ok1.gr.h, ok1.gr.fh, fun a b _ => b⟩, ok1.own0⟩, fun j hj => absurd hj (Nat.not_lt_zero _)⟩ (fun i σ H _ ⟨⟨F, k⟩, _⟩ => k.gr.f.trans k.gr.fh) ?_ ?_
    · rintro i x σ H H' hi ⟨⟨F, k⟩, no⟩ ⟨d, hd, y⟩
      obtain ⟨F', gF, ix⟩ := y F k.gr.f k.ok.fh
      obtain ⟨δ1, hg, hb⟩ := hs i d hd
      have k1 := k.grow gF
      refine hg F' σ H' x _ k1.ok ix fun σ' ok' a b => ?_
      refine hb H0 F1 F' σ' H' _ (k1.took ok' a b) ?_
      cases e : st i with
      | none =>
        intro F2 σ2 H2 k2
        refine ⟨⟨F2, k2⟩, fun j hj => ?_⟩
        rcases Nat.lt_succ_iff_lt_or_eq.mp hj with hj | hj
        · exact no j hj
        · rw [hj, e]
      | some r =>
        have e2 := hr i r hi e no
        rw [e2] at p
        intro v F2 H2 g2 i2
        exact p v F2 H2 (gr_base (ok.gr.trans g1) g2) i2
    · rintro σ H ⟨⟨F, k⟩, no⟩
      rw [ho no] at p
      exact p F σ H ⟨k.ok, gr_base (ok.gr.trans g1) k.gr, k.own0⟩

/-! ### while -/
theorem sd_while {α : Type} {tc : TT} {tb : TS} (P : α → List Sd) (I : α → Prop) (b : α → Bool) (μ : α → Nat) (next : α → α) (a0 : α) (i0 : I a0) (h0 : Sle δ (P a0)) (hc : ∀ a, I a → TD K C tc (P a) (b a))
    (hs : ∀ a, I a → b a = true → SD K C CE tb E (P a) (.nx (P (next a))) ∧ I (next a) ∧ μ (next a) < μ a) (hd : ∀ a, I a → b a = false → Sle (P a) δ') : SD K C CE (tWhile tc tb) E δ (.nx δ') := fun H0 F0 F σ H D ok p => by
  refine ⟨fun m σ H => ∃ a F, I a ∧ μ a = m ∧ Okf K C H0 F0 (P a) F σ H, ⟨_, a0, F, i0, rfl, ok.le h0⟩, ?_⟩
  rintro m σ H ⟨a, F, ia, rfl, k⟩
  refine hc a ia F σ H _ k.ok fun F1 H1 g1 => ?_
  cases e : b a with
  | true =>
    obtain ⟨h1, h2, h3⟩ := hs a ia e
    refine iteT ⟨fun σ' H' => ∃ F', Okf K C H0 F0 (P (next a)) F' σ' H', fun σ' H' ⟨F', k'⟩ => ⟨_, h3, next a, F', h2, rfl, k'⟩, ?_⟩
    exact h1 H0 F0 F1 σ H1 _ (k.grow g1) fun F2 σ2 H2 k2 => ⟨F2, k2⟩
  | false => exact iteF (p F1 σ H1 ((k.grow g1).le (hd a ia e)))

/-! ### comprehensions -/
def wipeD (δ : List Sd) : List Nat → List Sd
  | [] => δ
  | v :: vs => (wipeD δ vs).set v .any
theorem Ok.set_none (ok : Ok K C δ F σ H) (i : Nat) : Ok K C (δ.set i .any) F (σ.set i none) H where
  fh := ok.fh
  len := by rw [List.length_set, List.length_set, ok.len]
  dat := fun j e hj => by
    rw [List.getElem?_set] at hj
    split at hj
    · split at hj <;> cases hj
    · rename_i n
      rw [List.getElem?_set, if_neg n]
      exact ok.dat j e hj
  own := fun j e hj => by
    rw [List.getElem?_set] at hj
    split at hj
    · split at hj <;> cases hj
    · rename_i n
      rw [List.getElem?_set, if_neg n]
      exact ok.own j e hj
  sep := fun a b p e1 e2 h1 h2 h3 h4 => by
    rw [List.getElem?_set] at h1 h2 h3 h4
    split at h1
    · split at h1 <;> cases h1
    · split at h2
      · split at h2 <;> cases h2
      · rename_i n1 n2
        rw [if_neg n1] at h3
        rw [if_neg n2] at h4
        exact ok.sep a b p e1 e2 h1 h2 h3 h4
theorem Ok.wiped (ok : Ok K C δ F σ H) : ∀ vs : List Nat, Ok K C (wipeD δ vs) F (wipe σ vs) H
  | [] => ok
  | v :: vs => (Ok.wiped ok vs).set_none v
theorem wipe_get (σ : L2.St) (j : Nat) : ∀ vs : List Nat, (wipe σ vs)[j]? = if j ∈ vs ∧ j < σ.length then some none else σ[j]?
  | [] => by simp [wipe]
  | v :: vs => by
    unfold wipe
    rw [List.getElem?_set, wipe_get σ j vs, wipe_length]
    by_cases h1 : v = j
    · subst h1
      by_cases h2 : v < σ.length
      · simp [h2]
      · simp [h2, List.getElem?_eq_none_iff.mpr (Nat.le_of_not_lt h2)]
    · rw [if_neg h1]
      have h2 : j ≠ v := fun z => h1 z.symm
      simp [h2]
theorem wipe_eq {σ' : L2.St} {ts vs : List Nat} (hl : σ'.length = σ.length) (h : ∀ j, j ∉ ts → σ'[j]? = (wipe σ vs)[j]?) (ht : ∀ j ∈ ts, j ∈ vs) : wipe σ' vs = wipe σ vs := by
  apply List.ext_getElem?
  intro j
  rw [wipe_get, wipe_get, hl]
  by_cases h1 : j ∈ vs ∧ j < σ.length
  · rw [if_pos h1, if_pos h1]
  · rw [if_neg h1, if_neg h1]
    by_cases h2 : j ∈ ts
    · have h3 := ht j h2
      have h4 : ¬ j < σ.length := fun z => h1 ⟨h3, z⟩
      rw [List.getElem?_eq_none_iff.mpr (Nat.le_of_not_lt h4), List.getElem?_eq_none_iff.mpr (by rw [hl]; exact Nat.le_of_not_lt h4)]
    · rw [h j h2, wipe_get, if_neg h1]
theorem take_more' {α : Type} : ∀ {l : List α} {i : Nat} {x : α}, l[i]? = some x → l.take (i + 1) = l.take i ++ [x]
  | [], i, x, h => by simp at h
  | a :: l, 0, x, h => by
    have e : a = x := Option.some.inj h
    subst e
    rfl
  | a :: l, i + 1, x, h => by
    have ih := take_more' (l := l) (i := i) (x := x) h
    show a :: l.take (i + 1) = a :: l.take i ++ [x]
    rw [ih]
    rfl
theorem wipeD_length : ∀ vs : List Nat, (wipeD δ vs).length = δ.length
  | [] => rfl
  | v :: vs => by unfold wipeD; rw [List.length_set, wipeD_length vs]
theorem el_lc {wi : TI} {g : TG} {tt : TT} {vs ts : List Nat} (p : D → Bool) (f : D → D) (hw : WD K C wi δ ds) (ht : ∀ j ∈ ts, j ∈ vs)
    (hs : ∀ d, d ∈ ds → ∃ δ1, δ1.length = δ.length ∧ GD K C g ts (wipeD δ vs) d δ1 ∧ TD K C tt δ1 (p d) ∧ (p d = true → ED K C te δ1 (f d))) (hl : ds.length ≤ 1000000) : EL K C (tLc wi g tt te vs) δ ((ds.filter p).map f) := fun F σ H Q ok q =>
  hw F σ H _ ok fun J F1 H1 g1 wd => fun Dd hD => by
    refine lc_it wd (fun i H' => ∃ F' acc, Gr F1 H1 F' H' ∧ H' Dd = some (.lst acc) ∧ F' Dd = none ∧ IsL K C F' acc (((ds.take i).filter p).map f)) ⟨F1, [], .lay0 g1.fh hD, upd_same, g1.fh.back hD, .nil⟩ (fun i H' _ ⟨F', acc, k, _⟩ => k.f.trans k.fh) ?_ ?_
    · rintro i x H2 H3 hi ⟨F2, acc, k2, e2, n2, r2⟩ ⟨d, hd, y⟩
      obtain ⟨F3, g3, ix⟩ := y F2 k2.f k2.fh
      obtain ⟨δ1, hlen, hg, htst, hte⟩ := hs d (List.mem_of_getElem? hd)
      have ok3 := (ok.gr ((g1.trans k2).trans g3)).wiped vs
      refine hg F3 _ H3 x _ ok3 ix fun σ' ok' a b => ?_
      refine ⟨wipe_eq (by rw [ok'.len, hlen, ok.len]) a ht, ?_⟩
      refine htst F3 σ' H3 _ ok' fun F4 H4 g4 => ?_
      have kk := (k2.trans g3).trans g4
      have e4 := g4.h _ _ (g3.h _ _ e2)
      have n3 := g3.nw _ n2 (by rw [e2]; simp)
      have n4 := g4.nw _ n3 (by rw [g3.h _ _ e2]; simp)
      have r4 := r2.mono (g3.f.trans g4.f)
      cases e : p d with
      | true =>
        refine iteT (hte e F4 σ' H4 _ (ok'.gr g4) fun v F5 H5 g5 i5 => ?_)
        have e5 := g5.h _ _ e4
        have n5 := g5.nw _ n4 (by rw [e4]; simp)
        have k5 := kk.trans g5
        have r5 := (r4.mono g5.f).append (.one i5)
        refine ⟨acc, e5, ?_, F5, acc ++ [v], ⟨k5.f, fun a u h => ?_, fun a u h => ?_, k5.nw⟩, upd_same, n5, ?_⟩
        · have z := r4.length
          have z2 : (((ds.take i).filter p).map f).length ≤ (ds.take i).length := by rw [List.length_map]; exact List.length_filter_le _ _
          rw [List.length_take] at z2
          exact Nat.lt_of_le_of_lt (show acc.length ≤ 1000000 by omega) (by decide)
        · have nn : a ≠ Dd := fun z => by
            rw [z, hD] at h
            cases h
          rw [upd_ne nn]
          exact k5.h a u h
        · have nn : a ≠ Dd := fun z => by
            rw [z, n5] at h
            cases h
          rw [upd_ne nn]
          exact k5.fh a u h
        · rw [take_more' hd, List.filter_append, List.map_append]
          simpa [e] using r5
      | false =>
        refine iteF ⟨F4, acc, kk, e4, n4, ?_⟩
        rw [take_more' hd, List.filter_append, List.map_append]
        simpa [e] using r4
    · rintro H2 ⟨F2, acc, k2, e2, n2, r2⟩
      rw [List.take_length] at r2
      exact q Dd acc F2 H2 (g1.trans k2) (g1.h.back hD) e2 n2 r2
theorem ed_lc {wi : TI} {g : TG} {tt : TT} {vs ts : List Nat} (p : D → Bool) (f : D → D) (hw : WD K C wi δ ds) (ht : ∀ j ∈ ts, j ∈ vs)
    (hs : ∀ d, d ∈ ds → ∃ δ1, δ1.length = δ.length ∧ GD K C g ts (wipeD δ vs) d δ1 ∧ TD K C tt δ1 (p d) ∧ (p d = true → ED K C te δ1 (f d))) (hl : ds.length ≤ 1000000) : ED K C (tLc wi g tt te vs) δ (.lst ((ds.filter p).map f)) := (el_lc p f hw ht hs hl).ed

/-! ### three names at once -/
theorem sd_par3 {i j l : Nat} {t : TA} (h : AD K C t δ [x, y, z]) : SD K C CE (tPar3 i j l t) E δ (.nx (((δ.set i (.dat x)).set j (.dat y)).set l (.dat z))) := fun H0 F0 F σ H D ok p =>
  h F σ H _ ok.ok fun vs F' H' g r => by
    cases r with
    | cons a r =>
      cases r with
      | cons b r =>
        cases r with
        | cons c r =>
          cases r
          exact ⟨_, _, _, rfl, p F' _ H' ((((ok.grow g).set_dat i a).set_dat j b).set_dat l c)⟩

/-! ### a def's promise from its body -/
theorem start_get {N : List Str} {vs : List V} {i : Nat} {v : V} (h : vs[i]? = some v) : (L2.start N vs)[i]? = some (some v) := by
  unfold L2.start
  obtain ⟨hl, e⟩ := List.getElem?_eq_some_iff.mp h
  rw [List.getElem?_append_left (by rw [List.length_map]; exact hl), List.getElem?_map, h]
  rfl
theorem Ok.start {N : List Str} {vs : List V} {k : Nat} (fh : Ex F H) (r : IsL K C F vs ds) (hN : N.length = ds.length + k) : Ok K C (ds.map .dat ++ List.replicate k .any) F (L2.start N vs) H where
  fh := fh
  len := by
    have e := r.length
    unfold L2.start
    rw [List.length_append, List.length_append, List.length_map, List.length_map, List.length_replicate, List.length_replicate]
    omega
  dat := fun i d h => by
    by_cases hi : i < ds.length
    · rw [List.getElem?_append_left (by rw [List.length_map]; exact hi), List.getElem?_map] at h
      cases e : ds[i]? with
      | none =>
        rw [e] at h
        cases h
      | some d' =>
        rw [e] at h
        cases h
        obtain ⟨v, h1, h2⟩ := r.get' e
        exact ⟨v, start_get h1, h2⟩
    · rw [List.getElem?_append_right (by rw [List.length_map]; omega), List.getElem?_replicate] at h
      split at h <;> cases h
  own := fun i es h => by
    by_cases hi : i < ds.length
    · rw [List.getElem?_append_left (by rw [List.length_map]; exact hi), List.getElem?_map] at h
      cases e : ds[i]? with
      | none =>
        rw [e] at h
        cases h
      | some d' =>
        rw [e] at h
        cases h
    · rw [List.getElem?_append_right (by rw [List.length_map]; omega), List.getElem?_replicate] at h
      split at h <;> cases h
  sep := fun i j p es es' h => by
    by_cases hi : i < ds.length
    · rw [List.getElem?_append_left (by rw [List.length_map]; exact hi), List.getElem?_map] at h
      cases e : ds[i]? with
      | none =>
        rw [e] at h
        cases h
      | some d' =>
        rw [e] at h
        cases h
    · rw [List.getElem?_append_right (by rw [List.length_map]; omega), List.getElem?_replicate] at h
      split at h <;> cases h
/-- how a body ends so that the def keeps its promise -/
def Ends.fit (r : Except Int D) (o : Out) : Prop := match r with
  | .ok d => o = .rt d ∨ (d = .non ∧ ∃ δ, o = .nx δ)
  | .error c => o = .rs c
def outOf : Except Int D → Out
  | .ok d => .rt d
  | .error c => .rs c
theorem fit_outOf (r : Except Int D) : Ends.fit r (outOf r) := by
  cases r with
  | ok d => exact .inl rfl
  | error c => rfl
theorem pure_of {N : List Str} {k : Nat} {ts : TS} {R : List D → Except Int D → Prop} {vs : List V} {Q : VK}
    (h : ∀ ds r, R ds r → N.length = ds.length + k ∧ ∃ o, Ends.fit r o ∧ SD K C CE ts E (ds.map .dat ++ List.replicate k .any) o) (hsp : spP K C CE R vs H Q E) :
    ts { nx := fun _ H' => Q .non H', rt := Q } (L2.start N vs) H := by
  obtain ⟨F, ds, r, fh, rl, hR, q⟩ := hsp
  obtain ⟨hN, o, fit, hs⟩ := h ds r hR
  have ok := Ok.start (N := N) fh rl hN
  refine hs H F F _ H _ ⟨ok, .refl fh, fun i es p h1 _ => ?_⟩ ?_
  · by_cases hi : i < ds.length
    · rw [List.getElem?_append_left (by rw [List.length_map]; exact hi), List.getElem?_map] at h1
      cases e : ds[i]? with
      | none =>
        rw [e] at h1
        cases h1
      | some d' =>
        rw [e] at h1
        cases h1
    · rw [List.getElem?_append_right (by rw [List.length_map]; omega), List.getElem?_replicate] at h1
      split at h1 <;> cases h1
  · cases r with
    | ok d =>
      rcases fit with rfl | ⟨rfl, δ, rfl⟩
      · exact fun v F' H' g i => q v F' H' g i
      · exact fun F' σ' H' k => q .non F' H' k.gr .non
    | error c =>
      cases fit
      exact q
theorem spP_len {n : Nat} {R : List D → Except Int D → Prop} (h : ∀ ds r, R ds r → ds.length = n) (vs : List V) (H : Hp) (Q : VK) (E : XK) (hsp : spP K C CE R vs H Q E) : vs.length = n := by
  obtain ⟨F, ds, r, fh, rl, hR, q⟩ := hsp
  rw [rl.length, h ds r hR]
end

/-! ### defs that may raise, by name -/
structure CalX (P : Program) (w : World) (K : PySem.W.Frag) (mg : Str → Option Value) (base : Heap) (k : Nat) (x : Str) (sp : Sp) : Prop where
  ex : ∃ (f : Addr) (fd : FuncData) (ps : List Str), FnOk P w K mg base (L2.CX P w) k f fd ps sp ∧ mg x = some (.ref f) ∧ PySem.W.keepIn K (.ref f) = true ∧ Binds K fd ps []
structure Cal0 (P : Program) (w : World) (K : PySem.W.Frag) (mg : Str → Option Value) (base : Heap) (k : Nat) (x : Str) (sp : Sp) : Prop where
  ex : ∃ (f : Addr) (fd : FuncData) (ps : List Str), FnOk P w K mg base CX0 k f fd ps sp ∧ mg x = some (.ref f) ∧ PySem.W.keepIn K (.ref f) = true ∧ Binds K fd ps []
section
variable {X : Cx} {k j : Nat} {x : Str} {sp : Sp} {p pos : Pos} {e : Expr} {es : List Expr} {t : TA} {E : XK}
theorem pe_cx (c : CalX X.prog X.w X.K X.mg X.base k x sp) (hr : Room j X.A) (hk : k ≤ j) (hg : Gl X x) (hx : Passes (L2.CX X.prog X.w) X E) (ha : PA X (e :: es) t)
    (hdb : (x == ("__debug__" : Str)) = false := by decide) (he : starEach (e :: es) X.env = (false, eval e X.env) :: starEach es X.env := by rfl) (hpl : (backTo pos (starEach es X.env)).any (·.1) = false := by rfl) :
    PE X (.Call (.Name x p) (e :: es) [] pos) (tCall sp [] E t) := by
  obtain ⟨f, fd, ps, F, hm, kp, b⟩ := c.ex
  exact pe_call F (hr.mono hk) hg hm kp b .nil hx ha hdb he hpl
theorem pe_c0 (c : Cal0 X.prog X.w X.K X.mg X.base k x sp) (hr : Room j X.A) (hk : k ≤ j) (hg : Gl X x) (ha : PA X (e :: es) t)
    (hdb : (x == ("__debug__" : Str)) = false := by decide) (he : starEach (e :: es) X.env = (false, eval e X.env) :: starEach es X.env := by rfl) (hpl : (backTo pos (starEach es X.env)).any (·.1) = false := by rfl) :
    PE X (.Call (.Name x p) (e :: es) [] pos) (tCall sp [] E0 t) := by
  obtain ⟨f, fd, ps, F, hm, kp, b⟩ := c.ex
  exact pe_call F (hr.mono hk) hg hm kp b .nil pass0 ha hdb he hpl
end
end Pd

/-! ## Rd -/
set_option Elab.async false
set_option linter.all false
set_option maxRecDepth 100000
set_option maxHeartbeats 2000000
set_option autoImplicit false
/-! The readings of the program's defs, and that their bodies have them: printed by gen.py. -/
namespace Pd
open PySem PySem.Spec PyProof.Rows L2

abbrev rSubA : R2 := rI0 fun i j => .int (i - j)
abbrev rMulA : R2 := rI CMulW fun i j => .int (i * j)
abbrev rDivA : R2 := rI CDivW fun i j => .int (i / j)
abbrev rModA : R2 := rI (fun _ j => 0 < j) fun i j => .int (i % j)
abbrev rNegA : V → Hp → VK → Prop := rU fun i => .int (-i)
abbrev rLtA : R2 := rI0 fun i j => .bl (decide (i < j))
abbrev rLeA : R2 := rI0 fun i j => .bl (decide (i ≤ j))
abbrev rGtA : R2 := rI0 fun i j => .bl (decide (j < i))
abbrev rGeA : R2 := rI0 fun i j => .bl (decide (j ≤ i))
def rAddA : R2 := fun x y H Q => rI0 (fun i j => .int (i + j)) x y H Q ∨ rCat x y H Q
def rEqA (K : PySem.W.Frag) : R2 := fun x y H Q => rEq x y H Q ∨ rEqD K x y H Q
def rNeA (K : PySem.W.Frag) : R2 := fun x y H Q => rNe x y H Q ∨ rNeD K x y H Q
section
variable {X : Cx}
theorem op_addA : OpR X (binaryOp .Add) rAddA := op_add.or op_cat
theorem op_eqA (hu : X.A.units + 64 < cLine) : OpR X (compareOp .Eq) (rEqA X.K) := op_eq.or (op_eqD hu)
theorem op_neA (hu : X.A.units + 64 < cLine) : OpR X (compareOp .NotEq) (rNeA X.K) := op_ne.or (op_neD hu)
end
theorem pe_gc2 {X : Cx} {x : Str} {v : V} {pos : Pos} (hg : Gl X x) (h : ∃ u, X.mg x = some u ∧ RelV v u) (hd : (x == ("__debug__" : Str)) = false := by decide) : PE X (.Name x pos) (tC v) := by
  obtain ⟨u, h1, h2⟩ := h
  exact pe_glob hg h1 h2 hd
theorem hu65 {k : Nat} {A : Around} (r : Room k A) : A.units + 65 < cLine := by have := r.un; omega
/-- a class made by its name -/
structure MakX (P : Program) (w : World) (K : PySem.W.Frag) (mg : Str → Option Value) (base : Heap) (k : Nat) (x : Str) (C : Addr) (sp : Sp) : Prop where
  ex : ∃ (f : Addr) (fd : FuncData) (ps : List Str), Mk K C f ∧ FnOk P w K mg base CX0 k f fd ps sp ∧ mg x = some (.ref C) ∧ Binds K fd ps []
section
variable {X : Cx} {k j : Nat} {x : Str} {C : Addr} {sp : Sp} {p pos : Pos} {e : Expr} {es : List Expr} {t : TA}
theorem pe_mx (c : MakX X.prog X.w X.K X.mg X.base k x C sp) (hr : Room j X.A) (hk : k + 1 ≤ j) (hg : Gl X x) (ha : PA X (e :: es) t)
    (hdb : (x == ("__debug__" : Str)) = false := by decide) (he : starEach (e :: es) X.env = (false, eval e X.env) :: starEach es X.env := by rfl) (hpl : (backTo pos (starEach es X.env)).any (·.1) = false := by rfl) :
    PE X (.Call (.Name x p) (e :: es) [] pos) (tMake C sp [] E0 t) := by
  obtain ⟨f, fd, ps, M, F, hm, b⟩ := c.ex
  exact pe_make M F (hr.mono hk) hg hm b .nil pass0 ha hdb he hpl
theorem pe_mx0 (c : MakX X.prog X.w X.K X.mg X.base k x C sp) (hr : Room j X.A) (hk : k + 1 ≤ j) (hg : Gl X x)
    (hdb : (x == ("__debug__" : Str)) = false := by decide) :
    PE X (.Call (.Name x p) [] [] pos) (tMake C sp [] E0 tNil) := by
  obtain ⟨f, fd, ps, M, F, hm, b⟩ := c.ex
  exact pe_make0 M F (hr.mono hk) hg hm b .nil pass0 hdb
end
/-- where the top's classes and tables stand -/
structure Ad where
  c : Nat → Addr
  ce : Addr
  ci : Addr
  pl : Addr
  nought : Addr
  one : Addr
  numbers : Addr
  lists : Addr
  deeds : Addr
structure Cst (K : PySem.W.Frag) (mg : Str → Option Value) (A : Ad) : Prop where
  g_PERCENT : ∃ u, mg "PERCENT" = some u ∧ RelV (.int 100) u
  g_MOST_PERCENT : ∃ u, mg "MOST_PERCENT" = some u ∧ RelV (.int 300) u
  g_NOT_MADE : ∃ u, mg "NOT_MADE" = some u ∧ RelV (.int (-11)) u
  g_NOT_THERE : ∃ u, mg "NOT_THERE" = some u ∧ RelV (.int (-2)) u
  g_OUT_OF_RANGE : ∃ u, mg "OUT_OF_RANGE" = some u ∧ RelV (.int (-22)) u
  g_TOO_MANY : ∃ u, mg "TOO_MANY" = some u ∧ RelV (.int (-28)) u
  g_NONE_SUCH : ∃ u, mg "NONE_SUCH" = some u ∧ RelV (.int (-33)) u
  g_MOST_RATE : ∃ u, mg "MOST_RATE" = some u ∧ RelV (.int 100000) u
  g_MOST_NUMBER : ∃ u, mg "MOST_NUMBER" = some u ∧ RelV (.int 1000000) u
  g_NOUGHT : ∃ u, mg "NOUGHT" = some u ∧ RelV (.ref A.nought) u
  g_ONE : ∃ u, mg "ONE" = some u ∧ RelV (.ref A.one) u
  g_NUMBERS : ∃ u, mg "NUMBERS" = some u ∧ RelV (.ref A.numbers) u
  g_LISTS : ∃ u, mg "LISTS" = some u ∧ RelV (.ref A.lists) u
  g_DEEDS : ∃ u, mg "DEEDS" = some u ∧ RelV (.ref A.deeds) u
  k_nought : ∀ H, SqT K H A.nought ([0, 1].map V.int)
  k_one : ∀ H, SqT K H A.one ([1, 1].map V.int)
  k_numbers : ∀ H, SqT K H A.numbers ([1, 2, 2, 2, 2, 4, 2, 3, 2, 2, 1, 1, 0, 0, 2, 0, 0, 2, 0, 0, 0, 0, 0].map V.int)
  b_len : mg "len" = none
  b_abs : mg "abs" = none
  b_sum : mg "sum" = none
  b_sorted : mg "sorted" = none
  b_list : mg "list" = none
  b_int : mg "int" = none
  b_range : mg "range" = none
  b_enumerate : mg "enumerate" = none
  b_zip : mg "zip" = none
  cls0 : Cls K (A.c 0)
  cls1 : Cls K (A.c 1)
  cls2 : Cls K (A.c 2)
  clsP : Cls K A.pl
  a_servers : NoAttr K (A.c 0) "servers"
  a_rate : NoAttr K (A.c 0) "rate"
  a_cost : NoAttr K (A.c 0) "cost"
  a_arrival : NoAttr K (A.c 1) "arrival"
  a_weight : NoAttr K (A.c 1) "weight"
  a_options : NoAttr K (A.c 1) "options"
  a_stations : NoAttr K (A.c 2) "stations"
  a_target : NoAttr K (A.c 2) "target"
  a_limit : NoAttr K (A.c 2) "limit"
  a_model : NoAttr K A.pl "model"
  ref : PySem.RefX.RefTxt K mg A.ce A.ci

def top (i : Nat) : Stmt := PySem.Challenge.pw_stationplans_s01_answers.main.body.getD i (.Pass ⟨0, 0, 0, 0⟩)
section
variable {P : Program} {w : World} {K : PySem.W.Frag} {mg : Str → Option Value} {base : Heap} {A : Ad}

/-! ### common -/
abbrev s_common : Stmt := top 3
theorem sc_common : FnScope ["one", "other"] ["one", "other"] (defScope s_common) := ⟨rfl, rfl, rfl, by decide +kernel, rfl, by decide +kernel, by decide +kernel⟩
/-! ### fraction -/
abbrev s_fraction : Stmt := top 4
theorem sc_fraction : FnScope ["num", "den", "divisor"] ["num", "den"] (defScope s_fraction) := ⟨rfl, rfl, rfl, by decide +kernel, rfl, by decide +kernel, by decide +kernel⟩
/-! ### plus -/
abbrev s_plus : Stmt := top 5
theorem sc_plus : FnScope ["one", "other"] ["one", "other"] (defScope s_plus) := ⟨rfl, rfl, rfl, by decide +kernel, rfl, by decide +kernel, by decide +kernel⟩
/-! ### minus -/
abbrev s_minus : Stmt := top 6
theorem sc_minus : FnScope ["one", "other"] ["one", "other"] (defScope s_minus) := ⟨rfl, rfl, rfl, by decide +kernel, rfl, by decide +kernel, by decide +kernel⟩
/-! ### times -/
abbrev s_times : Stmt := top 7
theorem sc_times : FnScope ["one", "other"] ["one", "other"] (defScope s_times) := ⟨rfl, rfl, rfl, by decide +kernel, rfl, by decide +kernel, by decide +kernel⟩
/-! ### over -/
abbrev s_over : Stmt := top 8
theorem sc_over : FnScope ["one", "other"] ["one", "other"] (defScope s_over) := ⟨rfl, rfl, rfl, by decide +kernel, rfl, by decide +kernel, by decide +kernel⟩
/-! ### is_less -/
abbrev s_is_less : Stmt := top 9
theorem sc_is_less : FnScope ["one", "other"] ["one", "other"] (defScope s_is_less) := ⟨rfl, rfl, rfl, by decide +kernel, rfl, by decide +kernel, by decide +kernel⟩
/-! ### whole -/
abbrev s_whole : Stmt := top 10
theorem sc_whole : FnScope ["number"] ["number"] (defScope s_whole) := ⟨rfl, rfl, rfl, by decide +kernel, rfl, by decide +kernel, by decide +kernel⟩
/-! ### sum_of -/
abbrev s_sum_of : Stmt := top 11
theorem sc_sum_of : FnScope ["some", "found", "one"] ["some"] (defScope s_sum_of) := ⟨rfl, rfl, rfl, by decide +kernel, rfl, by decide +kernel, by decide +kernel⟩
/-! ### has_all -/
abbrev s_has_all : Stmt := top 13
theorem sc_has_all : FnScope ["table", "rows", "row"] ["table"] (defScope s_has_all) := ⟨rfl, rfl, rfl, by decide +kernel, rfl, by decide +kernel, by decide +kernel⟩
/-! ### least_value -/
abbrev s_least_value : Stmt := top 14
theorem sc_least_value : FnScope ["rows", "multiplier", "least", "row", "value"] ["rows", "multiplier"] (defScope s_least_value) := ⟨rfl, rfl, rfl, by decide +kernel, rfl, by decide +kernel, by decide +kernel⟩
/-! ### bound_for -/
abbrev s_bound_for : Stmt := top 15
theorem sc_bound_for : FnScope ["table", "target", "multiplier", "rows"] ["table", "target", "multiplier"] (defScope s_bound_for) := ⟨rfl, rfl, rfl, by decide +kernel, rfl, by decide +kernel, by decide +kernel⟩
/-! ### breakpoints_of -/
abbrev s_breakpoints_of : Stmt := top 16
theorem sc_breakpoints_of : FnScope ["rows", "some", "found", "cost", "number", "other_cost", "other_number", "less", "row"] ["rows"] (defScope s_breakpoints_of) := ⟨rfl, rfl, rfl, by decide +kernel, rfl, by decide +kernel, by decide +kernel⟩
/-! ### best_bound -/
abbrev s_best_bound : Stmt := top 17
theorem sc_best_bound : FnScope ["table", "target", "points", "rows", "best", "point", "bound"] ["table", "target"] (defScope s_best_bound) := ⟨rfl, rfl, rfl, by decide +kernel, rfl, by decide +kernel, by decide +kernel⟩
/-! ### Option_init -/
abbrev s_Option_init : Stmt := inClass (top 20) 0
theorem sc_Option_init : FnScope ["self", "servers", "rate", "cost"] ["self", "servers", "rate", "cost"] (defScope s_Option_init) := ⟨rfl, rfl, rfl, by decide +kernel, rfl, by decide +kernel, by decide +kernel⟩
/-! ### Station_init -/
abbrev s_Station_init : Stmt := inClass (top 21) 0
theorem sc_Station_init : FnScope ["self"] ["self"] (defScope s_Station_init) := ⟨rfl, rfl, rfl, by decide +kernel, rfl, by decide +kernel, by decide +kernel⟩
/-! ### Model_init -/
abbrev s_Model_init : Stmt := inClass (top 22) 0
theorem sc_Model_init : FnScope ["self", "many", "turn"] ["self", "many"] (defScope s_Model_init) := ⟨rfl, rfl, rfl, by decide +kernel, rfl, by decide +kernel, by decide +kernel⟩
/-! ### load_of -/
abbrev s_load_of : Stmt := top 23
theorem sc_load_of : FnScope ["station", "option", "percent"] ["station", "option", "percent"] (defScope s_load_of) := ⟨rfl, rfl, rfl, by decide +kernel, rfl, by decide +kernel, by decide +kernel⟩
/-! ### utilization -/
abbrev s_utilization : Stmt := top 24
theorem sc_utilization : FnScope ["station", "option", "percent"] ["station", "option", "percent"] (defScope s_utilization) := ⟨rfl, rfl, rfl, by decide +kernel, rfl, by decide +kernel, by decide +kernel⟩
/-! ### is_option_allowed -/
abbrev s_is_option_allowed : Stmt := top 25
theorem sc_is_option_allowed : FnScope ["model", "station", "option", "percent", "used"] ["model", "station", "option", "percent"] (defScope s_is_option_allowed) := ⟨rfl, rfl, rfl, by decide +kernel, rfl, by decide +kernel, by decide +kernel⟩
/-! ### blocked -/
abbrev s_blocked : Stmt := top 26
theorem sc_blocked : FnScope ["load", "servers", "found", "k", "more"] ["load", "servers"] (defScope s_blocked) := ⟨rfl, rfl, rfl, by decide +kernel, rfl, by decide +kernel, by decide +kernel⟩
/-! ### number_of -/
abbrev s_number_of : Stmt := top 27
theorem sc_number_of : FnScope ["station", "option", "percent", "load", "used", "part", "waits"] ["station", "option", "percent"] (defScope s_number_of) := ⟨rfl, rfl, rfl, by decide +kernel, rfl, by decide +kernel, by decide +kernel⟩
/-! ### weighted_number -/
abbrev s_weighted_number : Stmt := top 28
theorem sc_weighted_number : FnScope ["station", "option", "percent"] ["station", "option", "percent"] (defScope s_weighted_number) := ⟨rfl, rfl, rfl, by decide +kernel, rfl, by decide +kernel, by decide +kernel⟩
/-! ### rows_of -/
abbrev s_rows_of : Stmt := top 29
theorem sc_rows_of : FnScope ["model", "station", "percent", "rows", "option", "is_there"] ["model", "station", "percent"] (defScope s_rows_of) := ⟨rfl, rfl, rfl, by decide +kernel, rfl, by decide +kernel, by decide +kernel⟩
/-! ### table_of -/
abbrev s_table_of : Stmt := top 30
theorem sc_table_of : FnScope ["model", "station"] ["model"] (defScope s_table_of) := ⟨rfl, rfl, rfl, by decide +kernel, rfl, by decide +kernel, by decide +kernel⟩
/-! ### dominates -/
abbrev s_dominates : Stmt := top 31
theorem sc_dominates : FnScope ["one", "other"] ["one", "other"] (defScope s_dominates) := ⟨rfl, rfl, rfl, by decide +kernel, rfl, by decide +kernel, by decide +kernel⟩
/-! ### allowed_options -/
abbrev s_allowed_options : Stmt := top 32
theorem sc_allowed_options : FnScope ["rows", "at", "row"] ["rows"] (defScope s_allowed_options) := ⟨rfl, rfl, rfl, by decide +kernel, rfl, by decide +kernel, by decide +kernel⟩
/-! ### dominated_options -/
abbrev s_dominated_options : Stmt := top 33
theorem sc_dominated_options : FnScope ["rows", "some", "row", "at"] ["rows"] (defScope s_dominated_options) := ⟨rfl, rfl, rfl, by decide +kernel, rfl, by decide +kernel, by decide +kernel⟩
/-! ### is_plan -/
abbrev s_is_plan : Stmt := top 36
theorem sc_is_plan : FnScope ["model", "plan", "station", "number"] ["model", "plan"] (defScope s_is_plan) := ⟨rfl, rfl, rfl, by decide +kernel, rfl, by decide +kernel, by decide +kernel⟩
/-! ### value_of -/
abbrev s_value_of : Stmt := top 37
theorem sc_value_of : FnScope ["table", "plan", "rows", "row", "number", "cost"] ["table", "plan"] (defScope s_value_of) := ⟨rfl, rfl, rfl, by decide +kernel, rfl, by decide +kernel, by decide +kernel⟩
/-! ### all_plans -/
abbrev s_all_plans : Stmt := top 38
theorem sc_all_plans : FnScope ["table", "plans", "rows", "longer", "plan", "at", "row"] ["table"] (defScope s_all_plans) := ⟨rfl, rfl, rfl, by decide +kernel, rfl, by decide +kernel, by decide +kernel⟩
/-! ### is_feasible -/
abbrev s_is_feasible : Stmt := top 39
theorem sc_is_feasible : FnScope ["value", "target"] ["value", "target"] (defScope s_is_feasible) := ⟨rfl, rfl, rfl, by decide +kernel, rfl, by decide +kernel, by decide +kernel⟩
/-! ### is_better -/
abbrev s_is_better : Stmt := top 40
theorem sc_is_better : FnScope ["one", "other"] ["one", "other"] (defScope s_is_better) := ⟨rfl, rfl, rfl, by decide +kernel, rfl, by decide +kernel, by decide +kernel⟩
/-! ### best_of -/
abbrev s_best_of : Stmt := top 41
theorem sc_best_of : FnScope ["table", "plans", "target", "best", "plan", "value"] ["table", "plans", "target"] (defScope s_best_of) := ⟨rfl, rfl, rfl, by decide +kernel, rfl, by decide +kernel, by decide +kernel⟩
/-! ### best_plan -/
abbrev s_best_plan : Stmt := top 42
theorem sc_best_plan : FnScope ["table", "target"] ["table", "target"] (defScope s_best_plan) := ⟨rfl, rfl, rfl, by decide +kernel, rfl, by decide +kernel, by decide +kernel⟩
/-! ### by_cost -/
abbrev s_by_cost : Stmt := top 43
theorem sc_by_cost : FnScope ["table", "rows", "order", "plan", "cost", "at", "row"] ["table"] (defScope s_by_cost) := ⟨rfl, rfl, rfl, by decide +kernel, rfl, by decide +kernel, by decide +kernel⟩
/-! ### frontier -/
abbrev s_frontier : Stmt := top 44
theorem sc_frontier : FnScope ["table", "found", "value", "plan"] ["table"] (defScope s_frontier) := ⟨rfl, rfl, rfl, by decide +kernel, rfl, by decide +kernel, by decide +kernel⟩
/-! ### counted -/
abbrev s_counted : Stmt := top 45
theorem sc_counted : FnScope ["table", "target", "values", "plan", "value"] ["table", "target"] (defScope s_counted) := ⟨rfl, rfl, rfl, by decide +kernel, rfl, by decide +kernel, by decide +kernel⟩
/-! ### changed_plans -/
abbrev s_changed_plans : Stmt := top 46
theorem sc_changed_plans : FnScope ["table", "plan", "found", "at", "rows", "number", "row"] ["table", "plan"] (defScope s_changed_plans) := ⟨rfl, rfl, rfl, by decide +kernel, rfl, by decide +kernel, by decide +kernel⟩
/-! ### improved -/
abbrev s_improved : Stmt := top 47
theorem sc_improved : FnScope ["table", "plan", "target", "value", "found"] ["table", "plan", "target"] (defScope s_improved) := ⟨rfl, rfl, rfl, by decide +kernel, rfl, by decide +kernel, by decide +kernel⟩
/-! ### holds_at -/
abbrev s_holds_at : Stmt := top 48
theorem sc_holds_at : FnScope ["model", "plan", "percent", "numbers", "station", "number", "option"] ["model", "plan", "percent"] (defScope s_holds_at) := ⟨rfl, rfl, rfl, by decide +kernel, rfl, by decide +kernel, by decide +kernel⟩
/-! ### reserve_of -/
abbrev s_reserve_of : Stmt := top 49
theorem sc_reserve_of : FnScope ["model", "plan", "low", "high", "middle"] ["model", "plan"] (defScope s_reserve_of) := ⟨rfl, rfl, rfl, by decide +kernel, rfl, by decide +kernel, by decide +kernel⟩
/-! ### is_allowed_now -/
abbrev s_is_allowed_now : Stmt := top 50
theorem sc_is_allowed_now : FnScope ["model", "plan", "station", "number"] ["model", "plan"] (defScope s_is_allowed_now) := ⟨rfl, rfl, rfl, by decide +kernel, rfl, by decide +kernel, by decide +kernel⟩
/-! ### need -/
abbrev s_need : Stmt := top 60
theorem sc_need : FnScope ["is_so", "code"] ["is_so", "code"] (defScope s_need) := ⟨rfl, rfl, rfl, by decide +kernel, rfl, by decide +kernel, by decide +kernel⟩
/-! ### station_at -/
abbrev s_station_at : Stmt := top 61
theorem sc_station_at : FnScope ["model", "number"] ["model", "number"] (defScope s_station_at) := ⟨rfl, rfl, rfl, by decide +kernel, rfl, by decide +kernel, by decide +kernel⟩
/-! ### option_at -/
abbrev s_option_at : Stmt := top 62
theorem sc_option_at : FnScope ["model", "number", "option", "station"] ["model", "number", "option"] (defScope s_option_at) := ⟨rfl, rfl, rfl, by decide +kernel, rfl, by decide +kernel, by decide +kernel⟩
/-! ### fraction_in -/
abbrev s_fraction_in : Stmt := top 63
theorem sc_fraction_in : FnScope ["num", "den"] ["num", "den"] (defScope s_fraction_in) := ⟨rfl, rfl, rfl, by decide +kernel, rfl, by decide +kernel, by decide +kernel⟩
/-! ### create -/
abbrev s_create : Stmt := top 64
theorem sc_create : FnScope ["given"] ["given"] (defScope s_create) := ⟨rfl, rfl, rfl, by decide +kernel, rfl, by decide +kernel, by decide +kernel⟩
/-! ### set_arrival -/
abbrev s_set_arrival : Stmt := top 65
theorem sc_set_arrival : FnScope ["model", "given", "station", "old"] ["model", "given"] (defScope s_set_arrival) := ⟨rfl, rfl, rfl, by decide +kernel, rfl, by decide +kernel, by decide +kernel⟩
/-! ### set_weight -/
abbrev s_set_weight : Stmt := top 66
theorem sc_set_weight : FnScope ["model", "given", "station", "old"] ["model", "given"] (defScope s_set_weight) := ⟨rfl, rfl, rfl, by decide +kernel, rfl, by decide +kernel, by decide +kernel⟩
/-! ### set_target -/
abbrev s_set_target : Stmt := top 67
theorem sc_set_target : FnScope ["model", "given"] ["model", "given"] (defScope s_set_target) := ⟨rfl, rfl, rfl, by decide +kernel, rfl, by decide +kernel, by decide +kernel⟩
/-! ### set_limit -/
abbrev s_set_limit : Stmt := top 68
theorem sc_set_limit : FnScope ["model", "given", "num", "den"] ["model", "given"] (defScope s_set_limit) := ⟨rfl, rfl, rfl, by decide +kernel, rfl, by decide +kernel, by decide +kernel⟩
/-! ### add_option -/
abbrev s_add_option : Stmt := top 69
theorem sc_add_option : FnScope ["model", "given", "number", "servers", "rate", "cost", "station"] ["model", "given"] (defScope s_add_option) := ⟨rfl, rfl, rfl, by decide +kernel, rfl, by decide +kernel, by decide +kernel⟩
/-! ### remove_option -/
abbrev s_remove_option : Stmt := top 70
theorem sc_remove_option : FnScope ["model", "given", "station"] ["model", "given"] (defScope s_remove_option) := ⟨rfl, rfl, rfl, by decide +kernel, rfl, by decide +kernel, by decide +kernel⟩
/-! ### set_cost -/
abbrev s_set_cost : Stmt := top 71
theorem sc_set_cost : FnScope ["model", "given", "option", "old"] ["model", "given"] (defScope s_set_cost) := ⟨rfl, rfl, rfl, by decide +kernel, rfl, by decide +kernel, by decide +kernel⟩
/-! ### option_info -/
abbrev s_option_info : Stmt := top 72
theorem sc_option_info : FnScope ["model", "given", "station", "option"] ["model", "given"] (defScope s_option_info) := ⟨rfl, rfl, rfl, by decide +kernel, rfl, by decide +kernel, by decide +kernel⟩
/-! ### option_number -/
abbrev s_option_number : Stmt := top 73
theorem sc_option_number : FnScope ["model", "given", "station", "option"] ["model", "given"] (defScope s_option_number) := ⟨rfl, rfl, rfl, by decide +kernel, rfl, by decide +kernel, by decide +kernel⟩
/-! ### listed -/
abbrev s_listed : Stmt := top 74
theorem sc_listed : FnScope ["numbers"] ["numbers"] (defScope s_listed) := ⟨rfl, rfl, rfl, by decide +kernel, rfl, by decide +kernel, by decide +kernel⟩
/-! ### ask_allowed -/
abbrev s_ask_allowed : Stmt := top 75
theorem sc_ask_allowed : FnScope ["model", "given"] ["model", "given"] (defScope s_ask_allowed) := ⟨rfl, rfl, rfl, by decide +kernel, rfl, by decide +kernel, by decide +kernel⟩
/-! ### ask_dominated -/
abbrev s_ask_dominated : Stmt := top 76
theorem sc_ask_dominated : FnScope ["model", "given"] ["model", "given"] (defScope s_ask_dominated) := ⟨rfl, rfl, rfl, by decide +kernel, rfl, by decide +kernel, by decide +kernel⟩
/-! ### plan_value -/
abbrev s_plan_value : Stmt := top 77
theorem sc_plan_value : FnScope ["model", "table", "plan", "value"] ["model", "table", "plan"] (defScope s_plan_value) := ⟨rfl, rfl, rfl, by decide +kernel, rfl, by decide +kernel, by decide +kernel⟩
/-! ### evaluate -/
abbrev s_evaluate : Stmt := top 78
theorem sc_evaluate : FnScope ["model", "given", "value"] ["model", "given"] (defScope s_evaluate) := ⟨rfl, rfl, rfl, by decide +kernel, rfl, by decide +kernel, by decide +kernel⟩
/-! ### shown -/
abbrev s_shown : Stmt := top 79
theorem sc_shown : FnScope ["found", "value", "plan"] ["found"] (defScope s_shown) := ⟨rfl, rfl, rfl, by decide +kernel, rfl, by decide +kernel, by decide +kernel⟩
/-! ### ask_best -/
abbrev s_ask_best : Stmt := top 80
theorem sc_ask_best : FnScope ["model", "given"] ["model", "given"] (defScope s_ask_best) := ⟨rfl, rfl, rfl, by decide +kernel, rfl, by decide +kernel, by decide +kernel⟩
/-! ### best_for -/
abbrev s_best_for : Stmt := top 81
theorem sc_best_for : FnScope ["model", "given", "target"] ["model", "given"] (defScope s_best_for) := ⟨rfl, rfl, rfl, by decide +kernel, rfl, by decide +kernel, by decide +kernel⟩
/-! ### ask_frontier -/
abbrev s_ask_frontier : Stmt := top 82
theorem sc_ask_frontier : FnScope ["model", "given", "rows", "found", "row"] ["model", "given"] (defScope s_ask_frontier) := ⟨rfl, rfl, rfl, by decide +kernel, rfl, by decide +kernel, by decide +kernel⟩
/-! ### ask_counts -/
abbrev s_ask_counts : Stmt := top 83
theorem sc_ask_counts : FnScope ["model", "given"] ["model", "given"] (defScope s_ask_counts) := ⟨rfl, rfl, rfl, by decide +kernel, rfl, by decide +kernel, by decide +kernel⟩
/-! ### ask_bound -/
abbrev s_ask_bound : Stmt := top 84
theorem sc_ask_bound : FnScope ["model", "given", "multiplier", "table"] ["model", "given"] (defScope s_ask_bound) := ⟨rfl, rfl, rfl, by decide +kernel, rfl, by decide +kernel, by decide +kernel⟩
/-! ### ask_best_bound -/
abbrev s_ask_best_bound : Stmt := top 85
theorem sc_ask_best_bound : FnScope ["model", "given", "table", "point", "bound"] ["model", "given"] (defScope s_ask_best_bound) := ⟨rfl, rfl, rfl, by decide +kernel, rfl, by decide +kernel, by decide +kernel⟩
/-! ### improvement -/
abbrev s_improvement : Stmt := top 86
theorem sc_improvement : FnScope ["model", "given", "table"] ["model", "given"] (defScope s_improvement) := ⟨rfl, rfl, rfl, by decide +kernel, rfl, by decide +kernel, by decide +kernel⟩
/-! ### reserve -/
abbrev s_reserve : Stmt := top 87
theorem sc_reserve : FnScope ["model", "given", "percent"] ["model", "given"] (defScope s_reserve) := ⟨rfl, rfl, rfl, by decide +kernel, rfl, by decide +kernel, by decide +kernel⟩
/-! ### compare_plans -/
abbrev s_compare_plans : Stmt := top 88
theorem sc_compare_plans : FnScope ["model", "given", "table", "first", "second", "result"] ["model", "given"] (defScope s_compare_plans) := ⟨rfl, rfl, rfl, by decide +kernel, rfl, by decide +kernel, by decide +kernel⟩
/-! ### summary -/
abbrev s_summary : Stmt := top 89
theorem sc_summary : FnScope ["model", "given", "found", "station"] ["model", "given"] (defScope s_summary) := ⟨rfl, rfl, rfl, by decide +kernel, rfl, by decide +kernel, by decide +kernel⟩
/-! ### Planner_init -/
abbrev s_Planner_init : Stmt := inClass (top 94) 0
theorem sc_Planner_init : FnScope ["self"] ["self"] (defScope s_Planner_init) := ⟨rfl, rfl, rfl, by decide +kernel, rfl, by decide +kernel, by decide +kernel⟩
/-! ### answered -/
abbrev s_answered : Stmt := top 95
theorem sc_answered : FnScope ["planner", "call", "given", "deed"] ["planner", "call", "given"] (defScope s_answered) := ⟨rfl, rfl, rfl, by decide +kernel, rfl, by decide +kernel, by decide +kernel⟩
/-! ### answer -/
abbrev s_answer : Stmt := top 96
theorem sc_answer : FnScope ["planner", "call", "given", "refusal"] ["planner", "call", "given"] (defScope s_answer) := ⟨rfl, rfl, rfl, by decide +kernel, rfl, by decide +kernel, by decide +kernel⟩
/-! ### lists_from -/
abbrev s_lists_from : Stmt := top 97
theorem sc_lists_from : FnScope ["calls", "at", "many", "found", "turn"] ["calls", "at", "many"] (defScope s_lists_from) := ⟨rfl, rfl, rfl, by decide +kernel, rfl, by decide +kernel, by decide +kernel⟩
/-! ### answers -/
abbrev s_answers : Stmt := top 98
theorem sc_answers : FnScope ["calls", "planner", "found", "at", "call", "behind", "lists", "end", "told"] ["calls"] (defScope s_answers) := ⟨rfl, rfl, rfl, by decide +kernel, rfl, by decide +kernel, by decide +kernel⟩
structure Fns (K : PySem.W.Frag) (mg : Str → Option Value) : Prop where
  f_common : ∃ f fd, Fun K "common" "common" s_common f fd ∧ mg "common" = some (.ref f)
  f_fraction : ∃ f fd, Fun K "fraction" "fraction" s_fraction f fd ∧ mg "fraction" = some (.ref f)
  f_plus : ∃ f fd, Fun K "plus" "plus" s_plus f fd ∧ mg "plus" = some (.ref f)
  f_minus : ∃ f fd, Fun K "minus" "minus" s_minus f fd ∧ mg "minus" = some (.ref f)
  f_times : ∃ f fd, Fun K "times" "times" s_times f fd ∧ mg "times" = some (.ref f)
  f_over : ∃ f fd, Fun K "over" "over" s_over f fd ∧ mg "over" = some (.ref f)
  f_is_less : ∃ f fd, Fun K "is_less" "is_less" s_is_less f fd ∧ mg "is_less" = some (.ref f)
  f_whole : ∃ f fd, Fun K "whole" "whole" s_whole f fd ∧ mg "whole" = some (.ref f)
  f_sum_of : ∃ f fd, Fun K "sum_of" "sum_of" s_sum_of f fd ∧ mg "sum_of" = some (.ref f)
  f_has_all : ∃ f fd, Fun K "has_all" "has_all" s_has_all f fd ∧ mg "has_all" = some (.ref f)
  f_least_value : ∃ f fd, Fun K "least_value" "least_value" s_least_value f fd ∧ mg "least_value" = some (.ref f)
  f_bound_for : ∃ f fd, Fun K "bound_for" "bound_for" s_bound_for f fd ∧ mg "bound_for" = some (.ref f)
  f_breakpoints_of : ∃ f fd, Fun K "breakpoints_of" "breakpoints_of" s_breakpoints_of f fd ∧ mg "breakpoints_of" = some (.ref f)
  f_best_bound : ∃ f fd, Fun K "best_bound" "best_bound" s_best_bound f fd ∧ mg "best_bound" = some (.ref f)
  f_load_of : ∃ f fd, Fun K "load_of" "load_of" s_load_of f fd ∧ mg "load_of" = some (.ref f)
  f_utilization : ∃ f fd, Fun K "utilization" "utilization" s_utilization f fd ∧ mg "utilization" = some (.ref f)
  f_is_option_allowed : ∃ f fd, Fun K "is_option_allowed" "is_option_allowed" s_is_option_allowed f fd ∧ mg "is_option_allowed" = some (.ref f)
  f_blocked : ∃ f fd, Fun K "blocked" "blocked" s_blocked f fd ∧ mg "blocked" = some (.ref f)
  f_number_of : ∃ f fd, Fun K "number_of" "number_of" s_number_of f fd ∧ mg "number_of" = some (.ref f)
  f_weighted_number : ∃ f fd, Fun K "weighted_number" "weighted_number" s_weighted_number f fd ∧ mg "weighted_number" = some (.ref f)
  f_rows_of : ∃ f fd, Fun K "rows_of" "rows_of" s_rows_of f fd ∧ mg "rows_of" = some (.ref f)
  f_table_of : ∃ f fd, Fun K "table_of" "table_of" s_table_of f fd ∧ mg "table_of" = some (.ref f)
  f_dominates : ∃ f fd, Fun K "dominates" "dominates" s_dominates f fd ∧ mg "dominates" = some (.ref f)
  f_allowed_options : ∃ f fd, Fun K "allowed_options" "allowed_options" s_allowed_options f fd ∧ mg "allowed_options" = some (.ref f)
  f_dominated_options : ∃ f fd, Fun K "dominated_options" "dominated_options" s_dominated_options f fd ∧ mg "dominated_options" = some (.ref f)
  f_is_plan : ∃ f fd, Fun K "is_plan" "is_plan" s_is_plan f fd ∧ mg "is_plan" = some (.ref f)
  f_value_of : ∃ f fd, Fun K "value_of" "value_of" s_value_of f fd ∧ mg "value_of" = some (.ref f)
  f_all_plans : ∃ f fd, Fun K "all_plans" "all_plans" s_all_plans f fd ∧ mg "all_plans" = some (.ref f)
  f_is_feasible : ∃ f fd, Fun K "is_feasible" "is_feasible" s_is_feasible f fd ∧ mg "is_feasible" = some (.ref f)
  f_is_better : ∃ f fd, Fun K "is_better" "is_better" s_is_better f fd ∧ mg "is_better" = some (.ref f)
  f_best_of : ∃ f fd, Fun K "best_of" "best_of" s_best_of f fd ∧ mg "best_of" = some (.ref f)
  f_best_plan : ∃ f fd, Fun K "best_plan" "best_plan" s_best_plan f fd ∧ mg "best_plan" = some (.ref f)
  f_by_cost : ∃ f fd, Fun K "by_cost" "by_cost" s_by_cost f fd ∧ mg "by_cost" = some (.ref f)
  f_frontier : ∃ f fd, Fun K "frontier" "frontier" s_frontier f fd ∧ mg "frontier" = some (.ref f)
  f_counted : ∃ f fd, Fun K "counted" "counted" s_counted f fd ∧ mg "counted" = some (.ref f)
  f_changed_plans : ∃ f fd, Fun K "changed_plans" "changed_plans" s_changed_plans f fd ∧ mg "changed_plans" = some (.ref f)
  f_improved : ∃ f fd, Fun K "improved" "improved" s_improved f fd ∧ mg "improved" = some (.ref f)
  f_holds_at : ∃ f fd, Fun K "holds_at" "holds_at" s_holds_at f fd ∧ mg "holds_at" = some (.ref f)
  f_reserve_of : ∃ f fd, Fun K "reserve_of" "reserve_of" s_reserve_of f fd ∧ mg "reserve_of" = some (.ref f)
  f_is_allowed_now : ∃ f fd, Fun K "is_allowed_now" "is_allowed_now" s_is_allowed_now f fd ∧ mg "is_allowed_now" = some (.ref f)
  f_need : ∃ f fd, Fun K "need" "need" s_need f fd ∧ mg "need" = some (.ref f)
  f_station_at : ∃ f fd, Fun K "station_at" "station_at" s_station_at f fd ∧ mg "station_at" = some (.ref f)
  f_option_at : ∃ f fd, Fun K "option_at" "option_at" s_option_at f fd ∧ mg "option_at" = some (.ref f)
  f_fraction_in : ∃ f fd, Fun K "fraction_in" "fraction_in" s_fraction_in f fd ∧ mg "fraction_in" = some (.ref f)
  f_create : ∃ f fd, Fun K "create" "create" s_create f fd ∧ mg "create" = some (.ref f)
  f_set_arrival : ∃ f fd, Fun K "set_arrival" "set_arrival" s_set_arrival f fd ∧ mg "set_arrival" = some (.ref f)
  f_set_weight : ∃ f fd, Fun K "set_weight" "set_weight" s_set_weight f fd ∧ mg "set_weight" = some (.ref f)
  f_set_target : ∃ f fd, Fun K "set_target" "set_target" s_set_target f fd ∧ mg "set_target" = some (.ref f)
  f_set_limit : ∃ f fd, Fun K "set_limit" "set_limit" s_set_limit f fd ∧ mg "set_limit" = some (.ref f)
  f_add_option : ∃ f fd, Fun K "add_option" "add_option" s_add_option f fd ∧ mg "add_option" = some (.ref f)
  f_remove_option : ∃ f fd, Fun K "remove_option" "remove_option" s_remove_option f fd ∧ mg "remove_option" = some (.ref f)
  f_set_cost : ∃ f fd, Fun K "set_cost" "set_cost" s_set_cost f fd ∧ mg "set_cost" = some (.ref f)
  f_option_info : ∃ f fd, Fun K "option_info" "option_info" s_option_info f fd ∧ mg "option_info" = some (.ref f)
  f_option_number : ∃ f fd, Fun K "option_number" "option_number" s_option_number f fd ∧ mg "option_number" = some (.ref f)
  f_listed : ∃ f fd, Fun K "listed" "listed" s_listed f fd ∧ mg "listed" = some (.ref f)
  f_ask_allowed : ∃ f fd, Fun K "ask_allowed" "ask_allowed" s_ask_allowed f fd ∧ mg "ask_allowed" = some (.ref f)
  f_ask_dominated : ∃ f fd, Fun K "ask_dominated" "ask_dominated" s_ask_dominated f fd ∧ mg "ask_dominated" = some (.ref f)
  f_plan_value : ∃ f fd, Fun K "plan_value" "plan_value" s_plan_value f fd ∧ mg "plan_value" = some (.ref f)
  f_evaluate : ∃ f fd, Fun K "evaluate" "evaluate" s_evaluate f fd ∧ mg "evaluate" = some (.ref f)
  f_shown : ∃ f fd, Fun K "shown" "shown" s_shown f fd ∧ mg "shown" = some (.ref f)
  f_ask_best : ∃ f fd, Fun K "ask_best" "ask_best" s_ask_best f fd ∧ mg "ask_best" = some (.ref f)
  f_best_for : ∃ f fd, Fun K "best_for" "best_for" s_best_for f fd ∧ mg "best_for" = some (.ref f)
  f_ask_frontier : ∃ f fd, Fun K "ask_frontier" "ask_frontier" s_ask_frontier f fd ∧ mg "ask_frontier" = some (.ref f)
  f_ask_counts : ∃ f fd, Fun K "ask_counts" "ask_counts" s_ask_counts f fd ∧ mg "ask_counts" = some (.ref f)
  f_ask_bound : ∃ f fd, Fun K "ask_bound" "ask_bound" s_ask_bound f fd ∧ mg "ask_bound" = some (.ref f)
  f_ask_best_bound : ∃ f fd, Fun K "ask_best_bound" "ask_best_bound" s_ask_best_bound f fd ∧ mg "ask_best_bound" = some (.ref f)
  f_improvement : ∃ f fd, Fun K "improvement" "improvement" s_improvement f fd ∧ mg "improvement" = some (.ref f)
  f_reserve : ∃ f fd, Fun K "reserve" "reserve" s_reserve f fd ∧ mg "reserve" = some (.ref f)
  f_compare_plans : ∃ f fd, Fun K "compare_plans" "compare_plans" s_compare_plans f fd ∧ mg "compare_plans" = some (.ref f)
  f_summary : ∃ f fd, Fun K "summary" "summary" s_summary f fd ∧ mg "summary" = some (.ref f)
  f_answered : ∃ f fd, Fun K "answered" "answered" s_answered f fd ∧ mg "answered" = some (.ref f)
  f_answer : ∃ f fd, Fun K "answer" "answer" s_answer f fd ∧ mg "answer" = some (.ref f)
  f_lists_from : ∃ f fd, Fun K "lists_from" "lists_from" s_lists_from f fd ∧ mg "lists_from" = some (.ref f)
  f_answers : ∃ f fd, Fun K "answers" "answers" s_answers f fd ∧ mg "answers" = some (.ref f)
structure Txt (K : PySem.W.Frag) (mg : Str → Option Value) (A : Ad) : Prop extends Fns K mg, Cst K mg A
  -- Option
  -- Station
  -- Model
  -- Planner

/-! ### common -/
def t_common (K : PySem.W.Frag) (A : Ad) : TS :=
  tSeq (tPar 0 1 (tCons (tCB (rAbs1) (tCons (tVar 0) (tNil))) (tCons (tCB (rAbs1) (tCons (tVar 1) (tNil))) (tNil)))) (tSeq (tWhile (tTest (tOp rGtA (tVar 1) (tC (.int 0)))) (tPar 0 1 (tCons (tVar 1) (tCons (tOp rModA (tVar 0) (tVar 1)) (tNil))))) (tRet (tVar 0)))
theorem cal_common {sp : Sp} (T : Txt K mg A)  (len : ∀ vs H Q E, sp vs H Q E → vs.length = 2)
    (pu : ∀ vs H Q E, sp vs H Q E → t_common K A   { nx := fun _ H' => Q .non H', rt := Q } (L2.start ["one", "other"] vs) H) :
    Cal0 P w K mg base 1 "common" sp := by
  obtain ⟨f, fd, F, g⟩ := T.f_common
  have nd := sc_common.nd
  refine ⟨f, fd, ["one", "other"], ?_, g, F.kp, F.binds fun _ _ _ _ _ _ us hl => match us, hl with | [_, _], _ => rfl⟩
  refine F.ok sc_common len fun cdv A' outer s H vs Q E hr h => ⟨t_common K A  , ?_, pu vs H Q E h⟩
  exact pss_cons (ps_par (i := 0) (j := 1) rfl nd rfl rfl (by decide) rfl rfl (pa_cons (pe_callB call_abs (by rfl) T.b_abs (by decide +kernel) (pa_cons (pv 0) (pa_nil))) (pa_cons (pe_callB call_abs (by rfl) T.b_abs (by decide +kernel) (pa_cons (pv 1) (pa_nil))) (pa_nil))) (by rfl))
      (pss_cons (ps_while PassesOwn.never (pt_cmpR op_gt (pv 1) (pe_int) (by first | exact nomark _ | rfl)) (pss_one (ps_par (i := 0) (j := 1) rfl nd rfl rfl (by decide) rfl rfl (pa_cons (pv 1) (pa_cons (pe_op op_mod (pv 0) (pv 1)) (pa_nil))) (by rfl))))
      (pss_one (ps_ret (pv 0))))
/-! ### fraction -/
def t_fraction (K : PySem.W.Frag) (A : Ad) (p_common : Sp) : TS :=
  tSeq (tAsg (tCall p_common [] E0 (tCons (tVar 0) (tCons (tVar 1) (tNil)))) (gName 2)) (tSeq (tIfS (tTest (tOp rLtA (tVar 1) (tC (.int 0)))) (tAsg (tOp rSubA (tC (.int 0)) (tVar 2)) (gName 2)) (tNext)) (tRet (tTup (tCons (tOp rDivA (tVar 0) (tVar 2)) (tCons (tOp rDivA (tVar 1) (tVar 2)) (tNil))))))
theorem cal_fraction {p_common : Sp} {sp : Sp} (T : Txt K mg A) (c_common : Cal0 P w K mg base 1 "common" p_common) (len : ∀ vs H Q E, sp vs H Q E → vs.length = 2)
    (pu : ∀ vs H Q E, sp vs H Q E → t_fraction K A p_common  { nx := fun _ H' => Q .non H', rt := Q } (L2.start ["num", "den", "divisor"] vs) H) :
    Cal0 P w K mg base 2 "fraction" sp := by
  obtain ⟨f, fd, F, g⟩ := T.f_fraction
  have nd := sc_fraction.nd
  refine ⟨f, fd, ["num", "den"], ?_, g, F.kp, F.binds fun _ _ _ _ _ _ us hl => match us, hl with | [_, _], _ => rfl⟩
  refine F.ok sc_fraction len fun cdv A' outer s H vs Q E hr h => ⟨t_fraction K A p_common , ?_, pu vs H Q E h⟩
  exact pss_cons (ps_set (i := 2) nd rfl (by first | exact Or.inl rfl | exact Or.inr rfl) (pe_c0 c_common hr (by decide) rfl (by exact (pa_cons (pv 0) (pa_cons (pv 1) (pa_nil))))))
      (pss_cons (ps_if (pt_cmpR op_lt (pv 1) (pe_int) (by first | exact nomark _ | rfl)) (pss_one (ps_set (i := 2) nd rfl (by first | exact Or.inl rfl | exact Or.inr rfl) (pe_op op_sub (pe_int) (pv 2)))) (pss_nil))
      (pss_one (ps_ret (pe_tup (pa_cons (pe_op op_fdivW (pv 0) (pv 2)) (pa_cons (pe_op op_fdivW (pv 1) (pv 2)) (pa_nil)))))))
/-! ### plus -/
def t_plus (K : PySem.W.Frag) (A : Ad) (p_fraction : Sp) : TS :=
  tRet (tCall p_fraction [] E0 (tCons (tOp rAddA (tOp rMulA (tOp (rIx K) (tVar 0) (tC (.int 0))) (tOp (rIx K) (tVar 1) (tC (.int 1)))) (tOp rMulA (tOp (rIx K) (tVar 1) (tC (.int 0))) (tOp (rIx K) (tVar 0) (tC (.int 1))))) (tCons (tOp rMulA (tOp (rIx K) (tVar 0) (tC (.int 1))) (tOp (rIx K) (tVar 1) (tC (.int 1)))) (tNil))))
theorem cal_plus {p_fraction : Sp} {sp : Sp} (T : Txt K mg A) (c_fraction : Cal0 P w K mg base 2 "fraction" p_fraction) (len : ∀ vs H Q E, sp vs H Q E → vs.length = 2)
    (pu : ∀ vs H Q E, sp vs H Q E → t_plus K A p_fraction  { nx := fun _ H' => Q .non H', rt := Q } (L2.start ["one", "other"] vs) H) :
    Cal0 P w K mg base 3 "plus" sp := by
  obtain ⟨f, fd, F, g⟩ := T.f_plus
  have nd := sc_plus.nd
  refine ⟨f, fd, ["one", "other"], ?_, g, F.kp, F.binds fun _ _ _ _ _ _ us hl => match us, hl with | [_, _], _ => rfl⟩
  refine F.ok sc_plus len fun cdv A' outer s H vs Q E hr h => ⟨t_plus K A p_fraction , ?_, pu vs H Q E h⟩
  exact pss_one (ps_ret (pe_c0 c_fraction hr (by decide) rfl (by exact (pa_cons (pe_op op_addA (pe_op op_mulW (pe_ix ix_seq (pv 0) (pe_int) (fun _ _ => rfl)) (pe_ix ix_seq (pv 1) (pe_int) (fun _ _ => rfl))) (pe_op op_mulW (pe_ix ix_seq (pv 1) (pe_int) (fun _ _ => rfl)) (pe_ix ix_seq (pv 0) (pe_int) (fun _ _ => rfl)))) (pa_cons (pe_op op_mulW (pe_ix ix_seq (pv 0) (pe_int) (fun _ _ => rfl)) (pe_ix ix_seq (pv 1) (pe_int) (fun _ _ => rfl))) (pa_nil))))))
/-! ### minus -/
def t_minus (K : PySem.W.Frag) (A : Ad) (p_fraction : Sp) : TS :=
  tRet (tCall p_fraction [] E0 (tCons (tOp rSubA (tOp rMulA (tOp (rIx K) (tVar 0) (tC (.int 0))) (tOp (rIx K) (tVar 1) (tC (.int 1)))) (tOp rMulA (tOp (rIx K) (tVar 1) (tC (.int 0))) (tOp (rIx K) (tVar 0) (tC (.int 1))))) (tCons (tOp rMulA (tOp (rIx K) (tVar 0) (tC (.int 1))) (tOp (rIx K) (tVar 1) (tC (.int 1)))) (tNil))))
theorem cal_minus {p_fraction : Sp} {sp : Sp} (T : Txt K mg A) (c_fraction : Cal0 P w K mg base 2 "fraction" p_fraction) (len : ∀ vs H Q E, sp vs H Q E → vs.length = 2)
    (pu : ∀ vs H Q E, sp vs H Q E → t_minus K A p_fraction  { nx := fun _ H' => Q .non H', rt := Q } (L2.start ["one", "other"] vs) H) :
    Cal0 P w K mg base 3 "minus" sp := by
  obtain ⟨f, fd, F, g⟩ := T.f_minus
  have nd := sc_minus.nd
  refine ⟨f, fd, ["one", "other"], ?_, g, F.kp, F.binds fun _ _ _ _ _ _ us hl => match us, hl with | [_, _], _ => rfl⟩
  refine F.ok sc_minus len fun cdv A' outer s H vs Q E hr h => ⟨t_minus K A p_fraction , ?_, pu vs H Q E h⟩
  exact pss_one (ps_ret (pe_c0 c_fraction hr (by decide) rfl (by exact (pa_cons (pe_op op_sub (pe_op op_mulW (pe_ix ix_seq (pv 0) (pe_int) (fun _ _ => rfl)) (pe_ix ix_seq (pv 1) (pe_int) (fun _ _ => rfl))) (pe_op op_mulW (pe_ix ix_seq (pv 1) (pe_int) (fun _ _ => rfl)) (pe_ix ix_seq (pv 0) (pe_int) (fun _ _ => rfl)))) (pa_cons (pe_op op_mulW (pe_ix ix_seq (pv 0) (pe_int) (fun _ _ => rfl)) (pe_ix ix_seq (pv 1) (pe_int) (fun _ _ => rfl))) (pa_nil))))))
/-! ### times -/
def t_times (K : PySem.W.Frag) (A : Ad) (p_fraction : Sp) : TS :=
  tRet (tCall p_fraction [] E0 (tCons (tOp rMulA (tOp (rIx K) (tVar 0) (tC (.int 0))) (tOp (rIx K) (tVar 1) (tC (.int 0)))) (tCons (tOp rMulA (tOp (rIx K) (tVar 0) (tC (.int 1))) (tOp (rIx K) (tVar 1) (tC (.int 1)))) (tNil))))
theorem cal_times {p_fraction : Sp} {sp : Sp} (T : Txt K mg A) (c_fraction : Cal0 P w K mg base 2 "fraction" p_fraction) (len : ∀ vs H Q E, sp vs H Q E → vs.length = 2)
    (pu : ∀ vs H Q E, sp vs H Q E → t_times K A p_fraction  { nx := fun _ H' => Q .non H', rt := Q } (L2.start ["one", "other"] vs) H) :
    Cal0 P w K mg base 3 "times" sp := by
  obtain ⟨f, fd, F, g⟩ := T.f_times
  have nd := sc_times.nd
  refine ⟨f, fd, ["one", "other"], ?_, g, F.kp, F.binds fun _ _ _ _ _ _ us hl => match us, hl with | [_, _], _ => rfl⟩
  refine F.ok sc_times len fun cdv A' outer s H vs Q E hr h => ⟨t_times K A p_fraction , ?_, pu vs H Q E h⟩
  exact pss_one (ps_ret (pe_c0 c_fraction hr (by decide) rfl (by exact (pa_cons (pe_op op_mulW (pe_ix ix_seq (pv 0) (pe_int) (fun _ _ => rfl)) (pe_ix ix_seq (pv 1) (pe_int) (fun _ _ => rfl))) (pa_cons (pe_op op_mulW (pe_ix ix_seq (pv 0) (pe_int) (fun _ _ => rfl)) (pe_ix ix_seq (pv 1) (pe_int) (fun _ _ => rfl))) (pa_nil))))))
/-! ### over -/
def t_over (K : PySem.W.Frag) (A : Ad) (p_fraction : Sp) : TS :=
  tRet (tCall p_fraction [] E0 (tCons (tOp rMulA (tOp (rIx K) (tVar 0) (tC (.int 0))) (tOp (rIx K) (tVar 1) (tC (.int 1)))) (tCons (tOp rMulA (tOp (rIx K) (tVar 0) (tC (.int 1))) (tOp (rIx K) (tVar 1) (tC (.int 0)))) (tNil))))
theorem cal_over {p_fraction : Sp} {sp : Sp} (T : Txt K mg A) (c_fraction : Cal0 P w K mg base 2 "fraction" p_fraction) (len : ∀ vs H Q E, sp vs H Q E → vs.length = 2)
    (pu : ∀ vs H Q E, sp vs H Q E → t_over K A p_fraction  { nx := fun _ H' => Q .non H', rt := Q } (L2.start ["one", "other"] vs) H) :
    Cal0 P w K mg base 3 "over" sp := by
  obtain ⟨f, fd, F, g⟩ := T.f_over
  have nd := sc_over.nd
  refine ⟨f, fd, ["one", "other"], ?_, g, F.kp, F.binds fun _ _ _ _ _ _ us hl => match us, hl with | [_, _], _ => rfl⟩
  refine F.ok sc_over len fun cdv A' outer s H vs Q E hr h => ⟨t_over K A p_fraction , ?_, pu vs H Q E h⟩
  exact pss_one (ps_ret (pe_c0 c_fraction hr (by decide) rfl (by exact (pa_cons (pe_op op_mulW (pe_ix ix_seq (pv 0) (pe_int) (fun _ _ => rfl)) (pe_ix ix_seq (pv 1) (pe_int) (fun _ _ => rfl))) (pa_cons (pe_op op_mulW (pe_ix ix_seq (pv 0) (pe_int) (fun _ _ => rfl)) (pe_ix ix_seq (pv 1) (pe_int) (fun _ _ => rfl))) (pa_nil))))))
/-! ### is_less -/
def t_is_less (K : PySem.W.Frag) (A : Ad) : TS :=
  tRet (tOp rLtA (tOp rMulA (tOp (rIx K) (tVar 0) (tC (.int 0))) (tOp (rIx K) (tVar 1) (tC (.int 1)))) (tOp rMulA (tOp (rIx K) (tVar 1) (tC (.int 0))) (tOp (rIx K) (tVar 0) (tC (.int 1)))))
theorem cal_is_less {sp : Sp} (T : Txt K mg A)  (len : ∀ vs H Q E, sp vs H Q E → vs.length = 2)
    (pu : ∀ vs H Q E, sp vs H Q E → t_is_less K A   { nx := fun _ H' => Q .non H', rt := Q } (L2.start ["one", "other"] vs) H) :
    Cal0 P w K mg base 1 "is_less" sp := by
  obtain ⟨f, fd, F, g⟩ := T.f_is_less
  have nd := sc_is_less.nd
  refine ⟨f, fd, ["one", "other"], ?_, g, F.kp, F.binds fun _ _ _ _ _ _ us hl => match us, hl with | [_, _], _ => rfl⟩
  refine F.ok sc_is_less len fun cdv A' outer s H vs Q E hr h => ⟨t_is_less K A  , ?_, pu vs H Q E h⟩
  exact pss_one (ps_ret (pe_cmpR op_lt (pe_op op_mulW (pe_ix ix_seq (pv 0) (pe_int) (fun _ _ => rfl)) (pe_ix ix_seq (pv 1) (pe_int) (fun _ _ => rfl))) (pe_op op_mulW (pe_ix ix_seq (pv 1) (pe_int) (fun _ _ => rfl)) (pe_ix ix_seq (pv 0) (pe_int) (fun _ _ => rfl))) (by first | exact nomark _ | rfl)))
/-! ### whole -/
def t_whole (K : PySem.W.Frag) (A : Ad) : TS :=
  tRet (tTup (tCons (tVar 0) (tCons (tC (.int 1)) (tNil))))
theorem cal_whole {sp : Sp} (T : Txt K mg A)  (len : ∀ vs H Q E, sp vs H Q E → vs.length = 1)
    (pu : ∀ vs H Q E, sp vs H Q E → t_whole K A   { nx := fun _ H' => Q .non H', rt := Q } (L2.start ["number"] vs) H) :
    Cal0 P w K mg base 1 "whole" sp := by
  obtain ⟨f, fd, F, g⟩ := T.f_whole
  have nd := sc_whole.nd
  refine ⟨f, fd, ["number"], ?_, g, F.kp, F.binds fun _ _ _ _ _ _ us hl => match us, hl with | [_], _ => rfl⟩
  refine F.ok sc_whole len fun cdv A' outer s H vs Q E hr h => ⟨t_whole K A  , ?_, pu vs H Q E h⟩
  exact pss_one (ps_ret (pe_tup (pa_cons (pv 0) (pa_cons (pe_int) (pa_nil)))))
/-! ### sum_of -/
def t_sum_of (K : PySem.W.Frag) (A : Ad) (p_plus : Sp) : TS :=
  tSeq (tAsg (tC (.ref A.nought)) (gName 1)) (tSeq (tFor (iList K (tVar 0)) (gName 2) (tAsg (tCall p_plus [] E0 (tCons (tVar 1) (tCons (tVar 2) (tNil)))) (gName 1))) (tRet (tVar 1)))
theorem cal_sum_of {p_plus : Sp} {sp : Sp} (T : Txt K mg A) (c_plus : Cal0 P w K mg base 3 "plus" p_plus) (len : ∀ vs H Q E, sp vs H Q E → vs.length = 1)
    (pu : ∀ vs H Q E, sp vs H Q E → t_sum_of K A p_plus  { nx := fun _ H' => Q .non H', rt := Q } (L2.start ["some", "found", "one"] vs) H) :
    Cal0 P w K mg base 4 "sum_of" sp := by
  obtain ⟨f, fd, F, g⟩ := T.f_sum_of
  have nd := sc_sum_of.nd
  refine ⟨f, fd, ["some"], ?_, g, F.kp, F.binds fun _ _ _ _ _ _ us hl => match us, hl with | [_], _ => rfl⟩
  refine F.ok sc_sum_of len fun cdv A' outer s H vs Q E hr h => ⟨t_sum_of K A p_plus , ?_, pu vs H Q E h⟩
  exact pss_cons (ps_set (i := 1) nd rfl (by first | exact Or.inl rfl | exact Or.inr rfl) (pe_gc2 rfl T.g_NOUGHT))
      (pss_cons (ps_for PassesOwn.never rfl (pi_list (pv 0)) (pg_name (i := 2) nd rfl (by first | exact Or.inl rfl | exact Or.inr rfl)) (pss_one (ps_set (i := 1) nd rfl (by first | exact Or.inl rfl | exact Or.inr rfl) (pe_c0 c_plus hr (by decide) rfl (by exact (pa_cons (pv 1) (pa_cons (pv 2) (pa_nil))))))))
      (pss_one (ps_ret (pv 1))))
/-! ### has_all -/
def t_has_all (K : PySem.W.Frag) (A : Ad) : TS :=
  tSeq (tFor (iList K (tVar 0)) (gName 1) (tIfS (tTest (tOp (rEqA K) (tLc (iList K (tVar 1)) (gName 2) (tTest (tOp rNotN1 (tVar 2) (tC .non))) (tVar 2) [2]) (tLst (tNil)))) (tRet (tC (.bl false))) (tNext))) (tRet (tC (.bl true)))
theorem cal_has_all {sp : Sp} (T : Txt K mg A)  (len : ∀ vs H Q E, sp vs H Q E → vs.length = 1)
    (pu : ∀ vs H Q E, sp vs H Q E → t_has_all K A   { nx := fun _ H' => Q .non H', rt := Q } (L2.start ["table", "rows", "row"] vs) H) :
    Cal0 P w K mg base 1 "has_all" sp := by
  obtain ⟨f, fd, F, g⟩ := T.f_has_all
  have nd := sc_has_all.nd
  refine ⟨f, fd, ["table"], ?_, g, F.kp, F.binds fun _ _ _ _ _ _ us hl => match us, hl with | [_], _ => rfl⟩
  refine F.ok sc_has_all len fun cdv A' outer s H vs Q E hr h => ⟨t_has_all K A  , ?_, pu vs H Q E h⟩
  exact pss_cons (ps_for PassesOwn.never rfl (pi_list (pv 0)) (pg_name (i := 1) nd rfl (by first | exact Or.inl rfl | exact Or.inr rfl)) (pss_one (ps_if (pt_cmpR (op_eqA hr.units) (pe_lc (own := [("row", 2)]) rfl nd (pi_list (pv 1)) (blkOk_by (by kernel_rfl)) (fun _ _ _ _ _ => pg_name (i := 2) nd rfl (by first | exact Or.inl rfl | exact Or.inr rfl)) (fun _ _ _ _ _ => pts_one (pt_cmpR op_notN (pv 2) (pe_non) (by first | exact nomark _ | rfl))) (fun _ _ _ _ _ => pv 2)) (pe_lst (pa_nil)) (by first | exact nomark _ | rfl)) (pss_one (ps_ret (pe_bl))) (pss_nil))))
      (pss_one (ps_ret (pe_bl)))
/-! ### least_value -/
def t_least_value (K : PySem.W.Frag) (A : Ad) (p_plus p_whole p_times p_is_less : Sp) : TS :=
  tSeq (tAsg (tC .non) (gName 2)) (tSeq (tFor (iList K (tVar 0)) (gName 3) (tIfS (tTest (tOp rNotN1 (tVar 3) (tC .non))) (tSeq (tAsg (tCall p_plus [] E0 (tCons (tCall p_whole [] E0 (tCons (tOp (rIx K) (tVar 3) (tC (.int 0))) (tNil))) (tCons (tCall p_times [] E0 (tCons (tVar 1) (tCons (tOp (rIx K) (tVar 3) (tC (.int 1))) (tNil)))) (tNil)))) (gName 4)) (tIfS (tOr (tTest (tOp rIsN1 (tVar 2) (tC .non))) (tB (tCall p_is_less [] E0 (tCons (tVar 4) (tCons (tVar 2) (tNil)))))) (tAsg (tVar 4) (gName 2)) (tNext))) (tNext))) (tRet (tVar 2)))
theorem cal_least_value {p_plus p_whole p_times p_is_less : Sp} {sp : Sp} (T : Txt K mg A) (c_plus : Cal0 P w K mg base 3 "plus" p_plus) (c_whole : Cal0 P w K mg base 1 "whole" p_whole) (c_times : Cal0 P w K mg base 3 "times" p_times) (c_is_less : Cal0 P w K mg base 1 "is_less" p_is_less) (len : ∀ vs H Q E, sp vs H Q E → vs.length = 2)
    (pu : ∀ vs H Q E, sp vs H Q E → t_least_value K A p_plus p_whole p_times p_is_less  { nx := fun _ H' => Q .non H', rt := Q } (L2.start ["rows", "multiplier", "least", "row", "value"] vs) H) :
    Cal0 P w K mg base 4 "least_value" sp := by
  obtain ⟨f, fd, F, g⟩ := T.f_least_value
  have nd := sc_least_value.nd
  refine ⟨f, fd, ["rows", "multiplier"], ?_, g, F.kp, F.binds fun _ _ _ _ _ _ us hl => match us, hl with | [_, _], _ => rfl⟩
  refine F.ok sc_least_value len fun cdv A' outer s H vs Q E hr h => ⟨t_least_value K A p_plus p_whole p_times p_is_less , ?_, pu vs H Q E h⟩
  exact pss_cons (ps_set (i := 2) nd rfl (by first | exact Or.inl rfl | exact Or.inr rfl) (pe_non))
      (pss_cons (ps_for PassesOwn.never rfl (pi_list (pv 0)) (pg_name (i := 3) nd rfl (by first | exact Or.inl rfl | exact Or.inr rfl)) (pss_one (ps_if (pt_cmpR op_notN (pv 3) (pe_non) (by first | exact nomark _ | rfl)) (pss_cons (ps_set (i := 4) nd rfl (by first | exact Or.inl rfl | exact Or.inr rfl) (pe_c0 c_plus hr (by decide) rfl (by exact (pa_cons (pe_c0 c_whole hr (by decide) rfl (by exact (pa_cons (pe_ix ix_seq (pv 3) (pe_int) (fun _ _ => rfl)) (pa_nil)))) (pa_cons (pe_c0 c_times hr (by decide) rfl (by exact (pa_cons (pv 1) (pa_cons (pe_ix ix_seq (pv 3) (pe_int) (fun _ _ => rfl)) (pa_nil))))) (pa_nil))))))
      (pss_one (ps_if (PW.pt (pw_or (pt_cmpR op_isN (pv 2) (pe_non) (by first | exact nomark _ | rfl)) (pw_or1 (pt_val (pe_c0 c_is_less hr (by decide) rfl (by exact (pa_cons (pv 4) (pa_cons (pv 2) (pa_nil))))))))) (pss_one (ps_set (i := 2) nd rfl (by first | exact Or.inl rfl | exact Or.inr rfl) (pv 4))) (pss_nil)))) (pss_nil))))
      (pss_one (ps_ret (pv 2))))
/-! ### bound_for -/
def t_bound_for (K : PySem.W.Frag) (A : Ad) (p_minus p_sum_of p_times p_least_value : Sp) : TS :=
  tRet (tCall p_minus [] E0 (tCons (tCall p_sum_of [] E0 (tCons (tLc (iList K (tVar 0)) (gName 3) (tYes) (tCall p_least_value [] E0 (tCons (tVar 3) (tCons (tVar 2) (tNil)))) [3]) (tNil))) (tCons (tCall p_times [] E0 (tCons (tVar 2) (tCons (tVar 1) (tNil)))) (tNil))))
theorem cal_bound_for {p_minus p_sum_of p_times p_least_value : Sp} {sp : Sp} (T : Txt K mg A) (c_minus : Cal0 P w K mg base 3 "minus" p_minus) (c_sum_of : Cal0 P w K mg base 4 "sum_of" p_sum_of) (c_times : Cal0 P w K mg base 3 "times" p_times) (c_least_value : Cal0 P w K mg base 4 "least_value" p_least_value) (len : ∀ vs H Q E, sp vs H Q E → vs.length = 3)
    (pu : ∀ vs H Q E, sp vs H Q E → t_bound_for K A p_minus p_sum_of p_times p_least_value  { nx := fun _ H' => Q .non H', rt := Q } (L2.start ["table", "target", "multiplier", "rows"] vs) H) :
    Cal0 P w K mg base 5 "bound_for" sp := by
  obtain ⟨f, fd, F, g⟩ := T.f_bound_for
  have nd := sc_bound_for.nd
  refine ⟨f, fd, ["table", "target", "multiplier"], ?_, g, F.kp, F.binds fun _ _ _ _ _ _ us hl => match us, hl with | [_, _, _], _ => rfl⟩
  refine F.ok sc_bound_for len fun cdv A' outer s H vs Q E hr h => ⟨t_bound_for K A p_minus p_sum_of p_times p_least_value , ?_, pu vs H Q E h⟩
  exact pss_one (ps_ret (pe_c0 c_minus hr (by decide) rfl (by exact (pa_cons (pe_c0 c_sum_of hr (by decide) rfl (by exact (pa_cons (pe_lc (own := [("rows", 3)]) rfl nd (pi_list (pv 0)) (blkOk_by (by kernel_rfl)) (fun _ _ _ _ _ => pg_name (i := 3) nd rfl (by first | exact Or.inl rfl | exact Or.inr rfl)) (fun _ _ _ _ _ => pts_nil) (fun _ _ _ _ _ => pe_c0 c_least_value hr (by decide) rfl (by exact (pa_cons (pv 3) (pa_cons (pv 2) (pa_nil)))))) (pa_nil)))) (pa_cons (pe_c0 c_times hr (by decide) rfl (by exact (pa_cons (pv 2) (pa_cons (pv 1) (pa_nil))))) (pa_nil))))))
/-! ### breakpoints_of -/
def t_breakpoints_of (K : PySem.W.Frag) (A : Ad) (p_is_less p_minus p_fraction : Sp) : TS :=
  tSeq (tPar 1 2 (tCons (tLc (iList K (tVar 0)) (gName 8) (tTest (tOp rNotN1 (tVar 8) (tC .non))) (tVar 8) [8]) (tCons (tLst (tNil)) (tNil)))) (tSeq (tFor (iList K (tVar 1)) (gTup K 2 (gCons (gName 3) (gCons (gName 4) (gNil)))) (tFor (iList K (tVar 1)) (gTup K 2 (gCons (gName 5) (gCons (gName 6) (gNil)))) (tIfS (tAnd (tTest (tOp rLtA (tVar 3) (tVar 5))) (tB (tCall p_is_less [] E0 (tCons (tVar 6) (tCons (tVar 4) (tNil)))))) (tSeq (tAsg (tCall p_minus [] E0 (tCons (tVar 4) (tCons (tVar 6) (tNil)))) (gName 7)) (tDrop (tBM K "list" rAppend (tVar 2) (tCons (tCall p_fraction [] E0 (tCons (tOp rMulA (tOp rSubA (tVar 5) (tVar 3)) (tOp (rIx K) (tVar 7) (tC (.int 1)))) (tCons (tOp (rIx K) (tVar 7) (tC (.int 0))) (tNil)))) (tNil))))) (tNext)))) (tRet (tVar 2)))
theorem cal_breakpoints_of {p_is_less p_minus p_fraction : Sp} {sp : Sp} (T : Txt K mg A) (c_is_less : Cal0 P w K mg base 1 "is_less" p_is_less) (c_minus : Cal0 P w K mg base 3 "minus" p_minus) (c_fraction : Cal0 P w K mg base 2 "fraction" p_fraction) (len : ∀ vs H Q E, sp vs H Q E → vs.length = 1)
    (pu : ∀ vs H Q E, sp vs H Q E → t_breakpoints_of K A p_is_less p_minus p_fraction  { nx := fun _ H' => Q .non H', rt := Q } (L2.start ["rows", "some", "found", "cost", "number", "other_cost", "other_number", "less", "row"] vs) H) :
    Cal0 P w K mg base 4 "breakpoints_of" sp := by
  obtain ⟨f, fd, F, g⟩ := T.f_breakpoints_of
  have nd := sc_breakpoints_of.nd
  refine ⟨f, fd, ["rows"], ?_, g, F.kp, F.binds fun _ _ _ _ _ _ us hl => match us, hl with | [_], _ => rfl⟩
  refine F.ok sc_breakpoints_of len fun cdv A' outer s H vs Q E hr h => ⟨t_breakpoints_of K A p_is_less p_minus p_fraction , ?_, pu vs H Q E h⟩
  exact pss_cons (ps_par (i := 1) (j := 2) rfl nd rfl rfl (by decide) rfl rfl (pa_cons (pe_lc (own := [("row", 8)]) rfl nd (pi_list (pv 0)) (blkOk_by (by kernel_rfl)) (fun _ _ _ _ _ => pg_name (i := 8) nd rfl (by first | exact Or.inl rfl | exact Or.inr rfl)) (fun _ _ _ _ _ => pts_one (pt_cmpR op_notN (pv 8) (pe_non) (by first | exact nomark _ | rfl))) (fun _ _ _ _ _ => pv 8)) (pa_cons (pe_lst (pa_nil)) (pa_nil))) (by rfl))
      (pss_cons (ps_for PassesOwn.never rfl (pi_list (pv 1)) (pg_tup rfl (pgs_cons (pg_name (i := 3) nd rfl (by first | exact Or.inl rfl | exact Or.inr rfl)) (pgs_cons (pg_name (i := 4) nd rfl (by first | exact Or.inl rfl | exact Or.inr rfl)) (pgs_nil)))) (pss_one (ps_for PassesOwn.never rfl (pi_list (pv 1)) (pg_tup rfl (pgs_cons (pg_name (i := 5) nd rfl (by first | exact Or.inl rfl | exact Or.inr rfl)) (pgs_cons (pg_name (i := 6) nd rfl (by first | exact Or.inl rfl | exact Or.inr rfl)) (pgs_nil)))) (pss_one (ps_if (PW.pt (pw_and (pt_cmpR op_lt (pv 3) (pv 5) (by first | exact nomark _ | rfl)) (pw_and1 (pt_val (pe_c0 c_is_less hr (by decide) rfl (by exact (pa_cons (pv 6) (pa_cons (pv 4) (pa_nil))))))))) (pss_cons (ps_set (i := 7) nd rfl (by first | exact Or.inl rfl | exact Or.inr rfl) (pe_c0 c_minus hr (by decide) rfl (by exact (pa_cons (pv 4) (pa_cons (pv 6) (pa_nil))))))
      (pss_one (ps_expr (pe_bm PySem.F.plainAttrs_list PySem.F.slot_list_append PySem.F.type_list_append mt_append (pv 2) (pa_cons (pe_c0 c_fraction hr (by decide) rfl (by exact (pa_cons (pe_op op_mulW (pe_op op_sub (pv 5) (pv 3)) (pe_ix ix_seq (pv 7) (pe_int) (fun _ _ => rfl))) (pa_cons (pe_ix ix_seq (pv 7) (pe_int) (fun _ _ => rfl)) (pa_nil))))) (pa_nil)))))) (pss_nil))))))
      (pss_one (ps_ret (pv 2))))
/-! ### best_bound -/
def t_best_bound (K : PySem.W.Frag) (A : Ad) (p_bound_for p_breakpoints_of p_is_less : Sp) : TS :=
  tSeq (tAsg (tLst (tCons (tC (.ref A.nought)) (tNil))) (gName 2)) (tSeq (tFor (iList K (tVar 0)) (gName 3) (tDrop (tBM K "list" rExtend (tVar 2) (tCons (tCall p_breakpoints_of [] E0 (tCons (tVar 3) (tNil))) (tNil))))) (tSeq (tAsg (tC .non) (gName 4)) (tSeq (tFor (iList K (tVar 2)) (gName 5) (tSeq (tAsg (tCall p_bound_for [] E0 (tCons (tVar 0) (tCons (tVar 1) (tCons (tVar 5) (tNil))))) (gName 6)) (tIfS (tOr (tTest (tOp rIsN1 (tVar 4) (tC .non))) (tOr (tB (tCall p_is_less [] E0 (tCons (tOp (rIx K) (tVar 4) (tC (.int 1))) (tCons (tVar 6) (tNil))))) (tAnd (tTest (tOp (rEqA K) (tVar 6) (tOp (rIx K) (tVar 4) (tC (.int 1))))) (tB (tCall p_is_less [] E0 (tCons (tVar 5) (tCons (tOp (rIx K) (tVar 4) (tC (.int 0))) (tNil)))))))) (tAsg (tTup (tCons (tVar 5) (tCons (tVar 6) (tNil)))) (gName 4)) (tNext)))) (tRet (tVar 4)))))
theorem cal_best_bound {p_bound_for p_breakpoints_of p_is_less : Sp} {sp : Sp} (T : Txt K mg A) (c_bound_for : Cal0 P w K mg base 5 "bound_for" p_bound_for) (c_breakpoints_of : Cal0 P w K mg base 4 "breakpoints_of" p_breakpoints_of) (c_is_less : Cal0 P w K mg base 1 "is_less" p_is_less) (len : ∀ vs H Q E, sp vs H Q E → vs.length = 2)
    (pu : ∀ vs H Q E, sp vs H Q E → t_best_bound K A p_bound_for p_breakpoints_of p_is_less  { nx := fun _ H' => Q .non H', rt := Q } (L2.start ["table", "target", "points", "rows", "best", "point", "bound"] vs) H) :
    Cal0 P w K mg base 6 "best_bound" sp := by
  obtain ⟨f, fd, F, g⟩ := T.f_best_bound
  have nd := sc_best_bound.nd
  refine ⟨f, fd, ["table", "target"], ?_, g, F.kp, F.binds fun _ _ _ _ _ _ us hl => match us, hl with | [_, _], _ => rfl⟩
  refine F.ok sc_best_bound len fun cdv A' outer s H vs Q E hr h => ⟨t_best_bound K A p_bound_for p_breakpoints_of p_is_less , ?_, pu vs H Q E h⟩
  exact pss_cons (ps_set (i := 2) nd rfl (by first | exact Or.inl rfl | exact Or.inr rfl) (pe_lst (pa_cons (pe_gc2 rfl T.g_NOUGHT) (pa_nil))))
      (pss_cons (ps_for PassesOwn.never rfl (pi_list (pv 0)) (pg_name (i := 3) nd rfl (by first | exact Or.inl rfl | exact Or.inr rfl)) (pss_one (ps_expr (pe_bm PySem.F.plainAttrs_list PySem.F.slot_list_extend PySem.F.type_list_extend mt_extend (pv 2) (pa_cons (pe_c0 c_breakpoints_of hr (by decide) rfl (by exact (pa_cons (pv 3) (pa_nil)))) (pa_nil))))))
      (pss_cons (ps_set (i := 4) nd rfl (by first | exact Or.inl rfl | exact Or.inr rfl) (pe_non))
      (pss_cons (ps_for PassesOwn.never rfl (pi_list (pv 2)) (pg_name (i := 5) nd rfl (by first | exact Or.inl rfl | exact Or.inr rfl)) (pss_cons (ps_set (i := 6) nd rfl (by first | exact Or.inl rfl | exact Or.inr rfl) (pe_c0 c_bound_for hr (by decide) rfl (by exact (pa_cons (pv 0) (pa_cons (pv 1) (pa_cons (pv 5) (pa_nil)))))))
      (pss_one (ps_if (PW.pt (pw_or (pt_cmpR op_isN (pv 4) (pe_non) (by first | exact nomark _ | rfl)) (pw_or (pt_val (pe_c0 c_is_less hr (by decide) rfl (by exact (pa_cons (pe_ix ix_seq (pv 4) (pe_int) (fun _ _ => rfl)) (pa_cons (pv 6) (pa_nil)))))) (pw_or1 (PW.pt (pw_and (pt_cmpR (op_eqA hr.units) (pv 6) (pe_ix ix_seq (pv 4) (pe_int) (fun _ _ => rfl)) (by first | exact nomark _ | rfl)) (pw_and1 (pt_val (pe_c0 c_is_less hr (by decide) rfl (by exact (pa_cons (pv 5) (pa_cons (pe_ix ix_seq (pv 4) (pe_int) (fun _ _ => rfl)) (pa_nil))))))))))))) (pss_one (ps_set (i := 4) nd rfl (by first | exact Or.inl rfl | exact Or.inr rfl) (pe_tup (pa_cons (pv 5) (pa_cons (pv 6) (pa_nil)))))) (pss_nil)))))
      (pss_one (ps_ret (pv 4))))))
/-! ### Option_init -/
def t_Option_init (K : PySem.W.Frag) (A : Ad) : TS :=
  tSeq (sFld K (tVar 0) (tVar 1) "servers") (tSeq (sFld K (tVar 0) (tVar 2) "rate") (sFld K (tVar 0) (tVar 3) "cost"))
theorem cal_Option_init {sp : Sp} (T : Txt K mg A) {f : Addr} {fd : FuncData} (F : Fun K "__init__" "Option.__init__" s_Option_init f fd)  (len : ∀ vs H Q E, sp vs H Q E → vs.length = 4)
    (pu : ∀ vs H Q E, sp vs H Q E → t_Option_init K A   { nx := fun _ H' => Q .non H', rt := Q } (L2.start ["self", "servers", "rate", "cost"] vs) H) :
    FnOk P w K mg base CX0 1 f fd ["self", "servers", "rate", "cost"] sp := by
  have nd := sc_Option_init.nd
  refine F.ok sc_Option_init len fun cdv A' outer s H vs Q E hr h => ⟨t_Option_init K A  , ?_, pu vs H Q E h⟩
  exact pss_cons (ps_fld (pv 0) (pv 1) rfl)
      (pss_cons (ps_fld (pv 0) (pv 2) rfl)
      (pss_one (ps_fld (pv 0) (pv 3) rfl)))
/-! ### Station_init -/
def t_Station_init (K : PySem.W.Frag) (A : Ad) : TS :=
  tSeq (sFld K (tVar 0) (tC (.int 1)) "arrival") (tSeq (sFld K (tVar 0) (tC (.int 1)) "weight") (sFld K (tVar 0) (tLst (tNil)) "options"))
theorem cal_Station_init {sp : Sp} (T : Txt K mg A) {f : Addr} {fd : FuncData} (F : Fun K "__init__" "Station.__init__" s_Station_init f fd)  (len : ∀ vs H Q E, sp vs H Q E → vs.length = 1)
    (pu : ∀ vs H Q E, sp vs H Q E → t_Station_init K A   { nx := fun _ H' => Q .non H', rt := Q } (L2.start ["self"] vs) H) :
    FnOk P w K mg base CX0 1 f fd ["self"] sp := by
  have nd := sc_Station_init.nd
  refine F.ok sc_Station_init len fun cdv A' outer s H vs Q E hr h => ⟨t_Station_init K A  , ?_, pu vs H Q E h⟩
  exact pss_cons (ps_fld (pv 0) (pe_int) rfl)
      (pss_cons (ps_fld (pv 0) (pe_int) rfl)
      (pss_one (ps_fld (pv 0) (pe_lst (pa_nil)) rfl)))
/-! ### Model_init -/
def t_Model_init (K : PySem.W.Frag) (A : Ad) (p_Station_init : Sp) : TS :=
  tSeq (sFld K (tVar 0) (tLc (iRng1 (tCons (tVar 1) (tNil))) (gName 2) (tYes) (tMake (A.c 1) p_Station_init [] E0 tNil) [2]) "stations") (tSeq (sFld K (tVar 0) (tC (.ref A.nought)) "target") (sFld K (tVar 0) (tC (.ref A.one)) "limit"))
theorem cal_Model_init {p_Station_init : Sp} {sp : Sp} (T : Txt K mg A) {f : Addr} {fd : FuncData} (F : Fun K "__init__" "Model.__init__" s_Model_init f fd) (c_Station_init : MakX P w K mg base 1 "Station" (A.c 1) p_Station_init) (len : ∀ vs H Q E, sp vs H Q E → vs.length = 2)
    (pu : ∀ vs H Q E, sp vs H Q E → t_Model_init K A p_Station_init  { nx := fun _ H' => Q .non H', rt := Q } (L2.start ["self", "many", "turn"] vs) H) :
    FnOk P w K mg base CX0 3 f fd ["self", "many"] sp := by
  have nd := sc_Model_init.nd
  refine F.ok sc_Model_init len fun cdv A' outer s H vs Q E hr h => ⟨t_Model_init K A p_Station_init , ?_, pu vs H Q E h⟩
  exact pss_cons (ps_fld (pv 0) (pe_lc (own := [("turn", 2)]) rfl nd (pi_range1 (by rfl) T.b_range (pa_cons (pv 1) (pa_nil))) (blkOk_by (by kernel_rfl)) (fun _ _ _ _ _ => pg_name (i := 2) nd rfl (by first | exact Or.inl rfl | exact Or.inr rfl)) (fun _ _ _ _ _ => pts_nil) (fun _ _ _ _ _ => pe_mx0 c_Station_init hr (by decide) rfl)) rfl)
      (pss_cons (ps_fld (pv 0) (pe_gc2 rfl T.g_NOUGHT) rfl)
      (pss_one (ps_fld (pv 0) (pe_gc2 rfl T.g_ONE) rfl)))
/-! ### load_of -/
def t_load_of (K : PySem.W.Frag) (A : Ad) (p_fraction : Sp) : TS :=
  tRet (tCall p_fraction [] E0 (tCons (tOp rMulA (tFld K (tVar 0) "arrival") (tVar 2)) (tCons (tOp rMulA (tFld K (tVar 1) "rate") (tC (.int (100)))) (tNil))))
theorem cal_load_of {p_fraction : Sp} {sp : Sp} (T : Txt K mg A) (c_fraction : Cal0 P w K mg base 2 "fraction" p_fraction) (len : ∀ vs H Q E, sp vs H Q E → vs.length = 3)
    (pu : ∀ vs H Q E, sp vs H Q E → t_load_of K A p_fraction  { nx := fun _ H' => Q .non H', rt := Q } (L2.start ["station", "option", "percent"] vs) H) :
    Cal0 P w K mg base 3 "load_of" sp := by
  obtain ⟨f, fd, F, g⟩ := T.f_load_of
  have nd := sc_load_of.nd
  refine ⟨f, fd, ["station", "option", "percent"], ?_, g, F.kp, F.binds fun _ _ _ _ _ _ us hl => match us, hl with | [_, _, _], _ => rfl⟩
  refine F.ok sc_load_of len fun cdv A' outer s H vs Q E hr h => ⟨t_load_of K A p_fraction , ?_, pu vs H Q E h⟩
  exact pss_one (ps_ret (pe_c0 c_fraction hr (by decide) rfl (by exact (pa_cons (pe_op op_mulW (pe_fld (pv 0) rfl) (pv 2)) (pa_cons (pe_op op_mulW (pe_fld (pv 1) rfl) (pe_gc2 rfl T.g_PERCENT)) (pa_nil))))))
/-! ### utilization -/
def t_utilization (K : PySem.W.Frag) (A : Ad) (p_fraction : Sp) : TS :=
  tRet (tCall p_fraction [] E0 (tCons (tOp rMulA (tFld K (tVar 0) "arrival") (tVar 2)) (tCons (tOp rMulA (tOp rMulA (tFld K (tVar 1) "servers") (tFld K (tVar 1) "rate")) (tC (.int (100)))) (tNil))))
theorem cal_utilization {p_fraction : Sp} {sp : Sp} (T : Txt K mg A) (c_fraction : Cal0 P w K mg base 2 "fraction" p_fraction) (len : ∀ vs H Q E, sp vs H Q E → vs.length = 3)
    (pu : ∀ vs H Q E, sp vs H Q E → t_utilization K A p_fraction  { nx := fun _ H' => Q .non H', rt := Q } (L2.start ["station", "option", "percent"] vs) H) :
    Cal0 P w K mg base 3 "utilization" sp := by
  obtain ⟨f, fd, F, g⟩ := T.f_utilization
  have nd := sc_utilization.nd
  refine ⟨f, fd, ["station", "option", "percent"], ?_, g, F.kp, F.binds fun _ _ _ _ _ _ us hl => match us, hl with | [_, _, _], _ => rfl⟩
  refine F.ok sc_utilization len fun cdv A' outer s H vs Q E hr h => ⟨t_utilization K A p_fraction , ?_, pu vs H Q E h⟩
  exact pss_one (ps_ret (pe_c0 c_fraction hr (by decide) rfl (by exact (pa_cons (pe_op op_mulW (pe_fld (pv 0) rfl) (pv 2)) (pa_cons (pe_op op_mulW (pe_op op_mulW (pe_fld (pv 1) rfl) (pe_fld (pv 1) rfl)) (pe_gc2 rfl T.g_PERCENT)) (pa_nil))))))
/-! ### is_option_allowed -/
def t_is_option_allowed (K : PySem.W.Frag) (A : Ad) (p_utilization p_is_less : Sp) : TS :=
  tSeq (tAsg (tCall p_utilization [] E0 (tCons (tVar 1) (tCons (tVar 2) (tCons (tVar 3) (tNil))))) (gName 4)) (tRet (tAndV (tCall p_is_less [] E0 (tCons (tVar 4) (tCons (tC (.ref A.one)) (tNil)))) (tNotV (tCall p_is_less [] E0 (tCons (tFld K (tVar 0) "limit") (tCons (tVar 4) (tNil)))))))
theorem cal_is_option_allowed {p_utilization p_is_less : Sp} {sp : Sp} (T : Txt K mg A) (c_utilization : Cal0 P w K mg base 3 "utilization" p_utilization) (c_is_less : Cal0 P w K mg base 1 "is_less" p_is_less) (len : ∀ vs H Q E, sp vs H Q E → vs.length = 4)
    (pu : ∀ vs H Q E, sp vs H Q E → t_is_option_allowed K A p_utilization p_is_less  { nx := fun _ H' => Q .non H', rt := Q } (L2.start ["model", "station", "option", "percent", "used"] vs) H) :
    Cal0 P w K mg base 4 "is_option_allowed" sp := by
  obtain ⟨f, fd, F, g⟩ := T.f_is_option_allowed
  have nd := sc_is_option_allowed.nd
  refine ⟨f, fd, ["model", "station", "option", "percent"], ?_, g, F.kp, F.binds fun _ _ _ _ _ _ us hl => match us, hl with | [_, _, _, _], _ => rfl⟩
  refine F.ok sc_is_option_allowed len fun cdv A' outer s H vs Q E hr h => ⟨t_is_option_allowed K A p_utilization p_is_less , ?_, pu vs H Q E h⟩
  exact pss_cons (ps_set (i := 4) nd rfl (by first | exact Or.inl rfl | exact Or.inr rfl) (pe_c0 c_utilization hr (by decide) rfl (by exact (pa_cons (pv 1) (pa_cons (pv 2) (pa_cons (pv 3) (pa_nil)))))))
      (pss_one (ps_ret (pe_and (pe_c0 c_is_less hr (by decide) rfl (by exact (pa_cons (pv 4) (pa_cons (pe_gc2 rfl T.g_ONE) (pa_nil))))) (pe_one (pe_not (pe_c0 c_is_less hr (by decide) rfl (by exact (pa_cons (pe_fld (pv 0) rfl) (pa_cons (pv 4) (pa_nil))))))))))
/-! ### blocked -/
def t_blocked (K : PySem.W.Frag) (A : Ad) (p_times p_over p_plus p_whole : Sp) : TS :=
  tSeq (tAsg (tC (.ref A.one)) (gName 2)) (tSeq (tFor (iRng1 (tCons (tVar 1) (tNil))) (gName 3) (tSeq (tAsg (tCall p_times [] E0 (tCons (tVar 0) (tCons (tVar 2) (tNil)))) (gName 4)) (tAsg (tCall p_over [] E0 (tCons (tVar 4) (tCons (tCall p_plus [] E0 (tCons (tCall p_whole [] E0 (tCons (tOp rAddA (tVar 3) (tC (.int 1))) (tNil))) (tCons (tVar 4) (tNil)))) (tNil)))) (gName 2)))) (tRet (tVar 2)))
theorem cal_blocked {p_times p_over p_plus p_whole : Sp} {sp : Sp} (T : Txt K mg A) (c_times : Cal0 P w K mg base 3 "times" p_times) (c_over : Cal0 P w K mg base 3 "over" p_over) (c_plus : Cal0 P w K mg base 3 "plus" p_plus) (c_whole : Cal0 P w K mg base 1 "whole" p_whole) (len : ∀ vs H Q E, sp vs H Q E → vs.length = 2)
    (pu : ∀ vs H Q E, sp vs H Q E → t_blocked K A p_times p_over p_plus p_whole  { nx := fun _ H' => Q .non H', rt := Q } (L2.start ["load", "servers", "found", "k", "more"] vs) H) :
    Cal0 P w K mg base 4 "blocked" sp := by
  obtain ⟨f, fd, F, g⟩ := T.f_blocked
  have nd := sc_blocked.nd
  refine ⟨f, fd, ["load", "servers"], ?_, g, F.kp, F.binds fun _ _ _ _ _ _ us hl => match us, hl with | [_, _], _ => rfl⟩
  refine F.ok sc_blocked len fun cdv A' outer s H vs Q E hr h => ⟨t_blocked K A p_times p_over p_plus p_whole , ?_, pu vs H Q E h⟩
  exact pss_cons (ps_set (i := 2) nd rfl (by first | exact Or.inl rfl | exact Or.inr rfl) (pe_gc2 rfl T.g_ONE))
      (pss_cons (ps_for PassesOwn.never rfl (pi_range1 (by rfl) T.b_range (pa_cons (pv 1) (pa_nil))) (pg_name (i := 3) nd rfl (by first | exact Or.inl rfl | exact Or.inr rfl)) (pss_cons (ps_set (i := 4) nd rfl (by first | exact Or.inl rfl | exact Or.inr rfl) (pe_c0 c_times hr (by decide) rfl (by exact (pa_cons (pv 0) (pa_cons (pv 2) (pa_nil))))))
      (pss_one (ps_set (i := 2) nd rfl (by first | exact Or.inl rfl | exact Or.inr rfl) (pe_c0 c_over hr (by decide) rfl (by exact (pa_cons (pv 4) (pa_cons (pe_c0 c_plus hr (by decide) rfl (by exact (pa_cons (pe_c0 c_whole hr (by decide) rfl (by exact (pa_cons (pe_op op_addA (pv 3) (pe_int)) (pa_nil)))) (pa_cons (pv 4) (pa_nil))))) (pa_nil)))))))))
      (pss_one (ps_ret (pv 2))))
/-! ### number_of -/
def t_number_of (K : PySem.W.Frag) (A : Ad) (p_blocked p_over p_plus p_load_of p_utilization p_minus p_times : Sp) : TS :=
  tSeq (tPar 3 4 (tCons (tCall p_load_of [] E0 (tCons (tVar 0) (tCons (tVar 1) (tCons (tVar 2) (tNil))))) (tCons (tCall p_utilization [] E0 (tCons (tVar 0) (tCons (tVar 1) (tCons (tVar 2) (tNil))))) (tNil)))) (tSeq (tAsg (tCall p_blocked [] E0 (tCons (tVar 3) (tCons (tFld K (tVar 1) "servers") (tNil)))) (gName 5)) (tSeq (tAsg (tCall p_over [] E0 (tCons (tVar 5) (tCons (tCall p_minus [] E0 (tCons (tC (.ref A.one)) (tCons (tCall p_times [] E0 (tCons (tVar 4) (tCons (tCall p_minus [] E0 (tCons (tC (.ref A.one)) (tCons (tVar 5) (tNil)))) (tNil)))) (tNil)))) (tNil)))) (gName 6)) (tRet (tCall p_plus [] E0 (tCons (tVar 3) (tCons (tCall p_over [] E0 (tCons (tCall p_times [] E0 (tCons (tVar 6) (tCons (tVar 4) (tNil)))) (tCons (tCall p_minus [] E0 (tCons (tC (.ref A.one)) (tCons (tVar 4) (tNil)))) (tNil)))) (tNil)))))))
theorem cal_number_of {p_blocked p_over p_plus p_load_of p_utilization p_minus p_times : Sp} {sp : Sp} (T : Txt K mg A) (c_blocked : Cal0 P w K mg base 4 "blocked" p_blocked) (c_over : Cal0 P w K mg base 3 "over" p_over) (c_plus : Cal0 P w K mg base 3 "plus" p_plus) (c_load_of : Cal0 P w K mg base 3 "load_of" p_load_of) (c_utilization : Cal0 P w K mg base 3 "utilization" p_utilization) (c_minus : Cal0 P w K mg base 3 "minus" p_minus) (c_times : Cal0 P w K mg base 3 "times" p_times) (len : ∀ vs H Q E, sp vs H Q E → vs.length = 3)
    (pu : ∀ vs H Q E, sp vs H Q E → t_number_of K A p_blocked p_over p_plus p_load_of p_utilization p_minus p_times  { nx := fun _ H' => Q .non H', rt := Q } (L2.start ["station", "option", "percent", "load", "used", "part", "waits"] vs) H) :
    Cal0 P w K mg base 5 "number_of" sp := by
  obtain ⟨f, fd, F, g⟩ := T.f_number_of
  have nd := sc_number_of.nd
  refine ⟨f, fd, ["station", "option", "percent"], ?_, g, F.kp, F.binds fun _ _ _ _ _ _ us hl => match us, hl with | [_, _, _], _ => rfl⟩
  refine F.ok sc_number_of len fun cdv A' outer s H vs Q E hr h => ⟨t_number_of K A p_blocked p_over p_plus p_load_of p_utilization p_minus p_times , ?_, pu vs H Q E h⟩
  exact pss_cons (ps_par (i := 3) (j := 4) rfl nd rfl rfl (by decide) rfl rfl (pa_cons (pe_c0 c_load_of hr (by decide) rfl (by exact (pa_cons (pv 0) (pa_cons (pv 1) (pa_cons (pv 2) (pa_nil)))))) (pa_cons (pe_c0 c_utilization hr (by decide) rfl (by exact (pa_cons (pv 0) (pa_cons (pv 1) (pa_cons (pv 2) (pa_nil)))))) (pa_nil))) (by rfl))
      (pss_cons (ps_set (i := 5) nd rfl (by first | exact Or.inl rfl | exact Or.inr rfl) (pe_c0 c_blocked hr (by decide) rfl (by exact (pa_cons (pv 3) (pa_cons (pe_fld (pv 1) rfl) (pa_nil))))))
      (pss_cons (ps_set (i := 6) nd rfl (by first | exact Or.inl rfl | exact Or.inr rfl) (pe_c0 c_over hr (by decide) rfl (by exact (pa_cons (pv 5) (pa_cons (pe_c0 c_minus hr (by decide) rfl (by exact (pa_cons (pe_gc2 rfl T.g_ONE) (pa_cons (pe_c0 c_times hr (by decide) rfl (by exact (pa_cons (pv 4) (pa_cons (pe_c0 c_minus hr (by decide) rfl (by exact (pa_cons (pe_gc2 rfl T.g_ONE) (pa_cons (pv 5) (pa_nil))))) (pa_nil))))) (pa_nil))))) (pa_nil))))))
      (pss_one (ps_ret (pe_c0 c_plus hr (by decide) rfl (by exact (pa_cons (pv 3) (pa_cons (pe_c0 c_over hr (by decide) rfl (by exact (pa_cons (pe_c0 c_times hr (by decide) rfl (by exact (pa_cons (pv 6) (pa_cons (pv 4) (pa_nil))))) (pa_cons (pe_c0 c_minus hr (by decide) rfl (by exact (pa_cons (pe_gc2 rfl T.g_ONE) (pa_cons (pv 4) (pa_nil))))) (pa_nil))))) (pa_nil)))))))))
/-! ### weighted_number -/
def t_weighted_number (K : PySem.W.Frag) (A : Ad) (p_times p_whole p_number_of : Sp) : TS :=
  tRet (tCall p_times [] E0 (tCons (tCall p_whole [] E0 (tCons (tFld K (tVar 0) "weight") (tNil))) (tCons (tCall p_number_of [] E0 (tCons (tVar 0) (tCons (tVar 1) (tCons (tVar 2) (tNil))))) (tNil))))
theorem cal_weighted_number {p_times p_whole p_number_of : Sp} {sp : Sp} (T : Txt K mg A) (c_times : Cal0 P w K mg base 3 "times" p_times) (c_whole : Cal0 P w K mg base 1 "whole" p_whole) (c_number_of : Cal0 P w K mg base 5 "number_of" p_number_of) (len : ∀ vs H Q E, sp vs H Q E → vs.length = 3)
    (pu : ∀ vs H Q E, sp vs H Q E → t_weighted_number K A p_times p_whole p_number_of  { nx := fun _ H' => Q .non H', rt := Q } (L2.start ["station", "option", "percent"] vs) H) :
    Cal0 P w K mg base 6 "weighted_number" sp := by
  obtain ⟨f, fd, F, g⟩ := T.f_weighted_number
  have nd := sc_weighted_number.nd
  refine ⟨f, fd, ["station", "option", "percent"], ?_, g, F.kp, F.binds fun _ _ _ _ _ _ us hl => match us, hl with | [_, _, _], _ => rfl⟩
  refine F.ok sc_weighted_number len fun cdv A' outer s H vs Q E hr h => ⟨t_weighted_number K A p_times p_whole p_number_of , ?_, pu vs H Q E h⟩
  exact pss_one (ps_ret (pe_c0 c_times hr (by decide) rfl (by exact (pa_cons (pe_c0 c_whole hr (by decide) rfl (by exact (pa_cons (pe_fld (pv 0) rfl) (pa_nil)))) (pa_cons (pe_c0 c_number_of hr (by decide) rfl (by exact (pa_cons (pv 0) (pa_cons (pv 1) (pa_cons (pv 2) (pa_nil)))))) (pa_nil))))))
/-! ### rows_of -/
def t_rows_of (K : PySem.W.Frag) (A : Ad) (p_is_option_allowed p_weighted_number : Sp) : TS :=
  tSeq (tAsg (tLst (tNil)) (gName 3)) (tSeq (tFor (iList K (tFld K (tVar 1) "options")) (gName 4) (tSeq (tAsg (tCall p_is_option_allowed [] E0 (tCons (tVar 0) (tCons (tVar 1) (tCons (tVar 4) (tCons (tVar 2) (tNil)))))) (gName 5)) (tDrop (tBM K "list" rAppend (tVar 3) (tCons (tIf (tB (tVar 5)) (tTup (tCons (tFld K (tVar 4) "cost") (tCons (tCall p_weighted_number [] E0 (tCons (tVar 1) (tCons (tVar 4) (tCons (tVar 2) (tNil))))) (tNil)))) (tC .non)) (tNil)))))) (tRet (tVar 3)))
theorem cal_rows_of {p_is_option_allowed p_weighted_number : Sp} {sp : Sp} (T : Txt K mg A) (c_is_option_allowed : Cal0 P w K mg base 4 "is_option_allowed" p_is_option_allowed) (c_weighted_number : Cal0 P w K mg base 6 "weighted_number" p_weighted_number) (len : ∀ vs H Q E, sp vs H Q E → vs.length = 3)
    (pu : ∀ vs H Q E, sp vs H Q E → t_rows_of K A p_is_option_allowed p_weighted_number  { nx := fun _ H' => Q .non H', rt := Q } (L2.start ["model", "station", "percent", "rows", "option", "is_there"] vs) H) :
    Cal0 P w K mg base 7 "rows_of" sp := by
  obtain ⟨f, fd, F, g⟩ := T.f_rows_of
  have nd := sc_rows_of.nd
  refine ⟨f, fd, ["model", "station", "percent"], ?_, g, F.kp, F.binds fun _ _ _ _ _ _ us hl => match us, hl with | [_, _, _], _ => rfl⟩
  refine F.ok sc_rows_of len fun cdv A' outer s H vs Q E hr h => ⟨t_rows_of K A p_is_option_allowed p_weighted_number , ?_, pu vs H Q E h⟩
  exact pss_cons (ps_set (i := 3) nd rfl (by first | exact Or.inl rfl | exact Or.inr rfl) (pe_lst (pa_nil)))
      (pss_cons (ps_for PassesOwn.never rfl (pi_list (pe_fld (pv 1) rfl)) (pg_name (i := 4) nd rfl (by first | exact Or.inl rfl | exact Or.inr rfl)) (pss_cons (ps_set (i := 5) nd rfl (by first | exact Or.inl rfl | exact Or.inr rfl) (pe_c0 c_is_option_allowed hr (by decide) rfl (by exact (pa_cons (pv 0) (pa_cons (pv 1) (pa_cons (pv 4) (pa_cons (pv 2) (pa_nil))))))))
      (pss_one (ps_expr (pe_bm PySem.F.plainAttrs_list PySem.F.slot_list_append PySem.F.type_list_append mt_append (pv 3) (pa_cons (pe_ifExp (pt_val (pv 5)) (pe_tup (pa_cons (pe_fld (pv 4) rfl) (pa_cons (pe_c0 c_weighted_number hr (by decide) rfl (by exact (pa_cons (pv 1) (pa_cons (pv 4) (pa_cons (pv 2) (pa_nil)))))) (pa_nil)))) (pe_non)) (pa_nil)))))))
      (pss_one (ps_ret (pv 3))))
/-! ### table_of -/
def t_table_of (K : PySem.W.Frag) (A : Ad) (p_rows_of : Sp) : TS :=
  tRet (tLc (iList K (tFld K (tVar 0) "stations")) (gName 1) (tYes) (tCall p_rows_of [] E0 (tCons (tVar 0) (tCons (tVar 1) (tCons (tC (.int (100))) (tNil))))) [1])
theorem cal_table_of {p_rows_of : Sp} {sp : Sp} (T : Txt K mg A) (c_rows_of : Cal0 P w K mg base 7 "rows_of" p_rows_of) (len : ∀ vs H Q E, sp vs H Q E → vs.length = 1)
    (pu : ∀ vs H Q E, sp vs H Q E → t_table_of K A p_rows_of  { nx := fun _ H' => Q .non H', rt := Q } (L2.start ["model", "station"] vs) H) :
    Cal0 P w K mg base 8 "table_of" sp := by
  obtain ⟨f, fd, F, g⟩ := T.f_table_of
  have nd := sc_table_of.nd
  refine ⟨f, fd, ["model"], ?_, g, F.kp, F.binds fun _ _ _ _ _ _ us hl => match us, hl with | [_], _ => rfl⟩
  refine F.ok sc_table_of len fun cdv A' outer s H vs Q E hr h => ⟨t_table_of K A p_rows_of , ?_, pu vs H Q E h⟩
  exact pss_one (ps_ret (pe_lc (own := [("station", 1)]) rfl nd (pi_list (pe_fld (pv 0) rfl)) (blkOk_by (by kernel_rfl)) (fun _ _ _ _ _ => pg_name (i := 1) nd rfl (by first | exact Or.inl rfl | exact Or.inr rfl)) (fun _ _ _ _ _ => pts_nil) (fun _ _ _ _ _ => pe_c0 c_rows_of hr (by decide) rfl (by exact (pa_cons (pv 0) (pa_cons (pv 1) (pa_cons (pe_gc2 rfl T.g_PERCENT) (pa_nil))))))))
/-! ### dominates -/
def t_dominates (K : PySem.W.Frag) (A : Ad) (p_is_less : Sp) : TS :=
  tSeq (tIfS (tOr (tTest (tOp rGtA (tOp (rIx K) (tVar 0) (tC (.int 0))) (tOp (rIx K) (tVar 1) (tC (.int 0))))) (tB (tCall p_is_less [] E0 (tCons (tOp (rIx K) (tVar 1) (tC (.int 1))) (tCons (tOp (rIx K) (tVar 0) (tC (.int 1))) (tNil)))))) (tRet (tC (.bl false))) (tNext)) (tRet (tOrV (tOp rLtA (tOp (rIx K) (tVar 0) (tC (.int 0))) (tOp (rIx K) (tVar 1) (tC (.int 0)))) (tCall p_is_less [] E0 (tCons (tOp (rIx K) (tVar 0) (tC (.int 1))) (tCons (tOp (rIx K) (tVar 1) (tC (.int 1))) (tNil))))))
theorem cal_dominates {p_is_less : Sp} {sp : Sp} (T : Txt K mg A) (c_is_less : Cal0 P w K mg base 1 "is_less" p_is_less) (len : ∀ vs H Q E, sp vs H Q E → vs.length = 2)
    (pu : ∀ vs H Q E, sp vs H Q E → t_dominates K A p_is_less  { nx := fun _ H' => Q .non H', rt := Q } (L2.start ["one", "other"] vs) H) :
    Cal0 P w K mg base 2 "dominates" sp := by
  obtain ⟨f, fd, F, g⟩ := T.f_dominates
  have nd := sc_dominates.nd
  refine ⟨f, fd, ["one", "other"], ?_, g, F.kp, F.binds fun _ _ _ _ _ _ us hl => match us, hl with | [_, _], _ => rfl⟩
  refine F.ok sc_dominates len fun cdv A' outer s H vs Q E hr h => ⟨t_dominates K A p_is_less , ?_, pu vs H Q E h⟩
  exact pss_cons (ps_if (PW.pt (pw_or (pt_cmpR op_gt (pe_ix ix_seq (pv 0) (pe_int) (fun _ _ => rfl)) (pe_ix ix_seq (pv 1) (pe_int) (fun _ _ => rfl)) (by first | exact nomark _ | rfl)) (pw_or1 (pt_val (pe_c0 c_is_less hr (by decide) rfl (by exact (pa_cons (pe_ix ix_seq (pv 1) (pe_int) (fun _ _ => rfl)) (pa_cons (pe_ix ix_seq (pv 0) (pe_int) (fun _ _ => rfl)) (pa_nil))))))))) (pss_one (ps_ret (pe_bl))) (pss_nil))
      (pss_one (ps_ret (pe_or (pe_cmpR op_lt (pe_ix ix_seq (pv 0) (pe_int) (fun _ _ => rfl)) (pe_ix ix_seq (pv 1) (pe_int) (fun _ _ => rfl)) (by first | exact nomark _ | rfl)) (pe_one (pe_c0 c_is_less hr (by decide) rfl (by exact (pa_cons (pe_ix ix_seq (pv 0) (pe_int) (fun _ _ => rfl)) (pa_cons (pe_ix ix_seq (pv 1) (pe_int) (fun _ _ => rfl)) (pa_nil)))))))))
/-! ### allowed_options -/
def t_allowed_options (K : PySem.W.Frag) (A : Ad) : TS :=
  tRet (tLc (iEnum K (tCons (tVar 0) (tNil))) (gTup K 2 (gCons (gName 1) (gCons (gName 2) (gNil)))) (tTest (tOp rNotN1 (tVar 2) (tC .non))) (tVar 1) [1, 2])
theorem cal_allowed_options {sp : Sp} (T : Txt K mg A)  (len : ∀ vs H Q E, sp vs H Q E → vs.length = 1)
    (pu : ∀ vs H Q E, sp vs H Q E → t_allowed_options K A   { nx := fun _ H' => Q .non H', rt := Q } (L2.start ["rows", "at", "row"] vs) H) :
    Cal0 P w K mg base 1 "allowed_options" sp := by
  obtain ⟨f, fd, F, g⟩ := T.f_allowed_options
  have nd := sc_allowed_options.nd
  refine ⟨f, fd, ["rows"], ?_, g, F.kp, F.binds fun _ _ _ _ _ _ us hl => match us, hl with | [_], _ => rfl⟩
  refine F.ok sc_allowed_options len fun cdv A' outer s H vs Q E hr h => ⟨t_allowed_options K A  , ?_, pu vs H Q E h⟩
  exact pss_one (ps_ret (pe_lc (own := [("at", 1), ("row", 2)]) rfl nd (pi_enum (by rfl) T.b_enumerate (pa_cons (pv 0) (pa_nil))) (blkOk_by (by kernel_rfl)) (fun _ _ _ _ _ => pg_tup rfl (pgs_cons (pg_name (i := 1) nd rfl (by first | exact Or.inl rfl | exact Or.inr rfl)) (pgs_cons (pg_name (i := 2) nd rfl (by first | exact Or.inl rfl | exact Or.inr rfl)) (pgs_nil)))) (fun _ _ _ _ _ => pts_one (pt_cmpR op_notN (pv 2) (pe_non) (by first | exact nomark _ | rfl))) (fun _ _ _ _ _ => pv 1)))
/-! ### dominated_options -/
def t_dominated_options (K : PySem.W.Frag) (A : Ad) (p_allowed_options p_dominates : Sp) : TS :=
  tSeq (tAsg (tLc (iList K (tVar 0)) (gName 2) (tTest (tOp rNotN1 (tVar 2) (tC .non))) (tVar 2) [2]) (gName 1)) (tRet (tLc (iList K (tCall p_allowed_options [] E0 (tCons (tVar 0) (tNil)))) (gName 3) (tTest (tOp (rInD K) (tC (.bl true)) (tLc (iList K (tVar 1)) (gName 2) (tYes) (tCall p_dominates [] E0 (tCons (tVar 2) (tCons (tOp (rIx K) (tVar 0) (tVar 3)) (tNil)))) [2]))) (tVar 3) [3]))
theorem cal_dominated_options {p_allowed_options p_dominates : Sp} {sp : Sp} (T : Txt K mg A) (c_allowed_options : Cal0 P w K mg base 1 "allowed_options" p_allowed_options) (c_dominates : Cal0 P w K mg base 2 "dominates" p_dominates) (len : ∀ vs H Q E, sp vs H Q E → vs.length = 1)
    (pu : ∀ vs H Q E, sp vs H Q E → t_dominated_options K A p_allowed_options p_dominates  { nx := fun _ H' => Q .non H', rt := Q } (L2.start ["rows", "some", "row", "at"] vs) H) :
    Cal0 P w K mg base 3 "dominated_options" sp := by
  obtain ⟨f, fd, F, g⟩ := T.f_dominated_options
  have nd := sc_dominated_options.nd
  refine ⟨f, fd, ["rows"], ?_, g, F.kp, F.binds fun _ _ _ _ _ _ us hl => match us, hl with | [_], _ => rfl⟩
  refine F.ok sc_dominated_options len fun cdv A' outer s H vs Q E hr h => ⟨t_dominated_options K A p_allowed_options p_dominates , ?_, pu vs H Q E h⟩
  exact pss_cons (ps_set (i := 1) nd rfl (by first | exact Or.inl rfl | exact Or.inr rfl) (pe_lc (own := [("row", 2)]) rfl nd (pi_list (pv 0)) (blkOk_by (by kernel_rfl)) (fun _ _ _ _ _ => pg_name (i := 2) nd rfl (by first | exact Or.inl rfl | exact Or.inr rfl)) (fun _ _ _ _ _ => pts_one (pt_cmpR op_notN (pv 2) (pe_non) (by first | exact nomark _ | rfl))) (fun _ _ _ _ _ => pv 2)))
      (pss_one (ps_ret (pe_lc (own := [("at", 3)]) rfl nd (pi_list (pe_c0 c_allowed_options hr (by decide) rfl (by exact (pa_cons (pv 0) (pa_nil))))) (blkOk_by (by kernel_rfl)) (fun _ _ _ _ _ => pg_name (i := 3) nd rfl (by first | exact Or.inl rfl | exact Or.inr rfl)) (fun _ _ _ _ _ => pts_one (pt_cmpR (op_inD (hu65 hr)) (pe_bl) (pe_lc (own := [("row", 2)]) rfl nd (pi_list (pv 1)) (blkOk_by (by kernel_rfl)) (fun _ _ _ _ _ => pg_name (i := 2) nd rfl (by first | exact Or.inl rfl | exact Or.inr rfl)) (fun _ _ _ _ _ => pts_nil) (fun _ _ _ _ _ => pe_c0 c_dominates hr (by decide) rfl (by exact (pa_cons (pv 2) (pa_cons (pe_ix ix_seq (pv 0) (pv 3) (fun _ _ => rfl)) (pa_nil)))))) (by first | exact nomark _ | rfl))) (fun _ _ _ _ _ => pv 3))))
/-! ### is_plan -/
def t_is_plan (K : PySem.W.Frag) (A : Ad) : TS :=
  tSeq (tIfS (tTest (tOp (rNeA K) (tCB (rLen1 K) (tCons (tVar 1) (tNil))) (tCB (rLen1 K) (tCons (tFld K (tVar 0) "stations") (tNil))))) (tRet (tC (.bl false))) (tNext)) (tSeq (tFor (iZip K (tCons (tFld K (tVar 0) "stations") (tCons (tVar 1) (tNil)))) (gTup K 2 (gCons (gName 2) (gCons (gName 3) (gNil)))) (tIfS (tTest (tOp rGeA (tVar 3) (tCB (rLen1 K) (tCons (tFld K (tVar 2) "options") (tNil))))) (tRet (tC (.bl false))) (tNext))) (tRet (tC (.bl true))))
theorem cal_is_plan {sp : Sp} (T : Txt K mg A)  (len : ∀ vs H Q E, sp vs H Q E → vs.length = 2)
    (pu : ∀ vs H Q E, sp vs H Q E → t_is_plan K A   { nx := fun _ H' => Q .non H', rt := Q } (L2.start ["model", "plan", "station", "number"] vs) H) :
    Cal0 P w K mg base 1 "is_plan" sp := by
  obtain ⟨f, fd, F, g⟩ := T.f_is_plan
  have nd := sc_is_plan.nd
  refine ⟨f, fd, ["model", "plan"], ?_, g, F.kp, F.binds fun _ _ _ _ _ _ us hl => match us, hl with | [_, _], _ => rfl⟩
  refine F.ok sc_is_plan len fun cdv A' outer s H vs Q E hr h => ⟨t_is_plan K A  , ?_, pu vs H Q E h⟩
  exact pss_cons (ps_if (pt_cmpR (op_neA hr.units) (pe_callB call_len_seq (by rfl) T.b_len PySem.boot_len (pa_cons (pv 1) (pa_nil))) (pe_callB call_len_seq (by rfl) T.b_len PySem.boot_len (pa_cons (pe_fld (pv 0) rfl) (pa_nil))) (by first | exact nomark _ | rfl)) (pss_one (ps_ret (pe_bl))) (pss_nil))
      (pss_cons (ps_for PassesOwn.never rfl (pi_zip (by rfl) T.b_zip (pa_cons (pe_fld (pv 0) rfl) (pa_cons (pv 1) (pa_nil)))) (pg_tup rfl (pgs_cons (pg_name (i := 2) nd rfl (by first | exact Or.inl rfl | exact Or.inr rfl)) (pgs_cons (pg_name (i := 3) nd rfl (by first | exact Or.inl rfl | exact Or.inr rfl)) (pgs_nil)))) (pss_one (ps_if (pt_cmpR op_ge (pv 3) (pe_callB call_len_seq (by rfl) T.b_len PySem.boot_len (pa_cons (pe_fld (pv 2) rfl) (pa_nil))) (by first | exact nomark _ | rfl)) (pss_one (ps_ret (pe_bl))) (pss_nil))))
      (pss_one (ps_ret (pe_bl))))
/-! ### value_of -/
def t_value_of (K : PySem.W.Frag) (A : Ad) (p_sum_of : Sp) : TS :=
  tSeq (tAsg (tLc (iZip K (tCons (tVar 0) (tCons (tVar 1) (tNil)))) (gTup K 2 (gCons (gName 3) (gCons (gName 4) (gNil)))) (tYes) (tOp (rIx K) (tVar 3) (tVar 4)) [3, 4]) (gName 2)) (tSeq (tIfS (tTest (tOp (rInD K) (tC .non) (tVar 2))) (tRet (tC .non)) (tNext)) (tRet (tTup (tCons (tCB (rSum K) (tCons (tLc (iList K (tVar 2)) (gTup K 2 (gCons (gName 5) (gCons (gName 4) (gNil)))) (tYes) (tVar 5) [5, 4]) (tNil))) (tCons (tCall p_sum_of [] E0 (tCons (tLc (iList K (tVar 2)) (gTup K 2 (gCons (gName 5) (gCons (gName 4) (gNil)))) (tYes) (tVar 4) [5, 4]) (tNil))) (tNil))))))
theorem cal_value_of {p_sum_of : Sp} {sp : Sp} (T : Txt K mg A) (c_sum_of : Cal0 P w K mg base 4 "sum_of" p_sum_of) (len : ∀ vs H Q E, sp vs H Q E → vs.length = 2)
    (pu : ∀ vs H Q E, sp vs H Q E → t_value_of K A p_sum_of  { nx := fun _ H' => Q .non H', rt := Q } (L2.start ["table", "plan", "rows", "row", "number", "cost"] vs) H) :
    Cal0 P w K mg base 5 "value_of" sp := by
  obtain ⟨f, fd, F, g⟩ := T.f_value_of
  have nd := sc_value_of.nd
  refine ⟨f, fd, ["table", "plan"], ?_, g, F.kp, F.binds fun _ _ _ _ _ _ us hl => match us, hl with | [_, _], _ => rfl⟩
  refine F.ok sc_value_of len fun cdv A' outer s H vs Q E hr h => ⟨t_value_of K A p_sum_of , ?_, pu vs H Q E h⟩
  exact pss_cons (ps_setLc (i := 2) (own := [("row", 3), ("number", 4)]) rfl nd rfl rfl (sw_true rfl rfl rfl (by decide +kernel)) (pi_zip (by rfl) T.b_zip (pa_cons (pv 0) (pa_cons (pv 1) (pa_nil)))) (blkOk_by (by kernel_rfl)) (fun _ _ _ _ _ => pg_tup rfl (pgs_cons (pg_name (i := 3) nd rfl (by first | exact Or.inl rfl | exact Or.inr rfl)) (pgs_cons (pg_name (i := 4) nd rfl (by first | exact Or.inl rfl | exact Or.inr rfl)) (pgs_nil)))) (fun _ _ _ _ _ => pts_nil) (fun _ _ _ _ _ => pe_ix ix_seq (pv 3) (pv 4) (fun _ _ => rfl)))
      (pss_cons (ps_if (pt_cmpR (op_inD (hu65 hr)) (pe_non) (pv 2) (by first | exact nomark _ | rfl)) (pss_one (ps_ret (pe_non))) (pss_nil))
      (pss_one (ps_ret (pe_tup (pa_cons (pe_callB (cr_sum rfl) (by rfl) T.b_sum (by decide +kernel) (pa_cons (pe_lc (own := [("cost", 5), ("number", 4)]) rfl nd (pi_list (pv 2)) (blkOk_by (by kernel_rfl)) (fun _ _ _ _ _ => pg_tup rfl (pgs_cons (pg_name (i := 5) nd rfl (by first | exact Or.inl rfl | exact Or.inr rfl)) (pgs_cons (pg_name (i := 4) nd rfl (by first | exact Or.inl rfl | exact Or.inr rfl)) (pgs_nil)))) (fun _ _ _ _ _ => pts_nil) (fun _ _ _ _ _ => pv 5)) (pa_nil))) (pa_cons (pe_c0 c_sum_of hr (by decide) rfl (by exact (pa_cons (pe_lc (own := [("cost", 5), ("number", 4)]) rfl nd (pi_list (pv 2)) (blkOk_by (by kernel_rfl)) (fun _ _ _ _ _ => pg_tup rfl (pgs_cons (pg_name (i := 5) nd rfl (by first | exact Or.inl rfl | exact Or.inr rfl)) (pgs_cons (pg_name (i := 4) nd rfl (by first | exact Or.inl rfl | exact Or.inr rfl)) (pgs_nil)))) (fun _ _ _ _ _ => pts_nil) (fun _ _ _ _ _ => pv 4)) (pa_nil)))) (pa_nil)))))))
/-! ### all_plans -/
def t_all_plans (K : PySem.W.Frag) (A : Ad) : TS :=
  tSeq (tAsg (tLst (tCons (tLst (tNil)) (tNil))) (gName 1)) (tSeq (tFor (iList K (tVar 0)) (gName 2) (tSeq (tAsg (tLst (tNil)) (gName 3)) (tSeq (tFor (iList K (tVar 1)) (gName 4) (tDrop (tBM K "list" rExtend (tVar 3) (tCons (tLc (iEnum K (tCons (tVar 2) (tNil))) (gTup K 2 (gCons (gName 5) (gCons (gName 6) (gNil)))) (tTest (tOp rNotN1 (tVar 6) (tC .non))) (tOp rAddA (tVar 4) (tLst (tCons (tVar 5) (tNil)))) [5, 6]) (tNil))))) (tAsg (tVar 3) (gName 1))))) (tRet (tVar 1)))
theorem cal_all_plans {sp : Sp} (T : Txt K mg A)  (len : ∀ vs H Q E, sp vs H Q E → vs.length = 1)
    (pu : ∀ vs H Q E, sp vs H Q E → t_all_plans K A   { nx := fun _ H' => Q .non H', rt := Q } (L2.start ["table", "plans", "rows", "longer", "plan", "at", "row"] vs) H) :
    Cal0 P w K mg base 1 "all_plans" sp := by
  obtain ⟨f, fd, F, g⟩ := T.f_all_plans
  have nd := sc_all_plans.nd
  refine ⟨f, fd, ["table"], ?_, g, F.kp, F.binds fun _ _ _ _ _ _ us hl => match us, hl with | [_], _ => rfl⟩
  refine F.ok sc_all_plans len fun cdv A' outer s H vs Q E hr h => ⟨t_all_plans K A  , ?_, pu vs H Q E h⟩
  exact pss_cons (ps_set (i := 1) nd rfl (by first | exact Or.inl rfl | exact Or.inr rfl) (pe_lst (pa_cons (pe_lst (pa_nil)) (pa_nil))))
      (pss_cons (ps_for PassesOwn.never rfl (pi_list (pv 0)) (pg_name (i := 2) nd rfl (by first | exact Or.inl rfl | exact Or.inr rfl)) (pss_cons (ps_set (i := 3) nd rfl (by first | exact Or.inl rfl | exact Or.inr rfl) (pe_lst (pa_nil)))
      (pss_cons (ps_for PassesOwn.never rfl (pi_list (pv 1)) (pg_name (i := 4) nd rfl (by first | exact Or.inl rfl | exact Or.inr rfl)) (pss_one (ps_expr (pe_bm PySem.F.plainAttrs_list PySem.F.slot_list_extend PySem.F.type_list_extend mt_extend (pv 3) (pa_cons (pe_lc (own := [("at", 5), ("row", 6)]) rfl nd (pi_enum (by rfl) T.b_enumerate (pa_cons (pv 2) (pa_nil))) (blkOk_by (by kernel_rfl)) (fun _ _ _ _ _ => pg_tup rfl (pgs_cons (pg_name (i := 5) nd rfl (by first | exact Or.inl rfl | exact Or.inr rfl)) (pgs_cons (pg_name (i := 6) nd rfl (by first | exact Or.inl rfl | exact Or.inr rfl)) (pgs_nil)))) (fun _ _ _ _ _ => pts_one (pt_cmpR op_notN (pv 6) (pe_non) (by first | exact nomark _ | rfl))) (fun _ _ _ _ _ => pe_op op_addA (pv 4) (pe_lst (pa_cons (pv 5) (pa_nil))))) (pa_nil))))))
      (pss_one (ps_set (i := 1) nd rfl (by first | exact Or.inl rfl | exact Or.inr rfl) (pv 3))))))
      (pss_one (ps_ret (pv 1))))
/-! ### is_feasible -/
def t_is_feasible (K : PySem.W.Frag) (A : Ad) (p_is_less : Sp) : TS :=
  tRet (tNotV (tCall p_is_less [] E0 (tCons (tVar 1) (tCons (tOp (rIx K) (tVar 0) (tC (.int 1))) (tNil)))))
theorem cal_is_feasible {p_is_less : Sp} {sp : Sp} (T : Txt K mg A) (c_is_less : Cal0 P w K mg base 1 "is_less" p_is_less) (len : ∀ vs H Q E, sp vs H Q E → vs.length = 2)
    (pu : ∀ vs H Q E, sp vs H Q E → t_is_feasible K A p_is_less  { nx := fun _ H' => Q .non H', rt := Q } (L2.start ["value", "target"] vs) H) :
    Cal0 P w K mg base 2 "is_feasible" sp := by
  obtain ⟨f, fd, F, g⟩ := T.f_is_feasible
  have nd := sc_is_feasible.nd
  refine ⟨f, fd, ["value", "target"], ?_, g, F.kp, F.binds fun _ _ _ _ _ _ us hl => match us, hl with | [_, _], _ => rfl⟩
  refine F.ok sc_is_feasible len fun cdv A' outer s H vs Q E hr h => ⟨t_is_feasible K A p_is_less , ?_, pu vs H Q E h⟩
  exact pss_one (ps_ret (pe_not (pe_c0 c_is_less hr (by decide) rfl (by exact (pa_cons (pv 1) (pa_cons (pe_ix ix_seq (pv 0) (pe_int) (fun _ _ => rfl)) (pa_nil)))))))
/-! ### is_better -/
def t_is_better (K : PySem.W.Frag) (A : Ad) (p_is_less : Sp) : TS :=
  tRet (tOrV (tOp rLtA (tOp (rIx K) (tVar 0) (tC (.int 0))) (tOp (rIx K) (tVar 1) (tC (.int 0)))) (tAndV (tOp (rEqA K) (tOp (rIx K) (tVar 0) (tC (.int 0))) (tOp (rIx K) (tVar 1) (tC (.int 0)))) (tCall p_is_less [] E0 (tCons (tOp (rIx K) (tVar 0) (tC (.int 1))) (tCons (tOp (rIx K) (tVar 1) (tC (.int 1))) (tNil))))))
theorem cal_is_better {p_is_less : Sp} {sp : Sp} (T : Txt K mg A) (c_is_less : Cal0 P w K mg base 1 "is_less" p_is_less) (len : ∀ vs H Q E, sp vs H Q E → vs.length = 2)
    (pu : ∀ vs H Q E, sp vs H Q E → t_is_better K A p_is_less  { nx := fun _ H' => Q .non H', rt := Q } (L2.start ["one", "other"] vs) H) :
    Cal0 P w K mg base 2 "is_better" sp := by
  obtain ⟨f, fd, F, g⟩ := T.f_is_better
  have nd := sc_is_better.nd
  refine ⟨f, fd, ["one", "other"], ?_, g, F.kp, F.binds fun _ _ _ _ _ _ us hl => match us, hl with | [_, _], _ => rfl⟩
  refine F.ok sc_is_better len fun cdv A' outer s H vs Q E hr h => ⟨t_is_better K A p_is_less , ?_, pu vs H Q E h⟩
  exact pss_one (ps_ret (pe_or (pe_cmpR op_lt (pe_ix ix_seq (pv 0) (pe_int) (fun _ _ => rfl)) (pe_ix ix_seq (pv 1) (pe_int) (fun _ _ => rfl)) (by first | exact nomark _ | rfl)) (pe_one (pe_and (pe_cmpR (op_eqA hr.units) (pe_ix ix_seq (pv 0) (pe_int) (fun _ _ => rfl)) (pe_ix ix_seq (pv 1) (pe_int) (fun _ _ => rfl)) (by first | exact nomark _ | rfl)) (pe_one (pe_c0 c_is_less hr (by decide) rfl (by exact (pa_cons (pe_ix ix_seq (pv 0) (pe_int) (fun _ _ => rfl)) (pa_cons (pe_ix ix_seq (pv 1) (pe_int) (fun _ _ => rfl)) (pa_nil))))))))))
/-! ### best_of -/
def t_best_of (K : PySem.W.Frag) (A : Ad) (p_value_of p_is_feasible p_is_better : Sp) : TS :=
  tSeq (tAsg (tC .non) (gName 3)) (tSeq (tFor (iList K (tVar 1)) (gName 4) (tSeq (tAsg (tCall p_value_of [] E0 (tCons (tVar 0) (tCons (tVar 4) (tNil)))) (gName 5)) (tIfS (tAnd (tB (tCall p_is_feasible [] E0 (tCons (tVar 5) (tCons (tVar 2) (tNil))))) (tOr (tTest (tOp rIsN1 (tVar 3) (tC .non))) (tB (tCall p_is_better [] E0 (tCons (tVar 5) (tCons (tOp (rIx K) (tVar 3) (tC (.int 0))) (tNil))))))) (tAsg (tTup (tCons (tVar 5) (tCons (tVar 4) (tNil)))) (gName 3)) (tNext)))) (tRet (tVar 3)))
theorem cal_best_of {p_value_of p_is_feasible p_is_better : Sp} {sp : Sp} (T : Txt K mg A) (c_value_of : Cal0 P w K mg base 5 "value_of" p_value_of) (c_is_feasible : Cal0 P w K mg base 2 "is_feasible" p_is_feasible) (c_is_better : Cal0 P w K mg base 2 "is_better" p_is_better) (len : ∀ vs H Q E, sp vs H Q E → vs.length = 3)
    (pu : ∀ vs H Q E, sp vs H Q E → t_best_of K A p_value_of p_is_feasible p_is_better  { nx := fun _ H' => Q .non H', rt := Q } (L2.start ["table", "plans", "target", "best", "plan", "value"] vs) H) :
    Cal0 P w K mg base 6 "best_of" sp := by
  obtain ⟨f, fd, F, g⟩ := T.f_best_of
  have nd := sc_best_of.nd
  refine ⟨f, fd, ["table", "plans", "target"], ?_, g, F.kp, F.binds fun _ _ _ _ _ _ us hl => match us, hl with | [_, _, _], _ => rfl⟩
  refine F.ok sc_best_of len fun cdv A' outer s H vs Q E hr h => ⟨t_best_of K A p_value_of p_is_feasible p_is_better , ?_, pu vs H Q E h⟩
  exact pss_cons (ps_set (i := 3) nd rfl (by first | exact Or.inl rfl | exact Or.inr rfl) (pe_non))
      (pss_cons (ps_for PassesOwn.never rfl (pi_list (pv 1)) (pg_name (i := 4) nd rfl (by first | exact Or.inl rfl | exact Or.inr rfl)) (pss_cons (ps_set (i := 5) nd rfl (by first | exact Or.inl rfl | exact Or.inr rfl) (pe_c0 c_value_of hr (by decide) rfl (by exact (pa_cons (pv 0) (pa_cons (pv 4) (pa_nil))))))
      (pss_one (ps_if (PW.pt (pw_and (pt_val (pe_c0 c_is_feasible hr (by decide) rfl (by exact (pa_cons (pv 5) (pa_cons (pv 2) (pa_nil)))))) (pw_and1 (PW.pt (pw_or (pt_cmpR op_isN (pv 3) (pe_non) (by first | exact nomark _ | rfl)) (pw_or1 (pt_val (pe_c0 c_is_better hr (by decide) rfl (by exact (pa_cons (pv 5) (pa_cons (pe_ix ix_seq (pv 3) (pe_int) (fun _ _ => rfl)) (pa_nil)))))))))))) (pss_one (ps_set (i := 3) nd rfl (by first | exact Or.inl rfl | exact Or.inr rfl) (pe_tup (pa_cons (pv 5) (pa_cons (pv 4) (pa_nil)))))) (pss_nil)))))
      (pss_one (ps_ret (pv 3))))
/-! ### best_plan -/
def t_best_plan (K : PySem.W.Frag) (A : Ad) (p_best_of p_all_plans : Sp) : TS :=
  tRet (tCall p_best_of [] E0 (tCons (tVar 0) (tCons (tCall p_all_plans [] E0 (tCons (tVar 0) (tNil))) (tCons (tVar 1) (tNil)))))
theorem cal_best_plan {p_best_of p_all_plans : Sp} {sp : Sp} (T : Txt K mg A) (c_best_of : Cal0 P w K mg base 6 "best_of" p_best_of) (c_all_plans : Cal0 P w K mg base 1 "all_plans" p_all_plans) (len : ∀ vs H Q E, sp vs H Q E → vs.length = 2)
    (pu : ∀ vs H Q E, sp vs H Q E → t_best_plan K A p_best_of p_all_plans  { nx := fun _ H' => Q .non H', rt := Q } (L2.start ["table", "target"] vs) H) :
    Cal0 P w K mg base 7 "best_plan" sp := by
  obtain ⟨f, fd, F, g⟩ := T.f_best_plan
  have nd := sc_best_plan.nd
  refine ⟨f, fd, ["table", "target"], ?_, g, F.kp, F.binds fun _ _ _ _ _ _ us hl => match us, hl with | [_, _], _ => rfl⟩
  refine F.ok sc_best_plan len fun cdv A' outer s H vs Q E hr h => ⟨t_best_plan K A p_best_of p_all_plans , ?_, pu vs H Q E h⟩
  exact pss_one (ps_ret (pe_c0 c_best_of hr (by decide) rfl (by exact (pa_cons (pv 0) (pa_cons (pe_c0 c_all_plans hr (by decide) rfl (by exact (pa_cons (pv 0) (pa_nil)))) (pa_cons (pv 1) (pa_nil)))))))
/-! ### by_cost -/
def t_by_cost (K : PySem.W.Frag) (A : Ad) (p_value_of p_all_plans : Sp) : TS :=
  tSeq (tAsg (tLc (iList K (tCall p_all_plans [] E0 (tCons (tVar 0) (tNil)))) (gName 3) (tYes) (tTup (tCons (tCall p_value_of [] E0 (tCons (tVar 0) (tCons (tVar 3) (tNil)))) (tCons (tVar 3) (tNil)))) [3]) (gName 1)) (tSeq (tAsg (tCB (rSortedPO K) (tCons (tLc (iEnum K (tCons (tVar 1) (tNil))) (gTup K 2 (gCons (gName 5) (gCons (gName 6) (gNil)))) (tYes) (tTup (tCons (tOp (rIx K) (tOp (rIx K) (tVar 6) (tC (.int 0))) (tC (.int 0))) (tCons (tVar 5) (tNil)))) [5, 6]) (tNil))) (gName 2)) (tRet (tLc (iList K (tVar 2)) (gTup K 2 (gCons (gName 4) (gCons (gName 5) (gNil)))) (tYes) (tOp (rIx K) (tVar 1) (tVar 5)) [4, 5])))
theorem cal_by_cost {p_value_of p_all_plans : Sp} {sp : Sp} (T : Txt K mg A) (c_value_of : Cal0 P w K mg base 5 "value_of" p_value_of) (c_all_plans : Cal0 P w K mg base 1 "all_plans" p_all_plans) (len : ∀ vs H Q E, sp vs H Q E → vs.length = 1)
    (pu : ∀ vs H Q E, sp vs H Q E → t_by_cost K A p_value_of p_all_plans  { nx := fun _ H' => Q .non H', rt := Q } (L2.start ["table", "rows", "order", "plan", "cost", "at", "row"] vs) H) :
    Cal0 P w K mg base 6 "by_cost" sp := by
  obtain ⟨f, fd, F, g⟩ := T.f_by_cost
  have nd := sc_by_cost.nd
  refine ⟨f, fd, ["table"], ?_, g, F.kp, F.binds fun _ _ _ _ _ _ us hl => match us, hl with | [_], _ => rfl⟩
  refine F.ok sc_by_cost len fun cdv A' outer s H vs Q E hr h => ⟨t_by_cost K A p_value_of p_all_plans , ?_, pu vs H Q E h⟩
  exact pss_cons (ps_set (i := 1) nd rfl (by first | exact Or.inl rfl | exact Or.inr rfl) (pe_lc (own := [("plan", 3)]) rfl nd (pi_list (pe_c0 c_all_plans hr (by decide) rfl (by exact (pa_cons (pv 0) (pa_nil))))) (blkOk_by (by kernel_rfl)) (fun _ _ _ _ _ => pg_name (i := 3) nd rfl (by first | exact Or.inl rfl | exact Or.inr rfl)) (fun _ _ _ _ _ => pts_nil) (fun _ _ _ _ _ => pe_tup (pa_cons (pe_c0 c_value_of hr (by decide) rfl (by exact (pa_cons (pv 0) (pa_cons (pv 3) (pa_nil))))) (pa_cons (pv 3) (pa_nil))))))
      (pss_cons (ps_set (i := 2) nd rfl (by first | exact Or.inl rfl | exact Or.inr rfl) (pe_callB cr_sortedPO (by rfl) T.b_sorted (by decide +kernel) (pa_cons (pe_lc (own := [("at", 5), ("row", 6)]) rfl nd (pi_enum (by rfl) T.b_enumerate (pa_cons (pv 1) (pa_nil))) (blkOk_by (by kernel_rfl)) (fun _ _ _ _ _ => pg_tup rfl (pgs_cons (pg_name (i := 5) nd rfl (by first | exact Or.inl rfl | exact Or.inr rfl)) (pgs_cons (pg_name (i := 6) nd rfl (by first | exact Or.inl rfl | exact Or.inr rfl)) (pgs_nil)))) (fun _ _ _ _ _ => pts_nil) (fun _ _ _ _ _ => pe_tup (pa_cons (pe_ix ix_seq (pe_ix ix_seq (pv 6) (pe_int) (fun _ _ => rfl)) (pe_int) (fun _ _ => rfl)) (pa_cons (pv 5) (pa_nil))))) (pa_nil))))
      (pss_one (ps_ret (pe_lc (own := [("cost", 4), ("at", 5)]) rfl nd (pi_list (pv 2)) (blkOk_by (by kernel_rfl)) (fun _ _ _ _ _ => pg_tup rfl (pgs_cons (pg_name (i := 4) nd rfl (by first | exact Or.inl rfl | exact Or.inr rfl)) (pgs_cons (pg_name (i := 5) nd rfl (by first | exact Or.inl rfl | exact Or.inr rfl)) (pgs_nil)))) (fun _ _ _ _ _ => pts_nil) (fun _ _ _ _ _ => pe_ix ix_seq (pv 1) (pv 5) (fun _ _ => rfl))))))
/-! ### frontier -/
def t_frontier (K : PySem.W.Frag) (A : Ad) (p_by_cost p_is_less : Sp) : TS :=
  tSeq (tAsg (tLst (tNil)) (gName 1)) (tSeq (tFor (iList K (tCall p_by_cost [] E0 (tCons (tVar 0) (tNil)))) (gTup K 2 (gCons (gName 2) (gCons (gName 3) (gNil)))) (tIfS (tOr (tTest (tOp (rEqA K) (tVar 1) (tLst (tNil)))) (tB (tCall p_is_less [] E0 (tCons (tOp (rIx K) (tVar 2) (tC (.int 1))) (tCons (tOp (rIx K) (tOp (rIx K) (tOp (rIx K) (tVar 1) (tUn rNegA (tC (.int 1)))) (tC (.int 0))) (tC (.int 1))) (tNil)))))) (tSeq (tIfS (tAnd (tTest (tOp (rNeA K) (tVar 1) (tLst (tNil)))) (tTest (tOp (rEqA K) (tOp (rIx K) (tOp (rIx K) (tOp (rIx K) (tVar 1) (tUn rNegA (tC (.int 1)))) (tC (.int 0))) (tC (.int 0))) (tOp (rIx K) (tVar 2) (tC (.int 0)))))) (tDrop (tBM0 K "list" rPop (tVar 1))) (tNext)) (tDrop (tBM K "list" rAppend (tVar 1) (tCons (tTup (tCons (tVar 2) (tCons (tVar 3) (tNil)))) (tNil))))) (tNext))) (tRet (tVar 1)))
theorem cal_frontier {p_by_cost p_is_less : Sp} {sp : Sp} (T : Txt K mg A) (c_by_cost : Cal0 P w K mg base 6 "by_cost" p_by_cost) (c_is_less : Cal0 P w K mg base 1 "is_less" p_is_less) (len : ∀ vs H Q E, sp vs H Q E → vs.length = 1)
    (pu : ∀ vs H Q E, sp vs H Q E → t_frontier K A p_by_cost p_is_less  { nx := fun _ H' => Q .non H', rt := Q } (L2.start ["table", "found", "value", "plan"] vs) H) :
    Cal0 P w K mg base 7 "frontier" sp := by
  obtain ⟨f, fd, F, g⟩ := T.f_frontier
  have nd := sc_frontier.nd
  refine ⟨f, fd, ["table"], ?_, g, F.kp, F.binds fun _ _ _ _ _ _ us hl => match us, hl with | [_], _ => rfl⟩
  refine F.ok sc_frontier len fun cdv A' outer s H vs Q E hr h => ⟨t_frontier K A p_by_cost p_is_less , ?_, pu vs H Q E h⟩
  exact pss_cons (ps_set (i := 1) nd rfl (by first | exact Or.inl rfl | exact Or.inr rfl) (pe_lst (pa_nil)))
      (pss_cons (ps_for PassesOwn.never rfl (pi_list (pe_c0 c_by_cost hr (by decide) rfl (by exact (pa_cons (pv 0) (pa_nil))))) (pg_tup rfl (pgs_cons (pg_name (i := 2) nd rfl (by first | exact Or.inl rfl | exact Or.inr rfl)) (pgs_cons (pg_name (i := 3) nd rfl (by first | exact Or.inl rfl | exact Or.inr rfl)) (pgs_nil)))) (pss_one (ps_if (PW.pt (pw_or (pt_cmpR (op_eqA hr.units) (pv 1) (pe_lst (pa_nil)) (by first | exact nomark _ | rfl)) (pw_or1 (pt_val (pe_c0 c_is_less hr (by decide) rfl (by exact (pa_cons (pe_ix ix_seq (pv 2) (pe_int) (fun _ _ => rfl)) (pa_cons (pe_ix ix_seq (pe_ix ix_seq (pe_ix ix_seq (pv 1) (pe_un un_neg (pe_int)) (fun _ _ => rfl)) (pe_int) (fun _ _ => rfl)) (pe_int) (fun _ _ => rfl)) (pa_nil))))))))) (pss_cons (ps_if (PW.pt (pw_and (pt_cmpR (op_neA hr.units) (pv 1) (pe_lst (pa_nil)) (by first | exact nomark _ | rfl)) (pw_and1 (pt_cmpR (op_eqA hr.units) (pe_ix ix_seq (pe_ix ix_seq (pe_ix ix_seq (pv 1) (pe_un un_neg (pe_int)) (fun _ _ => rfl)) (pe_int) (fun _ _ => rfl)) (pe_int) (fun _ _ => rfl)) (pe_ix ix_seq (pv 2) (pe_int) (fun _ _ => rfl)) (by first | exact nomark _ | rfl))))) (pss_one (ps_expr (pe_bm0 PySem.F.plainAttrs_list PySem.F.slot_list_pop PySem.F.type_list_pop mt_pop (pv 1)))) (pss_nil))
      (pss_one (ps_expr (pe_bm PySem.F.plainAttrs_list PySem.F.slot_list_append PySem.F.type_list_append mt_append (pv 1) (pa_cons (pe_tup (pa_cons (pv 2) (pa_cons (pv 3) (pa_nil)))) (pa_nil)))))) (pss_nil))))
      (pss_one (ps_ret (pv 1))))
/-! ### counted -/
def t_counted (K : PySem.W.Frag) (A : Ad) (p_value_of p_all_plans p_is_feasible : Sp) : TS :=
  tSeq (tAsg (tLc (iList K (tCall p_all_plans [] E0 (tCons (tVar 0) (tNil)))) (gName 3) (tYes) (tCall p_value_of [] E0 (tCons (tVar 0) (tCons (tVar 3) (tNil)))) [3]) (gName 2)) (tRet (tLst (tCons (tCB (rLen1 K) (tCons (tVar 2) (tNil))) (tCons (tCB (rLen1 K) (tCons (tLc (iList K (tVar 2)) (gName 4) (tB (tCall p_is_feasible [] E0 (tCons (tVar 4) (tCons (tVar 1) (tNil))))) (tVar 4) [4]) (tNil))) (tNil)))))
theorem cal_counted {p_value_of p_all_plans p_is_feasible : Sp} {sp : Sp} (T : Txt K mg A) (c_value_of : Cal0 P w K mg base 5 "value_of" p_value_of) (c_all_plans : Cal0 P w K mg base 1 "all_plans" p_all_plans) (c_is_feasible : Cal0 P w K mg base 2 "is_feasible" p_is_feasible) (len : ∀ vs H Q E, sp vs H Q E → vs.length = 2)
    (pu : ∀ vs H Q E, sp vs H Q E → t_counted K A p_value_of p_all_plans p_is_feasible  { nx := fun _ H' => Q .non H', rt := Q } (L2.start ["table", "target", "values", "plan", "value"] vs) H) :
    Cal0 P w K mg base 6 "counted" sp := by
  obtain ⟨f, fd, F, g⟩ := T.f_counted
  have nd := sc_counted.nd
  refine ⟨f, fd, ["table", "target"], ?_, g, F.kp, F.binds fun _ _ _ _ _ _ us hl => match us, hl with | [_, _], _ => rfl⟩
  refine F.ok sc_counted len fun cdv A' outer s H vs Q E hr h => ⟨t_counted K A p_value_of p_all_plans p_is_feasible , ?_, pu vs H Q E h⟩
  exact pss_cons (ps_setLc (i := 2) (own := [("plan", 3)]) rfl nd rfl rfl (sw_true rfl rfl rfl (by decide +kernel)) (pi_list (pe_c0 c_all_plans hr (by decide) rfl (by exact (pa_cons (pv 0) (pa_nil))))) (blkOk_by (by kernel_rfl)) (fun _ _ _ _ _ => pg_name (i := 3) nd rfl (by first | exact Or.inl rfl | exact Or.inr rfl)) (fun _ _ _ _ _ => pts_nil) (fun _ _ _ _ _ => pe_c0 c_value_of hr (by decide) rfl (by exact (pa_cons (pv 0) (pa_cons (pv 3) (pa_nil))))))
      (pss_one (ps_ret (pe_lst (pa_cons (pe_callB call_len_seq (by rfl) T.b_len PySem.boot_len (pa_cons (pv 2) (pa_nil))) (pa_cons (pe_callB call_len_seq (by rfl) T.b_len PySem.boot_len (pa_cons (pe_lc (own := [("value", 4)]) rfl nd (pi_list (pv 2)) (blkOk_by (by kernel_rfl)) (fun _ _ _ _ _ => pg_name (i := 4) nd rfl (by first | exact Or.inl rfl | exact Or.inr rfl)) (fun _ _ _ _ _ => pts_one (pt_val (pe_c0 c_is_feasible hr (by decide) rfl (by exact (pa_cons (pv 4) (pa_cons (pv 1) (pa_nil))))))) (fun _ _ _ _ _ => pv 4)) (pa_nil))) (pa_nil))))))
/-! ### changed_plans -/
def t_changed_plans (K : PySem.W.Frag) (A : Ad) : TS :=
  tSeq (tAsg (tLst (tNil)) (gName 2)) (tSeq (tFor (iEnum K (tCons (tVar 0) (tNil))) (gTup K 2 (gCons (gName 3) (gCons (gName 4) (gNil)))) (tFor (iEnum K (tCons (tVar 4) (tNil))) (gTup K 2 (gCons (gName 5) (gCons (gName 6) (gNil)))) (tIfS (tAnd (tTest (tOp rNotN1 (tVar 6) (tC .non))) (tTest (tOp (rNeA K) (tVar 5) (tOp (rIx K) (tVar 1) (tVar 3))))) (tDrop (tBM K "list" rAppend (tVar 2) (tCons (tOp rAddA (tOp rAddA (tSl (rSlL K) (tVar 1) (tNoPart) (tPart (tVar 3))) (tLst (tCons (tVar 5) (tNil)))) (tSl (rSlL K) (tVar 1) (tPart (tOp rAddA (tVar 3) (tC (.int 1)))) (tNoPart))) (tNil)))) (tNext)))) (tRet (tVar 2)))
theorem cal_changed_plans {sp : Sp} (T : Txt K mg A)  (len : ∀ vs H Q E, sp vs H Q E → vs.length = 2)
    (pu : ∀ vs H Q E, sp vs H Q E → t_changed_plans K A   { nx := fun _ H' => Q .non H', rt := Q } (L2.start ["table", "plan", "found", "at", "rows", "number", "row"] vs) H) :
    Cal0 P w K mg base 1 "changed_plans" sp := by
  obtain ⟨f, fd, F, g⟩ := T.f_changed_plans
  have nd := sc_changed_plans.nd
  refine ⟨f, fd, ["table", "plan"], ?_, g, F.kp, F.binds fun _ _ _ _ _ _ us hl => match us, hl with | [_, _], _ => rfl⟩
  refine F.ok sc_changed_plans len fun cdv A' outer s H vs Q E hr h => ⟨t_changed_plans K A  , ?_, pu vs H Q E h⟩
  exact pss_cons (ps_set (i := 2) nd rfl (by first | exact Or.inl rfl | exact Or.inr rfl) (pe_lst (pa_nil)))
      (pss_cons (ps_for PassesOwn.never rfl (pi_enum (by rfl) T.b_enumerate (pa_cons (pv 0) (pa_nil))) (pg_tup rfl (pgs_cons (pg_name (i := 3) nd rfl (by first | exact Or.inl rfl | exact Or.inr rfl)) (pgs_cons (pg_name (i := 4) nd rfl (by first | exact Or.inl rfl | exact Or.inr rfl)) (pgs_nil)))) (pss_one (ps_for PassesOwn.never rfl (pi_enum (by rfl) T.b_enumerate (pa_cons (pv 4) (pa_nil))) (pg_tup rfl (pgs_cons (pg_name (i := 5) nd rfl (by first | exact Or.inl rfl | exact Or.inr rfl)) (pgs_cons (pg_name (i := 6) nd rfl (by first | exact Or.inl rfl | exact Or.inr rfl)) (pgs_nil)))) (pss_one (ps_if (PW.pt (pw_and (pt_cmpR op_notN (pv 6) (pe_non) (by first | exact nomark _ | rfl)) (pw_and1 (pt_cmpR (op_neA hr.units) (pv 5) (pe_ix ix_seq (pv 1) (pv 3) (fun _ _ => rfl)) (by first | exact nomark _ | rfl))))) (pss_one (ps_expr (pe_bm PySem.F.plainAttrs_list PySem.F.slot_list_append PySem.F.type_list_append mt_append (pv 2) (pa_cons (pe_op op_addA (pe_op op_addA (pe_slice sl_list (pv 1) (po_none) (po_some (pv 3))) (pe_lst (pa_cons (pv 5) (pa_nil)))) (pe_slice sl_list (pv 1) (po_some (pe_op op_addA (pv 3) (pe_int))) (po_none))) (pa_nil))))) (pss_nil))))))
      (pss_one (ps_ret (pv 2))))
/-! ### improved -/
def t_improved (K : PySem.W.Frag) (A : Ad) (p_value_of p_best_of p_changed_plans p_is_feasible p_is_better : Sp) : TS :=
  tSeq (tPar 3 4 (tCons (tCall p_value_of [] E0 (tCons (tVar 0) (tCons (tVar 1) (tNil)))) (tCons (tCall p_best_of [] E0 (tCons (tVar 0) (tCons (tCall p_changed_plans [] E0 (tCons (tVar 0) (tCons (tVar 1) (tNil)))) (tCons (tVar 2) (tNil))))) (tNil)))) (tSeq (tIfS (tOr (tTest (tOp rIsN1 (tVar 4) (tC .non))) (tAnd (tB (tCall p_is_feasible [] E0 (tCons (tVar 3) (tCons (tVar 2) (tNil))))) (tNot (tB (tCall p_is_better [] E0 (tCons (tOp (rIx K) (tVar 4) (tC (.int 0))) (tCons (tVar 3) (tNil)))))))) (tRet (tC .non)) (tNext)) (tRet (tVar 4)))
theorem cal_improved {p_value_of p_best_of p_changed_plans p_is_feasible p_is_better : Sp} {sp : Sp} (T : Txt K mg A) (c_value_of : Cal0 P w K mg base 5 "value_of" p_value_of) (c_best_of : Cal0 P w K mg base 6 "best_of" p_best_of) (c_changed_plans : Cal0 P w K mg base 1 "changed_plans" p_changed_plans) (c_is_feasible : Cal0 P w K mg base 2 "is_feasible" p_is_feasible) (c_is_better : Cal0 P w K mg base 2 "is_better" p_is_better) (len : ∀ vs H Q E, sp vs H Q E → vs.length = 3)
    (pu : ∀ vs H Q E, sp vs H Q E → t_improved K A p_value_of p_best_of p_changed_plans p_is_feasible p_is_better  { nx := fun _ H' => Q .non H', rt := Q } (L2.start ["table", "plan", "target", "value", "found"] vs) H) :
    Cal0 P w K mg base 7 "improved" sp := by
  obtain ⟨f, fd, F, g⟩ := T.f_improved
  have nd := sc_improved.nd
  refine ⟨f, fd, ["table", "plan", "target"], ?_, g, F.kp, F.binds fun _ _ _ _ _ _ us hl => match us, hl with | [_, _, _], _ => rfl⟩
  refine F.ok sc_improved len fun cdv A' outer s H vs Q E hr h => ⟨t_improved K A p_value_of p_best_of p_changed_plans p_is_feasible p_is_better , ?_, pu vs H Q E h⟩
  exact pss_cons (ps_par (i := 3) (j := 4) rfl nd rfl rfl (by decide) rfl rfl (pa_cons (pe_c0 c_value_of hr (by decide) rfl (by exact (pa_cons (pv 0) (pa_cons (pv 1) (pa_nil))))) (pa_cons (pe_c0 c_best_of hr (by decide) rfl (by exact (pa_cons (pv 0) (pa_cons (pe_c0 c_changed_plans hr (by decide) rfl (by exact (pa_cons (pv 0) (pa_cons (pv 1) (pa_nil))))) (pa_cons (pv 2) (pa_nil)))))) (pa_nil))) (by rfl))
      (pss_cons (ps_if (PW.pt (pw_or (pt_cmpR op_isN (pv 4) (pe_non) (by first | exact nomark _ | rfl)) (pw_or1 (PW.pt (pw_and (pt_val (pe_c0 c_is_feasible hr (by decide) rfl (by exact (pa_cons (pv 3) (pa_cons (pv 2) (pa_nil)))))) (pw_and1 (pt_not (pt_val (pe_c0 c_is_better hr (by decide) rfl (by exact (pa_cons (pe_ix ix_seq (pv 4) (pe_int) (fun _ _ => rfl)) (pa_cons (pv 3) (pa_nil))))))))))))) (pss_one (ps_ret (pe_non))) (pss_nil))
      (pss_one (ps_ret (pv 4))))
/-! ### holds_at -/
def t_holds_at (K : PySem.W.Frag) (A : Ad) (p_is_less p_is_option_allowed p_weighted_number p_sum_of : Sp) : TS :=
  tSeq (tAsg (tLst (tNil)) (gName 3)) (tSeq (tFor (iZip K (tCons (tFld K (tVar 0) "stations") (tCons (tVar 1) (tNil)))) (gTup K 2 (gCons (gName 4) (gCons (gName 5) (gNil)))) (tSeq (tAsg (tOp (rIx K) (tFld K (tVar 4) "options") (tVar 5)) (gName 6)) (tSeq (tIfS (tNot (tB (tCall p_is_option_allowed [] E0 (tCons (tVar 0) (tCons (tVar 4) (tCons (tVar 6) (tCons (tVar 2) (tNil)))))))) (tRet (tC (.bl false))) (tNext)) (tDrop (tBM K "list" rAppend (tVar 3) (tCons (tCall p_weighted_number [] E0 (tCons (tVar 4) (tCons (tVar 6) (tCons (tVar 2) (tNil))))) (tNil))))))) (tRet (tNotV (tCall p_is_less [] E0 (tCons (tFld K (tVar 0) "target") (tCons (tCall p_sum_of [] E0 (tCons (tVar 3) (tNil))) (tNil)))))))
theorem cal_holds_at {p_is_less p_is_option_allowed p_weighted_number p_sum_of : Sp} {sp : Sp} (T : Txt K mg A) (c_is_less : Cal0 P w K mg base 1 "is_less" p_is_less) (c_is_option_allowed : Cal0 P w K mg base 4 "is_option_allowed" p_is_option_allowed) (c_weighted_number : Cal0 P w K mg base 6 "weighted_number" p_weighted_number) (c_sum_of : Cal0 P w K mg base 4 "sum_of" p_sum_of) (len : ∀ vs H Q E, sp vs H Q E → vs.length = 3)
    (pu : ∀ vs H Q E, sp vs H Q E → t_holds_at K A p_is_less p_is_option_allowed p_weighted_number p_sum_of  { nx := fun _ H' => Q .non H', rt := Q } (L2.start ["model", "plan", "percent", "numbers", "station", "number", "option"] vs) H) :
    Cal0 P w K mg base 7 "holds_at" sp := by
  obtain ⟨f, fd, F, g⟩ := T.f_holds_at
  have nd := sc_holds_at.nd
  refine ⟨f, fd, ["model", "plan", "percent"], ?_, g, F.kp, F.binds fun _ _ _ _ _ _ us hl => match us, hl with | [_, _, _], _ => rfl⟩
  refine F.ok sc_holds_at len fun cdv A' outer s H vs Q E hr h => ⟨t_holds_at K A p_is_less p_is_option_allowed p_weighted_number p_sum_of , ?_, pu vs H Q E h⟩
  exact pss_cons (ps_set (i := 3) nd rfl (by first | exact Or.inl rfl | exact Or.inr rfl) (pe_lst (pa_nil)))
      (pss_cons (ps_for PassesOwn.never rfl (pi_zip (by rfl) T.b_zip (pa_cons (pe_fld (pv 0) rfl) (pa_cons (pv 1) (pa_nil)))) (pg_tup rfl (pgs_cons (pg_name (i := 4) nd rfl (by first | exact Or.inl rfl | exact Or.inr rfl)) (pgs_cons (pg_name (i := 5) nd rfl (by first | exact Or.inl rfl | exact Or.inr rfl)) (pgs_nil)))) (pss_cons (ps_set (i := 6) nd rfl (by first | exact Or.inl rfl | exact Or.inr rfl) (pe_ix ix_seq (pe_fld (pv 4) rfl) (pv 5) (fun _ _ => rfl)))
      (pss_cons (ps_if (pt_not (pt_val (pe_c0 c_is_option_allowed hr (by decide) rfl (by exact (pa_cons (pv 0) (pa_cons (pv 4) (pa_cons (pv 6) (pa_cons (pv 2) (pa_nil))))))))) (pss_one (ps_ret (pe_bl))) (pss_nil))
      (pss_one (ps_expr (pe_bm PySem.F.plainAttrs_list PySem.F.slot_list_append PySem.F.type_list_append mt_append (pv 3) (pa_cons (pe_c0 c_weighted_number hr (by decide) rfl (by exact (pa_cons (pv 4) (pa_cons (pv 6) (pa_cons (pv 2) (pa_nil)))))) (pa_nil))))))))
      (pss_one (ps_ret (pe_not (pe_c0 c_is_less hr (by decide) rfl (by exact (pa_cons (pe_fld (pv 0) rfl) (pa_cons (pe_c0 c_sum_of hr (by decide) rfl (by exact (pa_cons (pv 3) (pa_nil)))) (pa_nil)))))))))
/-! ### reserve_of -/
def t_reserve_of (K : PySem.W.Frag) (A : Ad) (p_holds_at : Sp) : TS :=
  tSeq (tIfS (tNot (tB (tCall p_holds_at [] E0 (tCons (tVar 0) (tCons (tVar 1) (tCons (tC (.int 1)) (tNil))))))) (tRet (tC .non)) (tNext)) (tSeq (tPar 2 3 (tCons (tC (.int 1)) (tCons (tC (.int (300))) (tNil)))) (tSeq (tWhile (tTest (tOp rLtA (tVar 2) (tVar 3))) (tSeq (tAsg (tOp rDivA (tOp rAddA (tOp rAddA (tVar 2) (tVar 3)) (tC (.int 1))) (tC (.int 2))) (gName 4)) (tIfS (tB (tCall p_holds_at [] E0 (tCons (tVar 0) (tCons (tVar 1) (tCons (tVar 4) (tNil)))))) (tAsg (tVar 4) (gName 2)) (tAsg (tOp rSubA (tVar 4) (tC (.int 1))) (gName 3))))) (tRet (tVar 2))))
theorem cal_reserve_of {p_holds_at : Sp} {sp : Sp} (T : Txt K mg A) (c_holds_at : Cal0 P w K mg base 7 "holds_at" p_holds_at) (len : ∀ vs H Q E, sp vs H Q E → vs.length = 2)
    (pu : ∀ vs H Q E, sp vs H Q E → t_reserve_of K A p_holds_at  { nx := fun _ H' => Q .non H', rt := Q } (L2.start ["model", "plan", "low", "high", "middle"] vs) H) :
    Cal0 P w K mg base 8 "reserve_of" sp := by
  obtain ⟨f, fd, F, g⟩ := T.f_reserve_of
  have nd := sc_reserve_of.nd
  refine ⟨f, fd, ["model", "plan"], ?_, g, F.kp, F.binds fun _ _ _ _ _ _ us hl => match us, hl with | [_, _], _ => rfl⟩
  refine F.ok sc_reserve_of len fun cdv A' outer s H vs Q E hr h => ⟨t_reserve_of K A p_holds_at , ?_, pu vs H Q E h⟩
  exact pss_cons (ps_if (pt_not (pt_val (pe_c0 c_holds_at hr (by decide) rfl (by exact (pa_cons (pv 0) (pa_cons (pv 1) (pa_cons (pe_int) (pa_nil)))))))) (pss_one (ps_ret (pe_non))) (pss_nil))
      (pss_cons (ps_par (i := 2) (j := 3) rfl nd rfl rfl (by decide) rfl rfl (pa_cons (pe_int) (pa_cons (pe_gc2 rfl T.g_MOST_PERCENT) (pa_nil))) (by rfl))
      (pss_cons (ps_while PassesOwn.never (pt_cmpR op_lt (pv 2) (pv 3) (by first | exact nomark _ | rfl)) (pss_cons (ps_set (i := 4) nd rfl (by first | exact Or.inl rfl | exact Or.inr rfl) (pe_op op_fdivW (pe_op op_addA (pe_op op_addA (pv 2) (pv 3)) (pe_int)) (pe_int)))
      (pss_one (ps_if (pt_val (pe_c0 c_holds_at hr (by decide) rfl (by exact (pa_cons (pv 0) (pa_cons (pv 1) (pa_cons (pv 4) (pa_nil))))))) (pss_one (ps_set (i := 2) nd rfl (by first | exact Or.inl rfl | exact Or.inr rfl) (pv 4))) (pss_one (ps_set (i := 3) nd rfl (by first | exact Or.inl rfl | exact Or.inr rfl) (pe_op op_sub (pv 4) (pe_int))))))))
      (pss_one (ps_ret (pv 2)))))
/-! ### is_allowed_now -/
def t_is_allowed_now (K : PySem.W.Frag) (A : Ad) (p_is_option_allowed : Sp) : TS :=
  tSeq (tFor (iZip K (tCons (tFld K (tVar 0) "stations") (tCons (tVar 1) (tNil)))) (gTup K 2 (gCons (gName 2) (gCons (gName 3) (gNil)))) (tIfS (tNot (tB (tCall p_is_option_allowed [] E0 (tCons (tVar 0) (tCons (tVar 2) (tCons (tOp (rIx K) (tFld K (tVar 2) "options") (tVar 3)) (tCons (tC (.int (100))) (tNil)))))))) (tRet (tC (.bl false))) (tNext))) (tRet (tC (.bl true)))
theorem cal_is_allowed_now {p_is_option_allowed : Sp} {sp : Sp} (T : Txt K mg A) (c_is_option_allowed : Cal0 P w K mg base 4 "is_option_allowed" p_is_option_allowed) (len : ∀ vs H Q E, sp vs H Q E → vs.length = 2)
    (pu : ∀ vs H Q E, sp vs H Q E → t_is_allowed_now K A p_is_option_allowed  { nx := fun _ H' => Q .non H', rt := Q } (L2.start ["model", "plan", "station", "number"] vs) H) :
    Cal0 P w K mg base 5 "is_allowed_now" sp := by
  obtain ⟨f, fd, F, g⟩ := T.f_is_allowed_now
  have nd := sc_is_allowed_now.nd
  refine ⟨f, fd, ["model", "plan"], ?_, g, F.kp, F.binds fun _ _ _ _ _ _ us hl => match us, hl with | [_, _], _ => rfl⟩
  refine F.ok sc_is_allowed_now len fun cdv A' outer s H vs Q E hr h => ⟨t_is_allowed_now K A p_is_option_allowed , ?_, pu vs H Q E h⟩
  exact pss_cons (ps_for PassesOwn.never rfl (pi_zip (by rfl) T.b_zip (pa_cons (pe_fld (pv 0) rfl) (pa_cons (pv 1) (pa_nil)))) (pg_tup rfl (pgs_cons (pg_name (i := 2) nd rfl (by first | exact Or.inl rfl | exact Or.inr rfl)) (pgs_cons (pg_name (i := 3) nd rfl (by first | exact Or.inl rfl | exact Or.inr rfl)) (pgs_nil)))) (pss_one (ps_if (pt_not (pt_val (pe_c0 c_is_option_allowed hr (by decide) rfl (by exact (pa_cons (pv 0) (pa_cons (pv 2) (pa_cons (pe_ix ix_seq (pe_fld (pv 2) rfl) (pv 3) (fun _ _ => rfl)) (pa_cons (pe_gc2 rfl T.g_PERCENT) (pa_nil))))))))) (pss_one (ps_ret (pe_bl))) (pss_nil))))
      (pss_one (ps_ret (pe_bl)))
/-! ### need -/
def t_need (K : PySem.W.Frag) (A : Ad) (E : XK) : TS :=
  tIfS (tNot (tB (tVar 0))) (L2.tRaiseRef A.ce (fun cls d _ H => E cls d H) (tCons (tVar 1) (tNil))) (tNext)
theorem cal_need {sp : Sp} (T : Txt K mg A)  (len : ∀ vs H Q E, sp vs H Q E → vs.length = 2)
    (pu : ∀ vs H Q E, sp vs H Q E → t_need K A  E { nx := fun _ H' => Q .non H', rt := Q } (L2.start ["is_so", "code"] vs) H) :
    CalX P w K mg base 3 "need" sp := by
  obtain ⟨f, fd, F, g⟩ := T.f_need
  have nd := sc_need.nd
  refine ⟨f, fd, ["is_so", "code"], ?_, g, F.kp, F.binds fun _ _ _ _ _ _ us hl => match us, hl with | [_, _], _ => rfl⟩
  refine F.okX sc_need len fun cdv A' outer s H vs Q E hr h => ⟨t_need K A  E, ?_, pu vs H Q E h⟩
  have hx : Passes (L2.CX P w) (cxOf (L2.CX P w) P w K mg base ["is_so", "code"] "need" (defScope s_need) f cdv A' outer s H E) E := passes_call (takes_of rfl rfl rfl rfl) fun _ _ _ _ h => h
  exact pss_one (ps_if (pt_not (pt_val (pv 0))) (pss_one (ps_raiseRef rfl T.ref hr (takes_of rfl rfl rfl rfl) (by exact (pa_cons (pv 1) (pa_nil))))) (pss_nil))
/-! ### station_at -/
def t_station_at (K : PySem.W.Frag) (A : Ad) (p_need : Sp) (E : XK) : TS :=
  tSeq (tDrop (tCall p_need [] E (tCons (tOp rLtA (tVar 1) (tCB (rLen1 K) (tCons (tFld K (tVar 0) "stations") (tNil)))) (tCons (tC (.int (-2))) (tNil))))) (tRet (tOp (rIx K) (tFld K (tVar 0) "stations") (tVar 1)))
theorem cal_station_at {p_need : Sp} {sp : Sp} (T : Txt K mg A) (c_need : CalX P w K mg base 3 "need" p_need) (len : ∀ vs H Q E, sp vs H Q E → vs.length = 2)
    (pu : ∀ vs H Q E, sp vs H Q E → t_station_at K A p_need E { nx := fun _ H' => Q .non H', rt := Q } (L2.start ["model", "number"] vs) H) :
    CalX P w K mg base 4 "station_at" sp := by
  obtain ⟨f, fd, F, g⟩ := T.f_station_at
  have nd := sc_station_at.nd
  refine ⟨f, fd, ["model", "number"], ?_, g, F.kp, F.binds fun _ _ _ _ _ _ us hl => match us, hl with | [_, _], _ => rfl⟩
  refine F.okX sc_station_at len fun cdv A' outer s H vs Q E hr h => ⟨t_station_at K A p_need E, ?_, pu vs H Q E h⟩
  have hx : Passes (L2.CX P w) (cxOf (L2.CX P w) P w K mg base ["model", "number"] "station_at" (defScope s_station_at) f cdv A' outer s H E) E := passes_call (takes_of rfl rfl rfl rfl) fun _ _ _ _ h => h
  exact pss_cons (ps_expr (pe_cx c_need hr (by decide) rfl hx (by exact (pa_cons (pe_cmpR op_lt (pv 1) (pe_callB call_len_seq (by rfl) T.b_len PySem.boot_len (pa_cons (pe_fld (pv 0) rfl) (pa_nil))) (by first | exact nomark _ | rfl)) (pa_cons (pe_gc2 rfl T.g_NOT_THERE) (pa_nil))))))
      (pss_one (ps_ret (pe_ix ix_seq (pe_fld (pv 0) rfl) (pv 1) (fun _ _ => rfl))))
/-! ### option_at -/
def t_option_at (K : PySem.W.Frag) (A : Ad) (p_station_at p_need : Sp) (E : XK) : TS :=
  tSeq (tAsg (tCall p_station_at [] E (tCons (tVar 0) (tCons (tVar 1) (tNil)))) (gName 3)) (tSeq (tDrop (tCall p_need [] E (tCons (tOp rLtA (tVar 2) (tCB (rLen1 K) (tCons (tFld K (tVar 3) "options") (tNil)))) (tCons (tC (.int (-2))) (tNil))))) (tRet (tTup (tCons (tVar 3) (tCons (tOp (rIx K) (tFld K (tVar 3) "options") (tVar 2)) (tNil))))))
theorem cal_option_at {p_station_at p_need : Sp} {sp : Sp} (T : Txt K mg A) (c_station_at : CalX P w K mg base 4 "station_at" p_station_at) (c_need : CalX P w K mg base 3 "need" p_need) (len : ∀ vs H Q E, sp vs H Q E → vs.length = 3)
    (pu : ∀ vs H Q E, sp vs H Q E → t_option_at K A p_station_at p_need E { nx := fun _ H' => Q .non H', rt := Q } (L2.start ["model", "number", "option", "station"] vs) H) :
    CalX P w K mg base 5 "option_at" sp := by
  obtain ⟨f, fd, F, g⟩ := T.f_option_at
  have nd := sc_option_at.nd
  refine ⟨f, fd, ["model", "number", "option"], ?_, g, F.kp, F.binds fun _ _ _ _ _ _ us hl => match us, hl with | [_, _, _], _ => rfl⟩
  refine F.okX sc_option_at len fun cdv A' outer s H vs Q E hr h => ⟨t_option_at K A p_station_at p_need E, ?_, pu vs H Q E h⟩
  have hx : Passes (L2.CX P w) (cxOf (L2.CX P w) P w K mg base ["model", "number", "option", "station"] "option_at" (defScope s_option_at) f cdv A' outer s H E) E := passes_call (takes_of rfl rfl rfl rfl) fun _ _ _ _ h => h
  exact pss_cons (ps_set (i := 3) nd rfl (by first | exact Or.inl rfl | exact Or.inr rfl) (pe_cx c_station_at hr (by decide) rfl hx (by exact (pa_cons (pv 0) (pa_cons (pv 1) (pa_nil))))))
      (pss_cons (ps_expr (pe_cx c_need hr (by decide) rfl hx (by exact (pa_cons (pe_cmpR op_lt (pv 2) (pe_callB call_len_seq (by rfl) T.b_len PySem.boot_len (pa_cons (pe_fld (pv 3) rfl) (pa_nil))) (by first | exact nomark _ | rfl)) (pa_cons (pe_gc2 rfl T.g_NOT_THERE) (pa_nil))))))
      (pss_one (ps_ret (pe_tup (pa_cons (pv 3) (pa_cons (pe_ix ix_seq (pe_fld (pv 3) rfl) (pv 2) (fun _ _ => rfl)) (pa_nil)))))))
/-! ### fraction_in -/
def t_fraction_in (K : PySem.W.Frag) (A : Ad) (p_need p_fraction : Sp) (E : XK) : TS :=
  tSeq (tDrop (tCall p_need [] E (tCons (tAndV (tOp rLeA (tVar 0) (tC (.int (1000000)))) (tChain rLeA rLeA (tC (.int 1)) (tVar 1) (tC (.int (1000000))))) (tCons (tC (.int (-22))) (tNil))))) (tRet (tCall p_fraction [] E0 (tCons (tVar 0) (tCons (tVar 1) (tNil)))))
theorem cal_fraction_in {p_need p_fraction : Sp} {sp : Sp} (T : Txt K mg A) (c_need : CalX P w K mg base 3 "need" p_need) (c_fraction : Cal0 P w K mg base 2 "fraction" p_fraction) (len : ∀ vs H Q E, sp vs H Q E → vs.length = 2)
    (pu : ∀ vs H Q E, sp vs H Q E → t_fraction_in K A p_need p_fraction E { nx := fun _ H' => Q .non H', rt := Q } (L2.start ["num", "den"] vs) H) :
    CalX P w K mg base 4 "fraction_in" sp := by
  obtain ⟨f, fd, F, g⟩ := T.f_fraction_in
  have nd := sc_fraction_in.nd
  refine ⟨f, fd, ["num", "den"], ?_, g, F.kp, F.binds fun _ _ _ _ _ _ us hl => match us, hl with | [_, _], _ => rfl⟩
  refine F.okX sc_fraction_in len fun cdv A' outer s H vs Q E hr h => ⟨t_fraction_in K A p_need p_fraction E, ?_, pu vs H Q E h⟩
  have hx : Passes (L2.CX P w) (cxOf (L2.CX P w) P w K mg base ["num", "den"] "fraction_in" (defScope s_fraction_in) f cdv A' outer s H E) E := passes_call (takes_of rfl rfl rfl rfl) fun _ _ _ _ h => h
  exact pss_cons (ps_expr (pe_cx c_need hr (by decide) rfl hx (by exact (pa_cons (pe_and (pe_cmpR op_le (pv 0) (pe_gc2 rfl T.g_MOST_NUMBER) (by first | exact nomark _ | rfl)) (pe_one (pe_chain op_le op_le (pe_int) (pv 1) (pe_gc2 rfl T.g_MOST_NUMBER)))) (pa_cons (pe_gc2 rfl T.g_OUT_OF_RANGE) (pa_nil))))))
      (pss_one (ps_ret (pe_c0 c_fraction hr (by decide) rfl (by exact (pa_cons (pv 0) (pa_cons (pv 1) (pa_nil)))))))
/-! ### create -/
def t_create (K : PySem.W.Frag) (A : Ad) (p_need p_Model_init : Sp) (E : XK) : TS :=
  tSeq (tDrop (tCall p_need [] E (tCons (tChain rLeA rLeA (tC (.int 1)) (tOp (rIx K) (tVar 0) (tC (.int 0))) (tC (.int 4))) (tCons (tC (.int (-22))) (tNil))))) (tRet (tMake (A.c 2) p_Model_init [] E0 (tCons (tOp (rIx K) (tVar 0) (tC (.int 0))) (tNil))))
theorem cal_create {p_need p_Model_init : Sp} {sp : Sp} (T : Txt K mg A) (c_need : CalX P w K mg base 3 "need" p_need) (c_Model_init : MakX P w K mg base 3 "Model" (A.c 2) p_Model_init) (len : ∀ vs H Q E, sp vs H Q E → vs.length = 1)
    (pu : ∀ vs H Q E, sp vs H Q E → t_create K A p_need p_Model_init E { nx := fun _ H' => Q .non H', rt := Q } (L2.start ["given"] vs) H) :
    CalX P w K mg base 5 "create" sp := by
  obtain ⟨f, fd, F, g⟩ := T.f_create
  have nd := sc_create.nd
  refine ⟨f, fd, ["given"], ?_, g, F.kp, F.binds fun _ _ _ _ _ _ us hl => match us, hl with | [_], _ => rfl⟩
  refine F.okX sc_create len fun cdv A' outer s H vs Q E hr h => ⟨t_create K A p_need p_Model_init E, ?_, pu vs H Q E h⟩
  have hx : Passes (L2.CX P w) (cxOf (L2.CX P w) P w K mg base ["given"] "create" (defScope s_create) f cdv A' outer s H E) E := passes_call (takes_of rfl rfl rfl rfl) fun _ _ _ _ h => h
  exact pss_cons (ps_expr (pe_cx c_need hr (by decide) rfl hx (by exact (pa_cons (pe_chain op_le op_le (pe_int) (pe_ix ix_seq (pv 0) (pe_int) (fun _ _ => rfl)) (pe_int)) (pa_cons (pe_gc2 rfl T.g_OUT_OF_RANGE) (pa_nil))))))
      (pss_one (ps_ret (pe_mx c_Model_init hr (by decide) rfl (pa_cons (pe_ix ix_seq (pv 0) (pe_int) (fun _ _ => rfl)) (pa_nil)))))
/-! ### set_arrival -/
def t_set_arrival (K : PySem.W.Frag) (A : Ad) (p_station_at p_need : Sp) (E : XK) : TS :=
  tSeq (tAsg (tCall p_station_at [] E (tCons (tVar 0) (tCons (tOp (rIx K) (tVar 1) (tC (.int 0))) (tNil)))) (gName 2)) (tSeq (tDrop (tCall p_need [] E (tCons (tChain rLeA rLeA (tC (.int 1)) (tOp (rIx K) (tVar 1) (tC (.int 1))) (tC (.int (100000)))) (tCons (tC (.int (-22))) (tNil))))) (tSeq (tAsg (tFld K (tVar 2) "arrival") (gName 3)) (tSeq (sFld K (tVar 2) (tOp (rIx K) (tVar 1) (tC (.int 1))) "arrival") (tRet (tLst (tCons (tVar 3) (tNil)))))))
theorem cal_set_arrival {p_station_at p_need : Sp} {sp : Sp} (T : Txt K mg A) (c_station_at : CalX P w K mg base 4 "station_at" p_station_at) (c_need : CalX P w K mg base 3 "need" p_need) (len : ∀ vs H Q E, sp vs H Q E → vs.length = 2)
    (pu : ∀ vs H Q E, sp vs H Q E → t_set_arrival K A p_station_at p_need E { nx := fun _ H' => Q .non H', rt := Q } (L2.start ["model", "given", "station", "old"] vs) H) :
    CalX P w K mg base 5 "set_arrival" sp := by
  obtain ⟨f, fd, F, g⟩ := T.f_set_arrival
  have nd := sc_set_arrival.nd
  refine ⟨f, fd, ["model", "given"], ?_, g, F.kp, F.binds fun _ _ _ _ _ _ us hl => match us, hl with | [_, _], _ => rfl⟩
  refine F.okX sc_set_arrival len fun cdv A' outer s H vs Q E hr h => ⟨t_set_arrival K A p_station_at p_need E, ?_, pu vs H Q E h⟩
  have hx : Passes (L2.CX P w) (cxOf (L2.CX P w) P w K mg base ["model", "given", "station", "old"] "set_arrival" (defScope s_set_arrival) f cdv A' outer s H E) E := passes_call (takes_of rfl rfl rfl rfl) fun _ _ _ _ h => h
  exact pss_cons (ps_set (i := 2) nd rfl (by first | exact Or.inl rfl | exact Or.inr rfl) (pe_cx c_station_at hr (by decide) rfl hx (by exact (pa_cons (pv 0) (pa_cons (pe_ix ix_seq (pv 1) (pe_int) (fun _ _ => rfl)) (pa_nil))))))
      (pss_cons (ps_expr (pe_cx c_need hr (by decide) rfl hx (by exact (pa_cons (pe_chain op_le op_le (pe_int) (pe_ix ix_seq (pv 1) (pe_int) (fun _ _ => rfl)) (pe_gc2 rfl T.g_MOST_RATE)) (pa_cons (pe_gc2 rfl T.g_OUT_OF_RANGE) (pa_nil))))))
      (pss_cons (ps_set (i := 3) nd rfl (by first | exact Or.inl rfl | exact Or.inr rfl) (pe_fld (pv 2) rfl))
      (pss_cons (ps_fld (pv 2) (pe_ix ix_seq (pv 1) (pe_int) (fun _ _ => rfl)) rfl)
      (pss_one (ps_ret (pe_lst (pa_cons (pv 3) (pa_nil))))))))
/-! ### set_weight -/
def t_set_weight (K : PySem.W.Frag) (A : Ad) (p_station_at p_need : Sp) (E : XK) : TS :=
  tSeq (tAsg (tCall p_station_at [] E (tCons (tVar 0) (tCons (tOp (rIx K) (tVar 1) (tC (.int 0))) (tNil)))) (gName 2)) (tSeq (tDrop (tCall p_need [] E (tCons (tOp rLeA (tOp (rIx K) (tVar 1) (tC (.int 1))) (tC (.int 1000))) (tCons (tC (.int (-22))) (tNil))))) (tSeq (tAsg (tFld K (tVar 2) "weight") (gName 3)) (tSeq (sFld K (tVar 2) (tOp (rIx K) (tVar 1) (tC (.int 1))) "weight") (tRet (tLst (tCons (tVar 3) (tNil)))))))
theorem cal_set_weight {p_station_at p_need : Sp} {sp : Sp} (T : Txt K mg A) (c_station_at : CalX P w K mg base 4 "station_at" p_station_at) (c_need : CalX P w K mg base 3 "need" p_need) (len : ∀ vs H Q E, sp vs H Q E → vs.length = 2)
    (pu : ∀ vs H Q E, sp vs H Q E → t_set_weight K A p_station_at p_need E { nx := fun _ H' => Q .non H', rt := Q } (L2.start ["model", "given", "station", "old"] vs) H) :
    CalX P w K mg base 5 "set_weight" sp := by
  obtain ⟨f, fd, F, g⟩ := T.f_set_weight
  have nd := sc_set_weight.nd
  refine ⟨f, fd, ["model", "given"], ?_, g, F.kp, F.binds fun _ _ _ _ _ _ us hl => match us, hl with | [_, _], _ => rfl⟩
  refine F.okX sc_set_weight len fun cdv A' outer s H vs Q E hr h => ⟨t_set_weight K A p_station_at p_need E, ?_, pu vs H Q E h⟩
  have hx : Passes (L2.CX P w) (cxOf (L2.CX P w) P w K mg base ["model", "given", "station", "old"] "set_weight" (defScope s_set_weight) f cdv A' outer s H E) E := passes_call (takes_of rfl rfl rfl rfl) fun _ _ _ _ h => h
  exact pss_cons (ps_set (i := 2) nd rfl (by first | exact Or.inl rfl | exact Or.inr rfl) (pe_cx c_station_at hr (by decide) rfl hx (by exact (pa_cons (pv 0) (pa_cons (pe_ix ix_seq (pv 1) (pe_int) (fun _ _ => rfl)) (pa_nil))))))
      (pss_cons (ps_expr (pe_cx c_need hr (by decide) rfl hx (by exact (pa_cons (pe_cmpR op_le (pe_ix ix_seq (pv 1) (pe_int) (fun _ _ => rfl)) (pe_int) (by first | exact nomark _ | rfl)) (pa_cons (pe_gc2 rfl T.g_OUT_OF_RANGE) (pa_nil))))))
      (pss_cons (ps_set (i := 3) nd rfl (by first | exact Or.inl rfl | exact Or.inr rfl) (pe_fld (pv 2) rfl))
      (pss_cons (ps_fld (pv 2) (pe_ix ix_seq (pv 1) (pe_int) (fun _ _ => rfl)) rfl)
      (pss_one (ps_ret (pe_lst (pa_cons (pv 3) (pa_nil))))))))
/-! ### set_target -/
def t_set_target (K : PySem.W.Frag) (A : Ad) (p_fraction_in : Sp) (E : XK) : TS :=
  tSeq (sFld K (tVar 0) (tCall p_fraction_in [] E (tCons (tOp (rIx K) (tVar 1) (tC (.int 0))) (tCons (tOp (rIx K) (tVar 1) (tC (.int 1))) (tNil)))) "target") (tRet (tLst (tCons (tC (.int 0)) (tNil))))
theorem cal_set_target {p_fraction_in : Sp} {sp : Sp} (T : Txt K mg A) (c_fraction_in : CalX P w K mg base 4 "fraction_in" p_fraction_in) (len : ∀ vs H Q E, sp vs H Q E → vs.length = 2)
    (pu : ∀ vs H Q E, sp vs H Q E → t_set_target K A p_fraction_in E { nx := fun _ H' => Q .non H', rt := Q } (L2.start ["model", "given"] vs) H) :
    CalX P w K mg base 5 "set_target" sp := by
  obtain ⟨f, fd, F, g⟩ := T.f_set_target
  have nd := sc_set_target.nd
  refine ⟨f, fd, ["model", "given"], ?_, g, F.kp, F.binds fun _ _ _ _ _ _ us hl => match us, hl with | [_, _], _ => rfl⟩
  refine F.okX sc_set_target len fun cdv A' outer s H vs Q E hr h => ⟨t_set_target K A p_fraction_in E, ?_, pu vs H Q E h⟩
  have hx : Passes (L2.CX P w) (cxOf (L2.CX P w) P w K mg base ["model", "given"] "set_target" (defScope s_set_target) f cdv A' outer s H E) E := passes_call (takes_of rfl rfl rfl rfl) fun _ _ _ _ h => h
  exact pss_cons (ps_fld (pv 0) (pe_cx c_fraction_in hr (by decide) rfl hx (by exact (pa_cons (pe_ix ix_seq (pv 1) (pe_int) (fun _ _ => rfl)) (pa_cons (pe_ix ix_seq (pv 1) (pe_int) (fun _ _ => rfl)) (pa_nil))))) rfl)
      (pss_one (ps_ret (pe_lst (pa_cons (pe_int) (pa_nil)))))
/-! ### set_limit -/
def t_set_limit (K : PySem.W.Frag) (A : Ad) (p_need p_fraction : Sp) (E : XK) : TS :=
  tSeq (tAsg (tVar 1) (gUnl K 2 (gCons (gName 2) (gCons (gName 3) (gNil))))) (tSeq (tDrop (tCall p_need [] E (tCons (tAndV (tChain rLeA rLeA (tC (.int 1)) (tVar 3) (tC (.int (1000000)))) (tChain rLeA rLeA (tC (.int 1)) (tVar 2) (tVar 3))) (tCons (tC (.int (-22))) (tNil))))) (tSeq (sFld K (tVar 0) (tCall p_fraction [] E0 (tCons (tVar 2) (tCons (tVar 3) (tNil)))) "limit") (tRet (tLst (tCons (tC (.int 0)) (tNil))))))
theorem cal_set_limit {p_need p_fraction : Sp} {sp : Sp} (T : Txt K mg A) (c_need : CalX P w K mg base 3 "need" p_need) (c_fraction : Cal0 P w K mg base 2 "fraction" p_fraction) (len : ∀ vs H Q E, sp vs H Q E → vs.length = 2)
    (pu : ∀ vs H Q E, sp vs H Q E → t_set_limit K A p_need p_fraction E { nx := fun _ H' => Q .non H', rt := Q } (L2.start ["model", "given", "num", "den"] vs) H) :
    CalX P w K mg base 4 "set_limit" sp := by
  obtain ⟨f, fd, F, g⟩ := T.f_set_limit
  have nd := sc_set_limit.nd
  refine ⟨f, fd, ["model", "given"], ?_, g, F.kp, F.binds fun _ _ _ _ _ _ us hl => match us, hl with | [_, _], _ => rfl⟩
  refine F.okX sc_set_limit len fun cdv A' outer s H vs Q E hr h => ⟨t_set_limit K A p_need p_fraction E, ?_, pu vs H Q E h⟩
  have hx : Passes (L2.CX P w) (cxOf (L2.CX P w) P w K mg base ["model", "given", "num", "den"] "set_limit" (defScope s_set_limit) f cdv A' outer s H E) E := passes_call (takes_of rfl rfl rfl rfl) fun _ _ _ _ h => h
  exact pss_cons (ps_asg (pv 1) (pg_unl rfl (pgs_cons (pg_name (i := 2) nd rfl (by first | exact Or.inl rfl | exact Or.inr rfl)) (pgs_cons (pg_name (i := 3) nd rfl (by first | exact Or.inl rfl | exact Or.inr rfl)) (pgs_nil)))))
      (pss_cons (ps_expr (pe_cx c_need hr (by decide) rfl hx (by exact (pa_cons (pe_and (pe_chain op_le op_le (pe_int) (pv 3) (pe_gc2 rfl T.g_MOST_NUMBER)) (pe_one (pe_chain op_le op_le (pe_int) (pv 2) (pv 3)))) (pa_cons (pe_gc2 rfl T.g_OUT_OF_RANGE) (pa_nil))))))
      (pss_cons (ps_fld (pv 0) (pe_c0 c_fraction hr (by decide) rfl (by exact (pa_cons (pv 2) (pa_cons (pv 3) (pa_nil))))) rfl)
      (pss_one (ps_ret (pe_lst (pa_cons (pe_int) (pa_nil)))))))
/-! ### add_option -/
def t_add_option (K : PySem.W.Frag) (A : Ad) (p_station_at p_need p_Option_init : Sp) (E : XK) : TS :=
  tSeq (tAsg (tVar 1) (gUnl K 4 (gCons (gName 2) (gCons (gName 3) (gCons (gName 4) (gCons (gName 5) (gNil))))))) (tSeq (tAsg (tCall p_station_at [] E (tCons (tVar 0) (tCons (tVar 2) (tNil)))) (gName 6)) (tSeq (tDrop (tCall p_need [] E (tCons (tAndV (tChain rLeA rLeA (tC (.int 1)) (tVar 3) (tC (.int 10))) (tAndV (tChain rLeA rLeA (tC (.int 1)) (tVar 4) (tC (.int (100000)))) (tOp rLeA (tVar 5) (tC (.int (100000)))))) (tCons (tC (.int (-22))) (tNil))))) (tSeq (tDrop (tCall p_need [] E (tCons (tOp rLtA (tCB (rLen1 K) (tCons (tFld K (tVar 6) "options") (tNil))) (tC (.int 6))) (tCons (tC (.int (-28))) (tNil))))) (tSeq (tDrop (tBM K "list" rAppend (tFld K (tVar 6) "options") (tCons (tMake (A.c 0) p_Option_init [] E0 (tCons (tVar 3) (tCons (tVar 4) (tCons (tVar 5) (tNil))))) (tNil)))) (tRet (tLst (tCons (tOp rSubA (tCB (rLen1 K) (tCons (tFld K (tVar 6) "options") (tNil))) (tC (.int 1))) (tNil))))))))
theorem cal_add_option {p_station_at p_need p_Option_init : Sp} {sp : Sp} (T : Txt K mg A) (c_station_at : CalX P w K mg base 4 "station_at" p_station_at) (c_need : CalX P w K mg base 3 "need" p_need) (c_Option_init : MakX P w K mg base 1 "Option" (A.c 0) p_Option_init) (len : ∀ vs H Q E, sp vs H Q E → vs.length = 2)
    (pu : ∀ vs H Q E, sp vs H Q E → t_add_option K A p_station_at p_need p_Option_init E { nx := fun _ H' => Q .non H', rt := Q } (L2.start ["model", "given", "number", "servers", "rate", "cost", "station"] vs) H) :
    CalX P w K mg base 5 "add_option" sp := by
  obtain ⟨f, fd, F, g⟩ := T.f_add_option
  have nd := sc_add_option.nd
  refine ⟨f, fd, ["model", "given"], ?_, g, F.kp, F.binds fun _ _ _ _ _ _ us hl => match us, hl with | [_, _], _ => rfl⟩
  refine F.okX sc_add_option len fun cdv A' outer s H vs Q E hr h => ⟨t_add_option K A p_station_at p_need p_Option_init E, ?_, pu vs H Q E h⟩
  have hx : Passes (L2.CX P w) (cxOf (L2.CX P w) P w K mg base ["model", "given", "number", "servers", "rate", "cost", "station"] "add_option" (defScope s_add_option) f cdv A' outer s H E) E := passes_call (takes_of rfl rfl rfl rfl) fun _ _ _ _ h => h
  exact pss_cons (ps_asg (pv 1) (pg_unl rfl (pgs_cons (pg_name (i := 2) nd rfl (by first | exact Or.inl rfl | exact Or.inr rfl)) (pgs_cons (pg_name (i := 3) nd rfl (by first | exact Or.inl rfl | exact Or.inr rfl)) (pgs_cons (pg_name (i := 4) nd rfl (by first | exact Or.inl rfl | exact Or.inr rfl)) (pgs_cons (pg_name (i := 5) nd rfl (by first | exact Or.inl rfl | exact Or.inr rfl)) (pgs_nil)))))))
      (pss_cons (ps_set (i := 6) nd rfl (by first | exact Or.inl rfl | exact Or.inr rfl) (pe_cx c_station_at hr (by decide) rfl hx (by exact (pa_cons (pv 0) (pa_cons (pv 2) (pa_nil))))))
      (pss_cons (ps_expr (pe_cx c_need hr (by decide) rfl hx (by exact (pa_cons (pe_and (pe_chain op_le op_le (pe_int) (pv 3) (pe_int)) (pe_and (pe_chain op_le op_le (pe_int) (pv 4) (pe_gc2 rfl T.g_MOST_RATE)) (pe_one (pe_cmpR op_le (pv 5) (pe_gc2 rfl T.g_MOST_RATE) (by first | exact nomark _ | rfl))))) (pa_cons (pe_gc2 rfl T.g_OUT_OF_RANGE) (pa_nil))))))
      (pss_cons (ps_expr (pe_cx c_need hr (by decide) rfl hx (by exact (pa_cons (pe_cmpR op_lt (pe_callB call_len_seq (by rfl) T.b_len PySem.boot_len (pa_cons (pe_fld (pv 6) rfl) (pa_nil))) (pe_int) (by first | exact nomark _ | rfl)) (pa_cons (pe_gc2 rfl T.g_TOO_MANY) (pa_nil))))))
      (pss_cons (ps_expr (pe_bm PySem.F.plainAttrs_list PySem.F.slot_list_append PySem.F.type_list_append mt_append (pe_fld (pv 6) rfl) (pa_cons (pe_mx c_Option_init hr (by decide) rfl (pa_cons (pv 3) (pa_cons (pv 4) (pa_cons (pv 5) (pa_nil))))) (pa_nil))))
      (pss_one (ps_ret (pe_lst (pa_cons (pe_op op_sub (pe_callB call_len_seq (by rfl) T.b_len PySem.boot_len (pa_cons (pe_fld (pv 6) rfl) (pa_nil))) (pe_int)) (pa_nil)))))))))
/-! ### remove_option -/
def t_remove_option (K : PySem.W.Frag) (A : Ad) (p_option_at : Sp) (E : XK) : TS :=
  tSeq (tAsg (tOp (rIx K) (tCall p_option_at [] E (tCons (tVar 0) (tCons (tOp (rIx K) (tVar 1) (tC (.int 0))) (tCons (tOp (rIx K) (tVar 1) (tC (.int 1))) (tNil))))) (tC (.int 0))) (gName 2)) (tSeq (tDrop (tBM K "list" rPopAt (tFld K (tVar 2) "options") (tCons (tOp (rIx K) (tVar 1) (tC (.int 1))) (tNil)))) (tRet (tLst (tCons (tCB (rLen1 K) (tCons (tFld K (tVar 2) "options") (tNil))) (tNil)))))
theorem cal_remove_option {p_option_at : Sp} {sp : Sp} (T : Txt K mg A) (c_option_at : CalX P w K mg base 5 "option_at" p_option_at) (len : ∀ vs H Q E, sp vs H Q E → vs.length = 2)
    (pu : ∀ vs H Q E, sp vs H Q E → t_remove_option K A p_option_at E { nx := fun _ H' => Q .non H', rt := Q } (L2.start ["model", "given", "station"] vs) H) :
    CalX P w K mg base 6 "remove_option" sp := by
  obtain ⟨f, fd, F, g⟩ := T.f_remove_option
  have nd := sc_remove_option.nd
  refine ⟨f, fd, ["model", "given"], ?_, g, F.kp, F.binds fun _ _ _ _ _ _ us hl => match us, hl with | [_, _], _ => rfl⟩
  refine F.okX sc_remove_option len fun cdv A' outer s H vs Q E hr h => ⟨t_remove_option K A p_option_at E, ?_, pu vs H Q E h⟩
  have hx : Passes (L2.CX P w) (cxOf (L2.CX P w) P w K mg base ["model", "given", "station"] "remove_option" (defScope s_remove_option) f cdv A' outer s H E) E := passes_call (takes_of rfl rfl rfl rfl) fun _ _ _ _ h => h
  exact pss_cons (ps_set (i := 2) nd rfl (by first | exact Or.inl rfl | exact Or.inr rfl) (pe_ix ix_seq (pe_cx c_option_at hr (by decide) rfl hx (by exact (pa_cons (pv 0) (pa_cons (pe_ix ix_seq (pv 1) (pe_int) (fun _ _ => rfl)) (pa_cons (pe_ix ix_seq (pv 1) (pe_int) (fun _ _ => rfl)) (pa_nil)))))) (pe_int) (fun _ _ => rfl)))
      (pss_cons (ps_expr (pe_bm PySem.F.plainAttrs_list PySem.F.slot_list_pop PySem.F.type_list_pop mt_popAt (pe_fld (pv 2) rfl) (pa_cons (pe_ix ix_seq (pv 1) (pe_int) (fun _ _ => rfl)) (pa_nil))))
      (pss_one (ps_ret (pe_lst (pa_cons (pe_callB call_len_seq (by rfl) T.b_len PySem.boot_len (pa_cons (pe_fld (pv 2) rfl) (pa_nil))) (pa_nil))))))
/-! ### set_cost -/
def t_set_cost (K : PySem.W.Frag) (A : Ad) (p_need p_option_at : Sp) (E : XK) : TS :=
  tSeq (tAsg (tOp (rIx K) (tCall p_option_at [] E (tCons (tVar 0) (tCons (tOp (rIx K) (tVar 1) (tC (.int 0))) (tCons (tOp (rIx K) (tVar 1) (tC (.int 1))) (tNil))))) (tC (.int 1))) (gName 2)) (tSeq (tDrop (tCall p_need [] E (tCons (tOp rLeA (tOp (rIx K) (tVar 1) (tC (.int 2))) (tC (.int (100000)))) (tCons (tC (.int (-22))) (tNil))))) (tSeq (tAsg (tFld K (tVar 2) "cost") (gName 3)) (tSeq (sFld K (tVar 2) (tOp (rIx K) (tVar 1) (tC (.int 2))) "cost") (tRet (tLst (tCons (tVar 3) (tNil)))))))
theorem cal_set_cost {p_need p_option_at : Sp} {sp : Sp} (T : Txt K mg A) (c_need : CalX P w K mg base 3 "need" p_need) (c_option_at : CalX P w K mg base 5 "option_at" p_option_at) (len : ∀ vs H Q E, sp vs H Q E → vs.length = 2)
    (pu : ∀ vs H Q E, sp vs H Q E → t_set_cost K A p_need p_option_at E { nx := fun _ H' => Q .non H', rt := Q } (L2.start ["model", "given", "option", "old"] vs) H) :
    CalX P w K mg base 6 "set_cost" sp := by
  obtain ⟨f, fd, F, g⟩ := T.f_set_cost
  have nd := sc_set_cost.nd
  refine ⟨f, fd, ["model", "given"], ?_, g, F.kp, F.binds fun _ _ _ _ _ _ us hl => match us, hl with | [_, _], _ => rfl⟩
  refine F.okX sc_set_cost len fun cdv A' outer s H vs Q E hr h => ⟨t_set_cost K A p_need p_option_at E, ?_, pu vs H Q E h⟩
  have hx : Passes (L2.CX P w) (cxOf (L2.CX P w) P w K mg base ["model", "given", "option", "old"] "set_cost" (defScope s_set_cost) f cdv A' outer s H E) E := passes_call (takes_of rfl rfl rfl rfl) fun _ _ _ _ h => h
  exact pss_cons (ps_set (i := 2) nd rfl (by first | exact Or.inl rfl | exact Or.inr rfl) (pe_ix ix_seq (pe_cx c_option_at hr (by decide) rfl hx (by exact (pa_cons (pv 0) (pa_cons (pe_ix ix_seq (pv 1) (pe_int) (fun _ _ => rfl)) (pa_cons (pe_ix ix_seq (pv 1) (pe_int) (fun _ _ => rfl)) (pa_nil)))))) (pe_int) (fun _ _ => rfl)))
      (pss_cons (ps_expr (pe_cx c_need hr (by decide) rfl hx (by exact (pa_cons (pe_cmpR op_le (pe_ix ix_seq (pv 1) (pe_int) (fun _ _ => rfl)) (pe_gc2 rfl T.g_MOST_RATE) (by first | exact nomark _ | rfl)) (pa_cons (pe_gc2 rfl T.g_OUT_OF_RANGE) (pa_nil))))))
      (pss_cons (ps_set (i := 3) nd rfl (by first | exact Or.inl rfl | exact Or.inr rfl) (pe_fld (pv 2) rfl))
      (pss_cons (ps_fld (pv 2) (pe_ix ix_seq (pv 1) (pe_int) (fun _ _ => rfl)) rfl)
      (pss_one (ps_ret (pe_lst (pa_cons (pv 3) (pa_nil))))))))
/-! ### option_info -/
def t_option_info (K : PySem.W.Frag) (A : Ad) (p_option_at p_utilization : Sp) (E : XK) : TS :=
  tSeq (tAsg (tCall p_option_at [] E (tCons (tVar 0) (tCons (tOp (rIx K) (tVar 1) (tC (.int 0))) (tCons (tOp (rIx K) (tVar 1) (tC (.int 1))) (tNil))))) (gTup K 2 (gCons (gName 2) (gCons (gName 3) (gNil))))) (tRet (tOp rAddA (tLst (tCons (tFld K (tVar 3) "servers") (tCons (tFld K (tVar 3) "rate") (tCons (tFld K (tVar 3) "cost") (tNil))))) (tCB (rList1 K) (tCons (tCall p_utilization [] E0 (tCons (tVar 2) (tCons (tVar 3) (tCons (tC (.int (100))) (tNil))))) (tNil)))))
theorem cal_option_info {p_option_at p_utilization : Sp} {sp : Sp} (T : Txt K mg A) (c_option_at : CalX P w K mg base 5 "option_at" p_option_at) (c_utilization : Cal0 P w K mg base 3 "utilization" p_utilization) (len : ∀ vs H Q E, sp vs H Q E → vs.length = 2)
    (pu : ∀ vs H Q E, sp vs H Q E → t_option_info K A p_option_at p_utilization E { nx := fun _ H' => Q .non H', rt := Q } (L2.start ["model", "given", "station", "option"] vs) H) :
    CalX P w K mg base 6 "option_info" sp := by
  obtain ⟨f, fd, F, g⟩ := T.f_option_info
  have nd := sc_option_info.nd
  refine ⟨f, fd, ["model", "given"], ?_, g, F.kp, F.binds fun _ _ _ _ _ _ us hl => match us, hl with | [_, _], _ => rfl⟩
  refine F.okX sc_option_info len fun cdv A' outer s H vs Q E hr h => ⟨t_option_info K A p_option_at p_utilization E, ?_, pu vs H Q E h⟩
  have hx : Passes (L2.CX P w) (cxOf (L2.CX P w) P w K mg base ["model", "given", "station", "option"] "option_info" (defScope s_option_info) f cdv A' outer s H E) E := passes_call (takes_of rfl rfl rfl rfl) fun _ _ _ _ h => h
  exact pss_cons (ps_asg (pe_cx c_option_at hr (by decide) rfl hx (by exact (pa_cons (pv 0) (pa_cons (pe_ix ix_seq (pv 1) (pe_int) (fun _ _ => rfl)) (pa_cons (pe_ix ix_seq (pv 1) (pe_int) (fun _ _ => rfl)) (pa_nil)))))) (pg_tup rfl (pgs_cons (pg_name (i := 2) nd rfl (by first | exact Or.inl rfl | exact Or.inr rfl)) (pgs_cons (pg_name (i := 3) nd rfl (by first | exact Or.inl rfl | exact Or.inr rfl)) (pgs_nil)))))
      (pss_one (ps_ret (pe_op op_addA (pe_lst (pa_cons (pe_fld (pv 3) rfl) (pa_cons (pe_fld (pv 3) rfl) (pa_cons (pe_fld (pv 3) rfl) (pa_nil))))) (pe_callTy call_list_of (by rfl) T.b_list (by decide +kernel) (pa_cons (pe_c0 c_utilization hr (by decide) rfl (by exact (pa_cons (pv 2) (pa_cons (pv 3) (pa_cons (pe_gc2 rfl T.g_PERCENT) (pa_nil)))))) (pa_nil))))))
/-! ### option_number -/
def t_option_number (K : PySem.W.Frag) (A : Ad) (p_option_at p_need p_is_option_allowed p_weighted_number p_number_of : Sp) (E : XK) : TS :=
  tSeq (tAsg (tCall p_option_at [] E (tCons (tVar 0) (tCons (tOp (rIx K) (tVar 1) (tC (.int 0))) (tCons (tOp (rIx K) (tVar 1) (tC (.int 1))) (tNil))))) (gTup K 2 (gCons (gName 2) (gCons (gName 3) (gNil))))) (tSeq (tDrop (tCall p_need [] E (tCons (tCall p_is_option_allowed [] E0 (tCons (tVar 0) (tCons (tVar 2) (tCons (tVar 3) (tCons (tC (.int (100))) (tNil)))))) (tCons (tC (.int (-33))) (tNil))))) (tRet (tOp rAddA (tOp rAddA (tLst (tCons (tC (.int 0)) (tNil))) (tCB (rList1 K) (tCons (tCall p_number_of [] E0 (tCons (tVar 2) (tCons (tVar 3) (tCons (tC (.int (100))) (tNil))))) (tNil)))) (tCB (rList1 K) (tCons (tCall p_weighted_number [] E0 (tCons (tVar 2) (tCons (tVar 3) (tCons (tC (.int (100))) (tNil))))) (tNil))))))
theorem cal_option_number {p_option_at p_need p_is_option_allowed p_weighted_number p_number_of : Sp} {sp : Sp} (T : Txt K mg A) (c_option_at : CalX P w K mg base 5 "option_at" p_option_at) (c_need : CalX P w K mg base 3 "need" p_need) (c_is_option_allowed : Cal0 P w K mg base 4 "is_option_allowed" p_is_option_allowed) (c_weighted_number : Cal0 P w K mg base 6 "weighted_number" p_weighted_number) (c_number_of : Cal0 P w K mg base 5 "number_of" p_number_of) (len : ∀ vs H Q E, sp vs H Q E → vs.length = 2)
    (pu : ∀ vs H Q E, sp vs H Q E → t_option_number K A p_option_at p_need p_is_option_allowed p_weighted_number p_number_of E { nx := fun _ H' => Q .non H', rt := Q } (L2.start ["model", "given", "station", "option"] vs) H) :
    CalX P w K mg base 7 "option_number" sp := by
  obtain ⟨f, fd, F, g⟩ := T.f_option_number
  have nd := sc_option_number.nd
  refine ⟨f, fd, ["model", "given"], ?_, g, F.kp, F.binds fun _ _ _ _ _ _ us hl => match us, hl with | [_, _], _ => rfl⟩
  refine F.okX sc_option_number len fun cdv A' outer s H vs Q E hr h => ⟨t_option_number K A p_option_at p_need p_is_option_allowed p_weighted_number p_number_of E, ?_, pu vs H Q E h⟩
  have hx : Passes (L2.CX P w) (cxOf (L2.CX P w) P w K mg base ["model", "given", "station", "option"] "option_number" (defScope s_option_number) f cdv A' outer s H E) E := passes_call (takes_of rfl rfl rfl rfl) fun _ _ _ _ h => h
  exact pss_cons (ps_asg (pe_cx c_option_at hr (by decide) rfl hx (by exact (pa_cons (pv 0) (pa_cons (pe_ix ix_seq (pv 1) (pe_int) (fun _ _ => rfl)) (pa_cons (pe_ix ix_seq (pv 1) (pe_int) (fun _ _ => rfl)) (pa_nil)))))) (pg_tup rfl (pgs_cons (pg_name (i := 2) nd rfl (by first | exact Or.inl rfl | exact Or.inr rfl)) (pgs_cons (pg_name (i := 3) nd rfl (by first | exact Or.inl rfl | exact Or.inr rfl)) (pgs_nil)))))
      (pss_cons (ps_expr (pe_cx c_need hr (by decide) rfl hx (by exact (pa_cons (pe_c0 c_is_option_allowed hr (by decide) rfl (by exact (pa_cons (pv 0) (pa_cons (pv 2) (pa_cons (pv 3) (pa_cons (pe_gc2 rfl T.g_PERCENT) (pa_nil))))))) (pa_cons (pe_gc2 rfl T.g_NONE_SUCH) (pa_nil))))))
      (pss_one (ps_ret (pe_op op_addA (pe_op op_addA (pe_lst (pa_cons (pe_int) (pa_nil))) (pe_callTy call_list_of (by rfl) T.b_list (by decide +kernel) (pa_cons (pe_c0 c_number_of hr (by decide) rfl (by exact (pa_cons (pv 2) (pa_cons (pv 3) (pa_cons (pe_gc2 rfl T.g_PERCENT) (pa_nil)))))) (pa_nil)))) (pe_callTy call_list_of (by rfl) T.b_list (by decide +kernel) (pa_cons (pe_c0 c_weighted_number hr (by decide) rfl (by exact (pa_cons (pv 2) (pa_cons (pv 3) (pa_cons (pe_gc2 rfl T.g_PERCENT) (pa_nil)))))) (pa_nil)))))))
/-! ### listed -/
def t_listed (K : PySem.W.Frag) (A : Ad) : TS :=
  tRet (tOp rAddA (tLst (tCons (tCB (rLen1 K) (tCons (tVar 0) (tNil))) (tNil))) (tVar 0))
theorem cal_listed {sp : Sp} (T : Txt K mg A)  (len : ∀ vs H Q E, sp vs H Q E → vs.length = 1)
    (pu : ∀ vs H Q E, sp vs H Q E → t_listed K A   { nx := fun _ H' => Q .non H', rt := Q } (L2.start ["numbers"] vs) H) :
    Cal0 P w K mg base 1 "listed" sp := by
  obtain ⟨f, fd, F, g⟩ := T.f_listed
  have nd := sc_listed.nd
  refine ⟨f, fd, ["numbers"], ?_, g, F.kp, F.binds fun _ _ _ _ _ _ us hl => match us, hl with | [_], _ => rfl⟩
  refine F.ok sc_listed len fun cdv A' outer s H vs Q E hr h => ⟨t_listed K A  , ?_, pu vs H Q E h⟩
  exact pss_one (ps_ret (pe_op op_addA (pe_lst (pa_cons (pe_callB call_len_seq (by rfl) T.b_len PySem.boot_len (pa_cons (pv 0) (pa_nil))) (pa_nil))) (pv 0)))
/-! ### ask_allowed -/
def t_ask_allowed (K : PySem.W.Frag) (A : Ad) (p_listed p_allowed_options p_rows_of p_station_at : Sp) (E : XK) : TS :=
  tRet (tCall p_listed [] E0 (tCons (tCall p_allowed_options [] E0 (tCons (tCall p_rows_of [] E0 (tCons (tVar 0) (tCons (tCall p_station_at [] E (tCons (tVar 0) (tCons (tOp (rIx K) (tVar 1) (tC (.int 0))) (tNil)))) (tCons (tC (.int (100))) (tNil))))) (tNil))) (tNil)))
theorem cal_ask_allowed {p_listed p_allowed_options p_rows_of p_station_at : Sp} {sp : Sp} (T : Txt K mg A) (c_listed : Cal0 P w K mg base 1 "listed" p_listed) (c_allowed_options : Cal0 P w K mg base 1 "allowed_options" p_allowed_options) (c_rows_of : Cal0 P w K mg base 7 "rows_of" p_rows_of) (c_station_at : CalX P w K mg base 4 "station_at" p_station_at) (len : ∀ vs H Q E, sp vs H Q E → vs.length = 2)
    (pu : ∀ vs H Q E, sp vs H Q E → t_ask_allowed K A p_listed p_allowed_options p_rows_of p_station_at E { nx := fun _ H' => Q .non H', rt := Q } (L2.start ["model", "given"] vs) H) :
    CalX P w K mg base 8 "ask_allowed" sp := by
  obtain ⟨f, fd, F, g⟩ := T.f_ask_allowed
  have nd := sc_ask_allowed.nd
  refine ⟨f, fd, ["model", "given"], ?_, g, F.kp, F.binds fun _ _ _ _ _ _ us hl => match us, hl with | [_, _], _ => rfl⟩
  refine F.okX sc_ask_allowed len fun cdv A' outer s H vs Q E hr h => ⟨t_ask_allowed K A p_listed p_allowed_options p_rows_of p_station_at E, ?_, pu vs H Q E h⟩
  have hx : Passes (L2.CX P w) (cxOf (L2.CX P w) P w K mg base ["model", "given"] "ask_allowed" (defScope s_ask_allowed) f cdv A' outer s H E) E := passes_call (takes_of rfl rfl rfl rfl) fun _ _ _ _ h => h
  exact pss_one (ps_ret (pe_c0 c_listed hr (by decide) rfl (by exact (pa_cons (pe_c0 c_allowed_options hr (by decide) rfl (by exact (pa_cons (pe_c0 c_rows_of hr (by decide) rfl (by exact (pa_cons (pv 0) (pa_cons (pe_cx c_station_at hr (by decide) rfl hx (by exact (pa_cons (pv 0) (pa_cons (pe_ix ix_seq (pv 1) (pe_int) (fun _ _ => rfl)) (pa_nil))))) (pa_cons (pe_gc2 rfl T.g_PERCENT) (pa_nil)))))) (pa_nil)))) (pa_nil)))))
/-! ### ask_dominated -/
def t_ask_dominated (K : PySem.W.Frag) (A : Ad) (p_listed p_dominated_options p_rows_of p_station_at : Sp) (E : XK) : TS :=
  tRet (tCall p_listed [] E0 (tCons (tCall p_dominated_options [] E0 (tCons (tCall p_rows_of [] E0 (tCons (tVar 0) (tCons (tCall p_station_at [] E (tCons (tVar 0) (tCons (tOp (rIx K) (tVar 1) (tC (.int 0))) (tNil)))) (tCons (tC (.int (100))) (tNil))))) (tNil))) (tNil)))
theorem cal_ask_dominated {p_listed p_dominated_options p_rows_of p_station_at : Sp} {sp : Sp} (T : Txt K mg A) (c_listed : Cal0 P w K mg base 1 "listed" p_listed) (c_dominated_options : Cal0 P w K mg base 3 "dominated_options" p_dominated_options) (c_rows_of : Cal0 P w K mg base 7 "rows_of" p_rows_of) (c_station_at : CalX P w K mg base 4 "station_at" p_station_at) (len : ∀ vs H Q E, sp vs H Q E → vs.length = 2)
    (pu : ∀ vs H Q E, sp vs H Q E → t_ask_dominated K A p_listed p_dominated_options p_rows_of p_station_at E { nx := fun _ H' => Q .non H', rt := Q } (L2.start ["model", "given"] vs) H) :
    CalX P w K mg base 8 "ask_dominated" sp := by
  obtain ⟨f, fd, F, g⟩ := T.f_ask_dominated
  have nd := sc_ask_dominated.nd
  refine ⟨f, fd, ["model", "given"], ?_, g, F.kp, F.binds fun _ _ _ _ _ _ us hl => match us, hl with | [_, _], _ => rfl⟩
  refine F.okX sc_ask_dominated len fun cdv A' outer s H vs Q E hr h => ⟨t_ask_dominated K A p_listed p_dominated_options p_rows_of p_station_at E, ?_, pu vs H Q E h⟩
  have hx : Passes (L2.CX P w) (cxOf (L2.CX P w) P w K mg base ["model", "given"] "ask_dominated" (defScope s_ask_dominated) f cdv A' outer s H E) E := passes_call (takes_of rfl rfl rfl rfl) fun _ _ _ _ h => h
  exact pss_one (ps_ret (pe_c0 c_listed hr (by decide) rfl (by exact (pa_cons (pe_c0 c_dominated_options hr (by decide) rfl (by exact (pa_cons (pe_c0 c_rows_of hr (by decide) rfl (by exact (pa_cons (pv 0) (pa_cons (pe_cx c_station_at hr (by decide) rfl hx (by exact (pa_cons (pv 0) (pa_cons (pe_ix ix_seq (pv 1) (pe_int) (fun _ _ => rfl)) (pa_nil))))) (pa_cons (pe_gc2 rfl T.g_PERCENT) (pa_nil)))))) (pa_nil)))) (pa_nil)))))
/-! ### plan_value -/
def t_plan_value (K : PySem.W.Frag) (A : Ad) (p_need p_value_of p_is_plan : Sp) (E : XK) : TS :=
  tSeq (tDrop (tCall p_need [] E (tCons (tCall p_is_plan [] E0 (tCons (tVar 0) (tCons (tVar 2) (tNil)))) (tCons (tC (.int (-22))) (tNil))))) (tSeq (tAsg (tCall p_value_of [] E0 (tCons (tVar 1) (tCons (tVar 2) (tNil)))) (gName 3)) (tSeq (tDrop (tCall p_need [] E (tCons (tOp rNotN1 (tVar 3) (tC .non)) (tCons (tC (.int (-33))) (tNil))))) (tRet (tVar 3))))
theorem cal_plan_value {p_need p_value_of p_is_plan : Sp} {sp : Sp} (T : Txt K mg A) (c_need : CalX P w K mg base 3 "need" p_need) (c_value_of : Cal0 P w K mg base 5 "value_of" p_value_of) (c_is_plan : Cal0 P w K mg base 1 "is_plan" p_is_plan) (len : ∀ vs H Q E, sp vs H Q E → vs.length = 3)
    (pu : ∀ vs H Q E, sp vs H Q E → t_plan_value K A p_need p_value_of p_is_plan E { nx := fun _ H' => Q .non H', rt := Q } (L2.start ["model", "table", "plan", "value"] vs) H) :
    CalX P w K mg base 6 "plan_value" sp := by
  obtain ⟨f, fd, F, g⟩ := T.f_plan_value
  have nd := sc_plan_value.nd
  refine ⟨f, fd, ["model", "table", "plan"], ?_, g, F.kp, F.binds fun _ _ _ _ _ _ us hl => match us, hl with | [_, _, _], _ => rfl⟩
  refine F.okX sc_plan_value len fun cdv A' outer s H vs Q E hr h => ⟨t_plan_value K A p_need p_value_of p_is_plan E, ?_, pu vs H Q E h⟩
  have hx : Passes (L2.CX P w) (cxOf (L2.CX P w) P w K mg base ["model", "table", "plan", "value"] "plan_value" (defScope s_plan_value) f cdv A' outer s H E) E := passes_call (takes_of rfl rfl rfl rfl) fun _ _ _ _ h => h
  exact pss_cons (ps_expr (pe_cx c_need hr (by decide) rfl hx (by exact (pa_cons (pe_c0 c_is_plan hr (by decide) rfl (by exact (pa_cons (pv 0) (pa_cons (pv 2) (pa_nil))))) (pa_cons (pe_gc2 rfl T.g_OUT_OF_RANGE) (pa_nil))))))
      (pss_cons (ps_set (i := 3) nd rfl (by first | exact Or.inl rfl | exact Or.inr rfl) (pe_c0 c_value_of hr (by decide) rfl (by exact (pa_cons (pv 1) (pa_cons (pv 2) (pa_nil))))))
      (pss_cons (ps_expr (pe_cx c_need hr (by decide) rfl hx (by exact (pa_cons (pe_cmpR op_notN (pv 3) (pe_non) (by first | exact nomark _ | rfl)) (pa_cons (pe_gc2 rfl T.g_NONE_SUCH) (pa_nil))))))
      (pss_one (ps_ret (pv 3)))))
/-! ### evaluate -/
def t_evaluate (K : PySem.W.Frag) (A : Ad) (p_plan_value p_table_of p_is_feasible : Sp) (E : XK) : TS :=
  tSeq (tAsg (tCall p_plan_value [] E (tCons (tVar 0) (tCons (tCall p_table_of [] E0 (tCons (tVar 0) (tNil))) (tCons (tOp (rIx K) (tVar 1) (tC (.int 0))) (tNil))))) (gName 2)) (tRet (tOp rAddA (tOp rAddA (tLst (tCons (tOp (rIx K) (tVar 2) (tC (.int 0))) (tNil))) (tCB (rList1 K) (tCons (tOp (rIx K) (tVar 2) (tC (.int 1))) (tNil)))) (tLst (tCons (tCB (rInt1) (tCons (tCall p_is_feasible [] E0 (tCons (tVar 2) (tCons (tFld K (tVar 0) "target") (tNil)))) (tNil))) (tNil)))))
theorem cal_evaluate {p_plan_value p_table_of p_is_feasible : Sp} {sp : Sp} (T : Txt K mg A) (c_plan_value : CalX P w K mg base 6 "plan_value" p_plan_value) (c_table_of : Cal0 P w K mg base 8 "table_of" p_table_of) (c_is_feasible : Cal0 P w K mg base 2 "is_feasible" p_is_feasible) (len : ∀ vs H Q E, sp vs H Q E → vs.length = 2)
    (pu : ∀ vs H Q E, sp vs H Q E → t_evaluate K A p_plan_value p_table_of p_is_feasible E { nx := fun _ H' => Q .non H', rt := Q } (L2.start ["model", "given", "value"] vs) H) :
    CalX P w K mg base 9 "evaluate" sp := by
  obtain ⟨f, fd, F, g⟩ := T.f_evaluate
  have nd := sc_evaluate.nd
  refine ⟨f, fd, ["model", "given"], ?_, g, F.kp, F.binds fun _ _ _ _ _ _ us hl => match us, hl with | [_, _], _ => rfl⟩
  refine F.okX sc_evaluate len fun cdv A' outer s H vs Q E hr h => ⟨t_evaluate K A p_plan_value p_table_of p_is_feasible E, ?_, pu vs H Q E h⟩
  have hx : Passes (L2.CX P w) (cxOf (L2.CX P w) P w K mg base ["model", "given", "value"] "evaluate" (defScope s_evaluate) f cdv A' outer s H E) E := passes_call (takes_of rfl rfl rfl rfl) fun _ _ _ _ h => h
  exact pss_cons (ps_set (i := 2) nd rfl (by first | exact Or.inl rfl | exact Or.inr rfl) (pe_cx c_plan_value hr (by decide) rfl hx (by exact (pa_cons (pv 0) (pa_cons (pe_c0 c_table_of hr (by decide) rfl (by exact (pa_cons (pv 0) (pa_nil)))) (pa_cons (pe_ix ix_seq (pv 1) (pe_int) (fun _ _ => rfl)) (pa_nil)))))))
      (pss_one (ps_ret (pe_op op_addA (pe_op op_addA (pe_lst (pa_cons (pe_ix ix_seq (pv 2) (pe_int) (fun _ _ => rfl)) (pa_nil))) (pe_callTy call_list_of (by rfl) T.b_list (by decide +kernel) (pa_cons (pe_ix ix_seq (pv 2) (pe_int) (fun _ _ => rfl)) (pa_nil)))) (pe_lst (pa_cons (pe_callTy call_int1 (by rfl) T.b_int (by decide +kernel) (pa_cons (pe_c0 c_is_feasible hr (by decide) rfl (by exact (pa_cons (pv 2) (pa_cons (pe_fld (pv 0) rfl) (pa_nil))))) (pa_nil))) (pa_nil))))))
/-! ### shown -/
def t_shown (K : PySem.W.Frag) (A : Ad) (p_need : Sp) (E : XK) : TS :=
  tSeq (tDrop (tCall p_need [] E (tCons (tOp rNotN1 (tVar 0) (tC .non)) (tCons (tC (.int (-33))) (tNil))))) (tSeq (tAsg (tVar 0) (gTup K 2 (gCons (gName 1) (gCons (gName 2) (gNil))))) (tRet (tOp rAddA (tOp rAddA (tLst (tCons (tOp (rIx K) (tVar 1) (tC (.int 0))) (tNil))) (tCB (rList1 K) (tCons (tOp (rIx K) (tVar 1) (tC (.int 1))) (tNil)))) (tVar 2))))
theorem cal_shown {p_need : Sp} {sp : Sp} (T : Txt K mg A) (c_need : CalX P w K mg base 3 "need" p_need) (len : ∀ vs H Q E, sp vs H Q E → vs.length = 1)
    (pu : ∀ vs H Q E, sp vs H Q E → t_shown K A p_need E { nx := fun _ H' => Q .non H', rt := Q } (L2.start ["found", "value", "plan"] vs) H) :
    CalX P w K mg base 4 "shown" sp := by
  obtain ⟨f, fd, F, g⟩ := T.f_shown
  have nd := sc_shown.nd
  refine ⟨f, fd, ["found"], ?_, g, F.kp, F.binds fun _ _ _ _ _ _ us hl => match us, hl with | [_], _ => rfl⟩
  refine F.okX sc_shown len fun cdv A' outer s H vs Q E hr h => ⟨t_shown K A p_need E, ?_, pu vs H Q E h⟩
  have hx : Passes (L2.CX P w) (cxOf (L2.CX P w) P w K mg base ["found", "value", "plan"] "shown" (defScope s_shown) f cdv A' outer s H E) E := passes_call (takes_of rfl rfl rfl rfl) fun _ _ _ _ h => h
  exact pss_cons (ps_expr (pe_cx c_need hr (by decide) rfl hx (by exact (pa_cons (pe_cmpR op_notN (pv 0) (pe_non) (by first | exact nomark _ | rfl)) (pa_cons (pe_gc2 rfl T.g_NONE_SUCH) (pa_nil))))))
      (pss_cons (ps_asg (pv 0) (pg_tup rfl (pgs_cons (pg_name (i := 1) nd rfl (by first | exact Or.inl rfl | exact Or.inr rfl)) (pgs_cons (pg_name (i := 2) nd rfl (by first | exact Or.inl rfl | exact Or.inr rfl)) (pgs_nil)))))
      (pss_one (ps_ret (pe_op op_addA (pe_op op_addA (pe_lst (pa_cons (pe_ix ix_seq (pv 1) (pe_int) (fun _ _ => rfl)) (pa_nil))) (pe_callTy call_list_of (by rfl) T.b_list (by decide +kernel) (pa_cons (pe_ix ix_seq (pv 1) (pe_int) (fun _ _ => rfl)) (pa_nil)))) (pv 2)))))
/-! ### ask_best -/
def t_ask_best (K : PySem.W.Frag) (A : Ad) (p_shown p_best_plan p_table_of : Sp) (E : XK) : TS :=
  tRet (tCall p_shown [] E (tCons (tCall p_best_plan [] E0 (tCons (tCall p_table_of [] E0 (tCons (tVar 0) (tNil))) (tCons (tFld K (tVar 0) "target") (tNil)))) (tNil)))
theorem cal_ask_best {p_shown p_best_plan p_table_of : Sp} {sp : Sp} (T : Txt K mg A) (c_shown : CalX P w K mg base 4 "shown" p_shown) (c_best_plan : Cal0 P w K mg base 7 "best_plan" p_best_plan) (c_table_of : Cal0 P w K mg base 8 "table_of" p_table_of) (len : ∀ vs H Q E, sp vs H Q E → vs.length = 2)
    (pu : ∀ vs H Q E, sp vs H Q E → t_ask_best K A p_shown p_best_plan p_table_of E { nx := fun _ H' => Q .non H', rt := Q } (L2.start ["model", "given"] vs) H) :
    CalX P w K mg base 9 "ask_best" sp := by
  obtain ⟨f, fd, F, g⟩ := T.f_ask_best
  have nd := sc_ask_best.nd
  refine ⟨f, fd, ["model", "given"], ?_, g, F.kp, F.binds fun _ _ _ _ _ _ us hl => match us, hl with | [_, _], _ => rfl⟩
  refine F.okX sc_ask_best len fun cdv A' outer s H vs Q E hr h => ⟨t_ask_best K A p_shown p_best_plan p_table_of E, ?_, pu vs H Q E h⟩
  have hx : Passes (L2.CX P w) (cxOf (L2.CX P w) P w K mg base ["model", "given"] "ask_best" (defScope s_ask_best) f cdv A' outer s H E) E := passes_call (takes_of rfl rfl rfl rfl) fun _ _ _ _ h => h
  exact pss_one (ps_ret (pe_cx c_shown hr (by decide) rfl hx (by exact (pa_cons (pe_c0 c_best_plan hr (by decide) rfl (by exact (pa_cons (pe_c0 c_table_of hr (by decide) rfl (by exact (pa_cons (pv 0) (pa_nil)))) (pa_cons (pe_fld (pv 0) rfl) (pa_nil))))) (pa_nil)))))
/-! ### best_for -/
def t_best_for (K : PySem.W.Frag) (A : Ad) (p_fraction_in p_shown p_best_plan p_table_of : Sp) (E : XK) : TS :=
  tSeq (tAsg (tCall p_fraction_in [] E (tCons (tOp (rIx K) (tVar 1) (tC (.int 0))) (tCons (tOp (rIx K) (tVar 1) (tC (.int 1))) (tNil)))) (gName 2)) (tRet (tCall p_shown [] E (tCons (tCall p_best_plan [] E0 (tCons (tCall p_table_of [] E0 (tCons (tVar 0) (tNil))) (tCons (tVar 2) (tNil)))) (tNil))))
theorem cal_best_for {p_fraction_in p_shown p_best_plan p_table_of : Sp} {sp : Sp} (T : Txt K mg A) (c_fraction_in : CalX P w K mg base 4 "fraction_in" p_fraction_in) (c_shown : CalX P w K mg base 4 "shown" p_shown) (c_best_plan : Cal0 P w K mg base 7 "best_plan" p_best_plan) (c_table_of : Cal0 P w K mg base 8 "table_of" p_table_of) (len : ∀ vs H Q E, sp vs H Q E → vs.length = 2)
    (pu : ∀ vs H Q E, sp vs H Q E → t_best_for K A p_fraction_in p_shown p_best_plan p_table_of E { nx := fun _ H' => Q .non H', rt := Q } (L2.start ["model", "given", "target"] vs) H) :
    CalX P w K mg base 9 "best_for" sp := by
  obtain ⟨f, fd, F, g⟩ := T.f_best_for
  have nd := sc_best_for.nd
  refine ⟨f, fd, ["model", "given"], ?_, g, F.kp, F.binds fun _ _ _ _ _ _ us hl => match us, hl with | [_, _], _ => rfl⟩
  refine F.okX sc_best_for len fun cdv A' outer s H vs Q E hr h => ⟨t_best_for K A p_fraction_in p_shown p_best_plan p_table_of E, ?_, pu vs H Q E h⟩
  have hx : Passes (L2.CX P w) (cxOf (L2.CX P w) P w K mg base ["model", "given", "target"] "best_for" (defScope s_best_for) f cdv A' outer s H E) E := passes_call (takes_of rfl rfl rfl rfl) fun _ _ _ _ h => h
  exact pss_cons (ps_set (i := 2) nd rfl (by first | exact Or.inl rfl | exact Or.inr rfl) (pe_cx c_fraction_in hr (by decide) rfl hx (by exact (pa_cons (pe_ix ix_seq (pv 1) (pe_int) (fun _ _ => rfl)) (pa_cons (pe_ix ix_seq (pv 1) (pe_int) (fun _ _ => rfl)) (pa_nil))))))
      (pss_one (ps_ret (pe_cx c_shown hr (by decide) rfl hx (by exact (pa_cons (pe_c0 c_best_plan hr (by decide) rfl (by exact (pa_cons (pe_c0 c_table_of hr (by decide) rfl (by exact (pa_cons (pv 0) (pa_nil)))) (pa_cons (pv 2) (pa_nil))))) (pa_nil))))))
/-! ### ask_frontier -/
def t_ask_frontier (K : PySem.W.Frag) (A : Ad) (p_frontier p_table_of p_shown : Sp) : TS :=
  tSeq (tAsg (tCall p_frontier [] E0 (tCons (tCall p_table_of [] E0 (tCons (tVar 0) (tNil))) (tNil))) (gName 2)) (tSeq (tAsg (tLst (tCons (tCB (rLen1 K) (tCons (tVar 2) (tNil))) (tNil))) (gName 3)) (tSeq (tFor (iList K (tVar 2)) (gName 4) (tDrop (tBM K "list" rExtend (tVar 3) (tCons (tCall p_shown [] E0 (tCons (tVar 4) (tNil))) (tNil))))) (tRet (tVar 3))))
theorem cal_ask_frontier {p_frontier p_table_of p_shown : Sp} {sp : Sp} (T : Txt K mg A) (c_frontier : Cal0 P w K mg base 7 "frontier" p_frontier) (c_table_of : Cal0 P w K mg base 8 "table_of" p_table_of) (c_shown : CalX P w K mg base 4 "shown" p_shown) (len : ∀ vs H Q E, sp vs H Q E → vs.length = 2)
    (pu : ∀ vs H Q E, sp vs H Q E → t_ask_frontier K A p_frontier p_table_of p_shown  { nx := fun _ H' => Q .non H', rt := Q } (L2.start ["model", "given", "rows", "found", "row"] vs) H) :
    Cal0 P w K mg base 9 "ask_frontier" sp := by
  obtain ⟨f, fd, F, g⟩ := T.f_ask_frontier
  have nd := sc_ask_frontier.nd
  refine ⟨f, fd, ["model", "given"], ?_, g, F.kp, F.binds fun _ _ _ _ _ _ us hl => match us, hl with | [_, _], _ => rfl⟩
  refine F.ok sc_ask_frontier len fun cdv A' outer s H vs Q E hr h => ⟨t_ask_frontier K A p_frontier p_table_of p_shown , ?_, pu vs H Q E h⟩
  exact pss_cons (ps_set (i := 2) nd rfl (by first | exact Or.inl rfl | exact Or.inr rfl) (pe_c0 c_frontier hr (by decide) rfl (by exact (pa_cons (pe_c0 c_table_of hr (by decide) rfl (by exact (pa_cons (pv 0) (pa_nil)))) (pa_nil)))))
      (pss_cons (ps_set (i := 3) nd rfl (by first | exact Or.inl rfl | exact Or.inr rfl) (pe_lst (pa_cons (pe_callB call_len_seq (by rfl) T.b_len PySem.boot_len (pa_cons (pv 2) (pa_nil))) (pa_nil))))
      (pss_cons (ps_for PassesOwn.never rfl (pi_list (pv 2)) (pg_name (i := 4) nd rfl (by first | exact Or.inl rfl | exact Or.inr rfl)) (pss_one (ps_expr (pe_bm PySem.F.plainAttrs_list PySem.F.slot_list_extend PySem.F.type_list_extend mt_extend (pv 3) (pa_cons (pe_cx c_shown hr (by decide) rfl passL (by exact (pa_cons (pv 4) (pa_nil)))) (pa_nil))))))
      (pss_one (ps_ret (pv 3)))))
/-! ### ask_counts -/
def t_ask_counts (K : PySem.W.Frag) (A : Ad) (p_counted p_table_of : Sp) : TS :=
  tRet (tCall p_counted [] E0 (tCons (tCall p_table_of [] E0 (tCons (tVar 0) (tNil))) (tCons (tFld K (tVar 0) "target") (tNil))))
theorem cal_ask_counts {p_counted p_table_of : Sp} {sp : Sp} (T : Txt K mg A) (c_counted : Cal0 P w K mg base 6 "counted" p_counted) (c_table_of : Cal0 P w K mg base 8 "table_of" p_table_of) (len : ∀ vs H Q E, sp vs H Q E → vs.length = 2)
    (pu : ∀ vs H Q E, sp vs H Q E → t_ask_counts K A p_counted p_table_of  { nx := fun _ H' => Q .non H', rt := Q } (L2.start ["model", "given"] vs) H) :
    Cal0 P w K mg base 9 "ask_counts" sp := by
  obtain ⟨f, fd, F, g⟩ := T.f_ask_counts
  have nd := sc_ask_counts.nd
  refine ⟨f, fd, ["model", "given"], ?_, g, F.kp, F.binds fun _ _ _ _ _ _ us hl => match us, hl with | [_, _], _ => rfl⟩
  refine F.ok sc_ask_counts len fun cdv A' outer s H vs Q E hr h => ⟨t_ask_counts K A p_counted p_table_of , ?_, pu vs H Q E h⟩
  exact pss_one (ps_ret (pe_c0 c_counted hr (by decide) rfl (by exact (pa_cons (pe_c0 c_table_of hr (by decide) rfl (by exact (pa_cons (pv 0) (pa_nil)))) (pa_cons (pe_fld (pv 0) rfl) (pa_nil))))))
/-! ### ask_bound -/
def t_ask_bound (K : PySem.W.Frag) (A : Ad) (p_need p_fraction_in p_table_of p_has_all p_bound_for : Sp) (E : XK) : TS :=
  tSeq (tPar 2 3 (tCons (tCall p_fraction_in [] E (tCons (tOp (rIx K) (tVar 1) (tC (.int 0))) (tCons (tOp (rIx K) (tVar 1) (tC (.int 1))) (tNil)))) (tCons (tCall p_table_of [] E0 (tCons (tVar 0) (tNil))) (tNil)))) (tSeq (tDrop (tCall p_need [] E (tCons (tCall p_has_all [] E0 (tCons (tVar 3) (tNil))) (tCons (tC (.int (-33))) (tNil))))) (tRet (tOp rAddA (tLst (tCons (tC (.int 0)) (tNil))) (tCB (rList1 K) (tCons (tCall p_bound_for [] E0 (tCons (tVar 3) (tCons (tFld K (tVar 0) "target") (tCons (tVar 2) (tNil))))) (tNil))))))
theorem cal_ask_bound {p_need p_fraction_in p_table_of p_has_all p_bound_for : Sp} {sp : Sp} (T : Txt K mg A) (c_need : CalX P w K mg base 3 "need" p_need) (c_fraction_in : CalX P w K mg base 4 "fraction_in" p_fraction_in) (c_table_of : Cal0 P w K mg base 8 "table_of" p_table_of) (c_has_all : Cal0 P w K mg base 1 "has_all" p_has_all) (c_bound_for : Cal0 P w K mg base 5 "bound_for" p_bound_for) (len : ∀ vs H Q E, sp vs H Q E → vs.length = 2)
    (pu : ∀ vs H Q E, sp vs H Q E → t_ask_bound K A p_need p_fraction_in p_table_of p_has_all p_bound_for E { nx := fun _ H' => Q .non H', rt := Q } (L2.start ["model", "given", "multiplier", "table"] vs) H) :
    CalX P w K mg base 9 "ask_bound" sp := by
  obtain ⟨f, fd, F, g⟩ := T.f_ask_bound
  have nd := sc_ask_bound.nd
  refine ⟨f, fd, ["model", "given"], ?_, g, F.kp, F.binds fun _ _ _ _ _ _ us hl => match us, hl with | [_, _], _ => rfl⟩
  refine F.okX sc_ask_bound len fun cdv A' outer s H vs Q E hr h => ⟨t_ask_bound K A p_need p_fraction_in p_table_of p_has_all p_bound_for E, ?_, pu vs H Q E h⟩
  have hx : Passes (L2.CX P w) (cxOf (L2.CX P w) P w K mg base ["model", "given", "multiplier", "table"] "ask_bound" (defScope s_ask_bound) f cdv A' outer s H E) E := passes_call (takes_of rfl rfl rfl rfl) fun _ _ _ _ h => h
  exact pss_cons (ps_par (i := 2) (j := 3) rfl nd rfl rfl (by decide) rfl rfl (pa_cons (pe_cx c_fraction_in hr (by decide) rfl hx (by exact (pa_cons (pe_ix ix_seq (pv 1) (pe_int) (fun _ _ => rfl)) (pa_cons (pe_ix ix_seq (pv 1) (pe_int) (fun _ _ => rfl)) (pa_nil))))) (pa_cons (pe_c0 c_table_of hr (by decide) rfl (by exact (pa_cons (pv 0) (pa_nil)))) (pa_nil))) (by rfl))
      (pss_cons (ps_expr (pe_cx c_need hr (by decide) rfl hx (by exact (pa_cons (pe_c0 c_has_all hr (by decide) rfl (by exact (pa_cons (pv 3) (pa_nil)))) (pa_cons (pe_gc2 rfl T.g_NONE_SUCH) (pa_nil))))))
      (pss_one (ps_ret (pe_op op_addA (pe_lst (pa_cons (pe_int) (pa_nil))) (pe_callTy call_list_of (by rfl) T.b_list (by decide +kernel) (pa_cons (pe_c0 c_bound_for hr (by decide) rfl (by exact (pa_cons (pv 3) (pa_cons (pe_fld (pv 0) rfl) (pa_cons (pv 2) (pa_nil)))))) (pa_nil)))))))
/-! ### ask_best_bound -/
def t_ask_best_bound (K : PySem.W.Frag) (A : Ad) (p_table_of p_need p_best_bound p_has_all : Sp) (E : XK) : TS :=
  tSeq (tAsg (tCall p_table_of [] E0 (tCons (tVar 0) (tNil))) (gName 2)) (tSeq (tDrop (tCall p_need [] E (tCons (tCall p_has_all [] E0 (tCons (tVar 2) (tNil))) (tCons (tC (.int (-33))) (tNil))))) (tSeq (tAsg (tCall p_best_bound [] E0 (tCons (tVar 2) (tCons (tFld K (tVar 0) "target") (tNil)))) (gTup K 2 (gCons (gName 3) (gCons (gName 4) (gNil))))) (tRet (tOp rAddA (tOp rAddA (tLst (tCons (tC (.int 0)) (tNil))) (tCB (rList1 K) (tCons (tVar 3) (tNil)))) (tCB (rList1 K) (tCons (tVar 4) (tNil)))))))
theorem cal_ask_best_bound {p_table_of p_need p_best_bound p_has_all : Sp} {sp : Sp} (T : Txt K mg A) (c_table_of : Cal0 P w K mg base 8 "table_of" p_table_of) (c_need : CalX P w K mg base 3 "need" p_need) (c_best_bound : Cal0 P w K mg base 6 "best_bound" p_best_bound) (c_has_all : Cal0 P w K mg base 1 "has_all" p_has_all) (len : ∀ vs H Q E, sp vs H Q E → vs.length = 2)
    (pu : ∀ vs H Q E, sp vs H Q E → t_ask_best_bound K A p_table_of p_need p_best_bound p_has_all E { nx := fun _ H' => Q .non H', rt := Q } (L2.start ["model", "given", "table", "point", "bound"] vs) H) :
    CalX P w K mg base 9 "ask_best_bound" sp := by
  obtain ⟨f, fd, F, g⟩ := T.f_ask_best_bound
  have nd := sc_ask_best_bound.nd
  refine ⟨f, fd, ["model", "given"], ?_, g, F.kp, F.binds fun _ _ _ _ _ _ us hl => match us, hl with | [_, _], _ => rfl⟩
  refine F.okX sc_ask_best_bound len fun cdv A' outer s H vs Q E hr h => ⟨t_ask_best_bound K A p_table_of p_need p_best_bound p_has_all E, ?_, pu vs H Q E h⟩
  have hx : Passes (L2.CX P w) (cxOf (L2.CX P w) P w K mg base ["model", "given", "table", "point", "bound"] "ask_best_bound" (defScope s_ask_best_bound) f cdv A' outer s H E) E := passes_call (takes_of rfl rfl rfl rfl) fun _ _ _ _ h => h
  exact pss_cons (ps_set (i := 2) nd rfl (by first | exact Or.inl rfl | exact Or.inr rfl) (pe_c0 c_table_of hr (by decide) rfl (by exact (pa_cons (pv 0) (pa_nil)))))
      (pss_cons (ps_expr (pe_cx c_need hr (by decide) rfl hx (by exact (pa_cons (pe_c0 c_has_all hr (by decide) rfl (by exact (pa_cons (pv 2) (pa_nil)))) (pa_cons (pe_gc2 rfl T.g_NONE_SUCH) (pa_nil))))))
      (pss_cons (ps_asg (pe_c0 c_best_bound hr (by decide) rfl (by exact (pa_cons (pv 2) (pa_cons (pe_fld (pv 0) rfl) (pa_nil))))) (pg_tup rfl (pgs_cons (pg_name (i := 3) nd rfl (by first | exact Or.inl rfl | exact Or.inr rfl)) (pgs_cons (pg_name (i := 4) nd rfl (by first | exact Or.inl rfl | exact Or.inr rfl)) (pgs_nil)))))
      (pss_one (ps_ret (pe_op op_addA (pe_op op_addA (pe_lst (pa_cons (pe_int) (pa_nil))) (pe_callTy call_list_of (by rfl) T.b_list (by decide +kernel) (pa_cons (pv 3) (pa_nil)))) (pe_callTy call_list_of (by rfl) T.b_list (by decide +kernel) (pa_cons (pv 4) (pa_nil))))))))
/-! ### improvement -/
def t_improvement (K : PySem.W.Frag) (A : Ad) (p_table_of p_plan_value p_shown p_improved : Sp) (E : XK) : TS :=
  tSeq (tAsg (tCall p_table_of [] E0 (tCons (tVar 0) (tNil))) (gName 2)) (tSeq (tDrop (tCall p_plan_value [] E (tCons (tVar 0) (tCons (tVar 2) (tCons (tOp (rIx K) (tVar 1) (tC (.int 0))) (tNil)))))) (tRet (tCall p_shown [] E (tCons (tCall p_improved [] E0 (tCons (tVar 2) (tCons (tOp (rIx K) (tVar 1) (tC (.int 0))) (tCons (tFld K (tVar 0) "target") (tNil))))) (tNil)))))
theorem cal_improvement {p_table_of p_plan_value p_shown p_improved : Sp} {sp : Sp} (T : Txt K mg A) (c_table_of : Cal0 P w K mg base 8 "table_of" p_table_of) (c_plan_value : CalX P w K mg base 6 "plan_value" p_plan_value) (c_shown : CalX P w K mg base 4 "shown" p_shown) (c_improved : Cal0 P w K mg base 7 "improved" p_improved) (len : ∀ vs H Q E, sp vs H Q E → vs.length = 2)
    (pu : ∀ vs H Q E, sp vs H Q E → t_improvement K A p_table_of p_plan_value p_shown p_improved E { nx := fun _ H' => Q .non H', rt := Q } (L2.start ["model", "given", "table"] vs) H) :
    CalX P w K mg base 9 "improvement" sp := by
  obtain ⟨f, fd, F, g⟩ := T.f_improvement
  have nd := sc_improvement.nd
  refine ⟨f, fd, ["model", "given"], ?_, g, F.kp, F.binds fun _ _ _ _ _ _ us hl => match us, hl with | [_, _], _ => rfl⟩
  refine F.okX sc_improvement len fun cdv A' outer s H vs Q E hr h => ⟨t_improvement K A p_table_of p_plan_value p_shown p_improved E, ?_, pu vs H Q E h⟩
  have hx : Passes (L2.CX P w) (cxOf (L2.CX P w) P w K mg base ["model", "given", "table"] "improvement" (defScope s_improvement) f cdv A' outer s H E) E := passes_call (takes_of rfl rfl rfl rfl) fun _ _ _ _ h => h
  exact pss_cons (ps_set (i := 2) nd rfl (by first | exact Or.inl rfl | exact Or.inr rfl) (pe_c0 c_table_of hr (by decide) rfl (by exact (pa_cons (pv 0) (pa_nil)))))
      (pss_cons (ps_expr (pe_cx c_plan_value hr (by decide) rfl hx (by exact (pa_cons (pv 0) (pa_cons (pv 2) (pa_cons (pe_ix ix_seq (pv 1) (pe_int) (fun _ _ => rfl)) (pa_nil)))))))
      (pss_one (ps_ret (pe_cx c_shown hr (by decide) rfl hx (by exact (pa_cons (pe_c0 c_improved hr (by decide) rfl (by exact (pa_cons (pv 2) (pa_cons (pe_ix ix_seq (pv 1) (pe_int) (fun _ _ => rfl)) (pa_cons (pe_fld (pv 0) rfl) (pa_nil)))))) (pa_nil)))))))
/-! ### reserve -/
def t_reserve (K : PySem.W.Frag) (A : Ad) (p_need p_reserve_of p_is_plan p_is_allowed_now : Sp) (E : XK) : TS :=
  tSeq (tDrop (tCall p_need [] E (tCons (tCall p_is_plan [] E0 (tCons (tVar 0) (tCons (tOp (rIx K) (tVar 1) (tC (.int 0))) (tNil)))) (tCons (tC (.int (-22))) (tNil))))) (tSeq (tDrop (tCall p_need [] E (tCons (tCall p_is_allowed_now [] E0 (tCons (tVar 0) (tCons (tOp (rIx K) (tVar 1) (tC (.int 0))) (tNil)))) (tCons (tC (.int (-33))) (tNil))))) (tSeq (tAsg (tCall p_reserve_of [] E0 (tCons (tVar 0) (tCons (tOp (rIx K) (tVar 1) (tC (.int 0))) (tNil)))) (gName 2)) (tSeq (tDrop (tCall p_need [] E (tCons (tOp rNotN1 (tVar 2) (tC .non)) (tCons (tC (.int (-33))) (tNil))))) (tRet (tLst (tCons (tVar 2) (tNil)))))))
theorem cal_reserve {p_need p_reserve_of p_is_plan p_is_allowed_now : Sp} {sp : Sp} (T : Txt K mg A) (c_need : CalX P w K mg base 3 "need" p_need) (c_reserve_of : Cal0 P w K mg base 8 "reserve_of" p_reserve_of) (c_is_plan : Cal0 P w K mg base 1 "is_plan" p_is_plan) (c_is_allowed_now : Cal0 P w K mg base 5 "is_allowed_now" p_is_allowed_now) (len : ∀ vs H Q E, sp vs H Q E → vs.length = 2)
    (pu : ∀ vs H Q E, sp vs H Q E → t_reserve K A p_need p_reserve_of p_is_plan p_is_allowed_now E { nx := fun _ H' => Q .non H', rt := Q } (L2.start ["model", "given", "percent"] vs) H) :
    CalX P w K mg base 9 "reserve" sp := by
  obtain ⟨f, fd, F, g⟩ := T.f_reserve
  have nd := sc_reserve.nd
  refine ⟨f, fd, ["model", "given"], ?_, g, F.kp, F.binds fun _ _ _ _ _ _ us hl => match us, hl with | [_, _], _ => rfl⟩
  refine F.okX sc_reserve len fun cdv A' outer s H vs Q E hr h => ⟨t_reserve K A p_need p_reserve_of p_is_plan p_is_allowed_now E, ?_, pu vs H Q E h⟩
  have hx : Passes (L2.CX P w) (cxOf (L2.CX P w) P w K mg base ["model", "given", "percent"] "reserve" (defScope s_reserve) f cdv A' outer s H E) E := passes_call (takes_of rfl rfl rfl rfl) fun _ _ _ _ h => h
  exact pss_cons (ps_expr (pe_cx c_need hr (by decide) rfl hx (by exact (pa_cons (pe_c0 c_is_plan hr (by decide) rfl (by exact (pa_cons (pv 0) (pa_cons (pe_ix ix_seq (pv 1) (pe_int) (fun _ _ => rfl)) (pa_nil))))) (pa_cons (pe_gc2 rfl T.g_OUT_OF_RANGE) (pa_nil))))))
      (pss_cons (ps_expr (pe_cx c_need hr (by decide) rfl hx (by exact (pa_cons (pe_c0 c_is_allowed_now hr (by decide) rfl (by exact (pa_cons (pv 0) (pa_cons (pe_ix ix_seq (pv 1) (pe_int) (fun _ _ => rfl)) (pa_nil))))) (pa_cons (pe_gc2 rfl T.g_NONE_SUCH) (pa_nil))))))
      (pss_cons (ps_set (i := 2) nd rfl (by first | exact Or.inl rfl | exact Or.inr rfl) (pe_c0 c_reserve_of hr (by decide) rfl (by exact (pa_cons (pv 0) (pa_cons (pe_ix ix_seq (pv 1) (pe_int) (fun _ _ => rfl)) (pa_nil))))))
      (pss_cons (ps_expr (pe_cx c_need hr (by decide) rfl hx (by exact (pa_cons (pe_cmpR op_notN (pv 2) (pe_non) (by first | exact nomark _ | rfl)) (pa_cons (pe_gc2 rfl T.g_NONE_SUCH) (pa_nil))))))
      (pss_one (ps_ret (pe_lst (pa_cons (pv 2) (pa_nil))))))))
/-! ### compare_plans -/
def t_compare_plans (K : PySem.W.Frag) (A : Ad) (p_need p_table_of p_plan_value p_dominates p_is_plan p_minus : Sp) (E : XK) : TS :=
  tSeq (tDrop (tCall p_need [] E (tCons (tAndV (tCall p_is_plan [] E0 (tCons (tVar 0) (tCons (tOp (rIx K) (tVar 1) (tC (.int 0))) (tNil)))) (tCall p_is_plan [] E0 (tCons (tVar 0) (tCons (tOp (rIx K) (tVar 1) (tC (.int 1))) (tNil))))) (tCons (tC (.int (-22))) (tNil))))) (tSeq (tAsg (tCall p_table_of [] E0 (tCons (tVar 0) (tNil))) (gName 2)) (tSeq (tPar 3 4 (tCons (tCall p_plan_value [] E (tCons (tVar 0) (tCons (tVar 2) (tCons (tOp (rIx K) (tVar 1) (tC (.int 0))) (tNil))))) (tCons (tCall p_plan_value [] E (tCons (tVar 0) (tCons (tVar 2) (tCons (tOp (rIx K) (tVar 1) (tC (.int 1))) (tNil))))) (tNil)))) (tSeq (tAsg (tIf (tB (tCall p_dominates [] E0 (tCons (tVar 3) (tCons (tVar 4) (tNil))))) (tC (.int 1)) (tIf (tB (tCall p_dominates [] E0 (tCons (tVar 4) (tCons (tVar 3) (tNil))))) (tC (.int 2)) (tC (.int 0)))) (gName 5)) (tRet (tOp rAddA (tLst (tCons (tVar 5) (tCons (tOp rSubA (tOp (rIx K) (tVar 4) (tC (.int 0))) (tOp (rIx K) (tVar 3) (tC (.int 0)))) (tNil)))) (tCB (rList1 K) (tCons (tCall p_minus [] E0 (tCons (tOp (rIx K) (tVar 4) (tC (.int 1))) (tCons (tOp (rIx K) (tVar 3) (tC (.int 1))) (tNil)))) (tNil))))))))
theorem cal_compare_plans {p_need p_table_of p_plan_value p_dominates p_is_plan p_minus : Sp} {sp : Sp} (T : Txt K mg A) (c_need : CalX P w K mg base 3 "need" p_need) (c_table_of : Cal0 P w K mg base 8 "table_of" p_table_of) (c_plan_value : CalX P w K mg base 6 "plan_value" p_plan_value) (c_dominates : Cal0 P w K mg base 2 "dominates" p_dominates) (c_is_plan : Cal0 P w K mg base 1 "is_plan" p_is_plan) (c_minus : Cal0 P w K mg base 3 "minus" p_minus) (len : ∀ vs H Q E, sp vs H Q E → vs.length = 2)
    (pu : ∀ vs H Q E, sp vs H Q E → t_compare_plans K A p_need p_table_of p_plan_value p_dominates p_is_plan p_minus E { nx := fun _ H' => Q .non H', rt := Q } (L2.start ["model", "given", "table", "first", "second", "result"] vs) H) :
    CalX P w K mg base 9 "compare_plans" sp := by
  obtain ⟨f, fd, F, g⟩ := T.f_compare_plans
  have nd := sc_compare_plans.nd
  refine ⟨f, fd, ["model", "given"], ?_, g, F.kp, F.binds fun _ _ _ _ _ _ us hl => match us, hl with | [_, _], _ => rfl⟩
  refine F.okX sc_compare_plans len fun cdv A' outer s H vs Q E hr h => ⟨t_compare_plans K A p_need p_table_of p_plan_value p_dominates p_is_plan p_minus E, ?_, pu vs H Q E h⟩
  have hx : Passes (L2.CX P w) (cxOf (L2.CX P w) P w K mg base ["model", "given", "table", "first", "second", "result"] "compare_plans" (defScope s_compare_plans) f cdv A' outer s H E) E := passes_call (takes_of rfl rfl rfl rfl) fun _ _ _ _ h => h
  exact pss_cons (ps_expr (pe_cx c_need hr (by decide) rfl hx (by exact (pa_cons (pe_and (pe_c0 c_is_plan hr (by decide) rfl (by exact (pa_cons (pv 0) (pa_cons (pe_ix ix_seq (pv 1) (pe_int) (fun _ _ => rfl)) (pa_nil))))) (pe_one (pe_c0 c_is_plan hr (by decide) rfl (by exact (pa_cons (pv 0) (pa_cons (pe_ix ix_seq (pv 1) (pe_int) (fun _ _ => rfl)) (pa_nil))))))) (pa_cons (pe_gc2 rfl T.g_OUT_OF_RANGE) (pa_nil))))))
      (pss_cons (ps_set (i := 2) nd rfl (by first | exact Or.inl rfl | exact Or.inr rfl) (pe_c0 c_table_of hr (by decide) rfl (by exact (pa_cons (pv 0) (pa_nil)))))
      (pss_cons (ps_par (i := 3) (j := 4) rfl nd rfl rfl (by decide) rfl rfl (pa_cons (pe_cx c_plan_value hr (by decide) rfl hx (by exact (pa_cons (pv 0) (pa_cons (pv 2) (pa_cons (pe_ix ix_seq (pv 1) (pe_int) (fun _ _ => rfl)) (pa_nil)))))) (pa_cons (pe_cx c_plan_value hr (by decide) rfl hx (by exact (pa_cons (pv 0) (pa_cons (pv 2) (pa_cons (pe_ix ix_seq (pv 1) (pe_int) (fun _ _ => rfl)) (pa_nil)))))) (pa_nil))) (by rfl))
      (pss_cons (ps_set (i := 5) nd rfl (by first | exact Or.inl rfl | exact Or.inr rfl) (pe_ifExp (pt_val (pe_c0 c_dominates hr (by decide) rfl (by exact (pa_cons (pv 3) (pa_cons (pv 4) (pa_nil)))))) (pe_int) (pe_ifExp (pt_val (pe_c0 c_dominates hr (by decide) rfl (by exact (pa_cons (pv 4) (pa_cons (pv 3) (pa_nil)))))) (pe_int) (pe_int))))
      (pss_one (ps_ret (pe_op op_addA (pe_lst (pa_cons (pv 5) (pa_cons (pe_op op_sub (pe_ix ix_seq (pv 4) (pe_int) (fun _ _ => rfl)) (pe_ix ix_seq (pv 3) (pe_int) (fun _ _ => rfl))) (pa_nil)))) (pe_callTy call_list_of (by rfl) T.b_list (by decide +kernel) (pa_cons (pe_c0 c_minus hr (by decide) rfl (by exact (pa_cons (pe_ix ix_seq (pv 4) (pe_int) (fun _ _ => rfl)) (pa_cons (pe_ix ix_seq (pv 3) (pe_int) (fun _ _ => rfl)) (pa_nil))))) (pa_nil)))))))))
/-! ### summary -/
def t_summary (K : PySem.W.Frag) (A : Ad) : TS :=
  tSeq (tAsg (tOp rAddA (tOp rAddA (tLst (tCons (tCB (rLen1 K) (tCons (tFld K (tVar 0) "stations") (tNil))) (tNil))) (tCB (rList1 K) (tCons (tFld K (tVar 0) "target") (tNil)))) (tCB (rList1 K) (tCons (tFld K (tVar 0) "limit") (tNil)))) (gName 2)) (tRet (tOp rAddA (tVar 2) (tLc (iList K (tFld K (tVar 0) "stations")) (gName 3) (tYes) (tCB (rLen1 K) (tCons (tFld K (tVar 3) "options") (tNil))) [3])))
theorem cal_summary {sp : Sp} (T : Txt K mg A)  (len : ∀ vs H Q E, sp vs H Q E → vs.length = 2)
    (pu : ∀ vs H Q E, sp vs H Q E → t_summary K A   { nx := fun _ H' => Q .non H', rt := Q } (L2.start ["model", "given", "found", "station"] vs) H) :
    Cal0 P w K mg base 1 "summary" sp := by
  obtain ⟨f, fd, F, g⟩ := T.f_summary
  have nd := sc_summary.nd
  refine ⟨f, fd, ["model", "given"], ?_, g, F.kp, F.binds fun _ _ _ _ _ _ us hl => match us, hl with | [_, _], _ => rfl⟩
  refine F.ok sc_summary len fun cdv A' outer s H vs Q E hr h => ⟨t_summary K A  , ?_, pu vs H Q E h⟩
  exact pss_cons (ps_set (i := 2) nd rfl (by first | exact Or.inl rfl | exact Or.inr rfl) (pe_op op_addA (pe_op op_addA (pe_lst (pa_cons (pe_callB call_len_seq (by rfl) T.b_len PySem.boot_len (pa_cons (pe_fld (pv 0) rfl) (pa_nil))) (pa_nil))) (pe_callTy call_list_of (by rfl) T.b_list (by decide +kernel) (pa_cons (pe_fld (pv 0) rfl) (pa_nil)))) (pe_callTy call_list_of (by rfl) T.b_list (by decide +kernel) (pa_cons (pe_fld (pv 0) rfl) (pa_nil)))))
      (pss_one (ps_ret (pe_op op_addA (pv 2) (pe_lc (own := [("station", 3)]) rfl nd (pi_list (pe_fld (pv 0) rfl)) (blkOk_by (by kernel_rfl)) (fun _ _ _ _ _ => pg_name (i := 3) nd rfl (by first | exact Or.inl rfl | exact Or.inr rfl)) (fun _ _ _ _ _ => pts_nil) (fun _ _ _ _ _ => pe_callB call_len_seq (by rfl) T.b_len PySem.boot_len (pa_cons (pe_fld (pv 3) rfl) (pa_nil)))))))
/-! ### Planner_init -/
def t_Planner_init (K : PySem.W.Frag) (A : Ad) : TS :=
  sFld K (tVar 0) (tC .non) "model"
theorem cal_Planner_init {sp : Sp} (T : Txt K mg A) {f : Addr} {fd : FuncData} (F : Fun K "__init__" "Planner.__init__" s_Planner_init f fd)  (len : ∀ vs H Q E, sp vs H Q E → vs.length = 1)
    (pu : ∀ vs H Q E, sp vs H Q E → t_Planner_init K A   { nx := fun _ H' => Q .non H', rt := Q } (L2.start ["self"] vs) H) :
    FnOk P w K mg base CX0 1 f fd ["self"] sp := by
  have nd := sc_Planner_init.nd
  refine F.ok sc_Planner_init len fun cdv A' outer s H vs Q E hr h => ⟨t_Planner_init K A  , ?_, pu vs H Q E h⟩
  exact pss_one (ps_fld (pv 0) (pe_non) rfl)
/-! ### lists_from -/
def t_lists_from (K : PySem.W.Frag) (A : Ad) : TS :=
  tSeq (tAsg (tLst (tNil)) (gName 3)) (tSeq (tFor (iRng1 (tCons (tVar 2) (tNil))) (gName 4) (tSeq (tDrop (tBM K "list" rAppend (tVar 3) (tCons (tSl (rSlL K) (tVar 0) (tPart (tOp rAddA (tVar 1) (tC (.int 1)))) (tPart (tOp rAddA (tOp rAddA (tVar 1) (tC (.int 1))) (tOp (rIx K) (tVar 0) (tVar 1))))) (tNil)))) (tAug 1 (tOp rAddA (tC (.int 1)) (tOp (rIx K) (tVar 0) (tVar 1))) (ipI fun i j => i + j)))) (tRet (tTup (tCons (tVar 3) (tCons (tVar 1) (tNil))))))
theorem cal_lists_from {sp : Sp} (T : Txt K mg A)  (len : ∀ vs H Q E, sp vs H Q E → vs.length = 3)
    (pu : ∀ vs H Q E, sp vs H Q E → t_lists_from K A   { nx := fun _ H' => Q .non H', rt := Q } (L2.start ["calls", "at", "many", "found", "turn"] vs) H) :
    Cal0 P w K mg base 1 "lists_from" sp := by
  obtain ⟨f, fd, F, g⟩ := T.f_lists_from
  have nd := sc_lists_from.nd
  refine ⟨f, fd, ["calls", "at", "many"], ?_, g, F.kp, F.binds fun _ _ _ _ _ _ us hl => match us, hl with | [_, _, _], _ => rfl⟩
  refine F.ok sc_lists_from len fun cdv A' outer s H vs Q E hr h => ⟨t_lists_from K A  , ?_, pu vs H Q E h⟩
  exact pss_cons (ps_set (i := 3) nd rfl (by first | exact Or.inl rfl | exact Or.inr rfl) (pe_lst (pa_nil)))
      (pss_cons (ps_for PassesOwn.never rfl (pi_range1 (by rfl) T.b_range (pa_cons (pv 2) (pa_nil))) (pg_name (i := 4) nd rfl (by first | exact Or.inl rfl | exact Or.inr rfl)) (pss_cons (ps_expr (pe_bm PySem.F.plainAttrs_list PySem.F.slot_list_append PySem.F.type_list_append mt_append (pv 3) (pa_cons (pe_slice sl_list (pv 0) (po_some (pe_op op_addA (pv 1) (pe_int))) (po_some (pe_op op_addA (pe_op op_addA (pv 1) (pe_int)) (pe_ix ix_seq (pv 0) (pv 1) (fun _ _ => rfl))))) (pa_nil))))
      (pss_one (ps_aug (i := 1) nd rfl (.inl rfl) (pe_op op_addA (pe_int) (pe_ix ix_seq (pv 0) (pv 1) (fun _ _ => rfl))) ip_add))))
      (pss_one (ps_ret (pe_tup (pa_cons (pv 3) (pa_cons (pv 1) (pa_nil)))))))
end
end Pd

/-! ## Fw5 -/
set_option Elab.async false
set_option linter.all false
set_option maxRecDepth 100000
set_option maxHeartbeats 2000000
set_option autoImplicit false
/-! Data-level reasoning, fifth part: loops and comprehensions over lists of any type, by what is gone through. -/
namespace Pd
open PySem PySem.Spec PyProof.Rows L2

section
variable {K : PySem.W.Frag} {C : Nat → Addr} {CE : Addr} {δ δ' δ1 δ2 : List Sd} {F F' F0 H H' H0 : Hp} {σ : L2.St} {te ta tb : TE} {d x y z : D} {ds es : List D} {E : XK} {c : Int} {o : Out} {α β : Type} {xs : List α} {enc : α → D}
theorem get_map {i : Nat} (h : (xs.map enc)[i]? = some d) : ∃ a, xs[i]? = some a ∧ d = enc a := by
  rw [List.getElem?_map] at h
  cases e : xs[i]? with
  | none =>
    rw [e] at h
    cases h
  | some a =>
    rw [e] at h
    cases h
    exact ⟨a, rfl, rfl⟩
theorem split_at {i : Nat} {a : α} (h : xs[i]? = some a) : xs = xs.take i ++ a :: xs.drop (i + 1) := by
  obtain ⟨hi, e⟩ := List.getElem?_eq_some_iff.mp h
  rw [← e, List.getElem_cons_drop, List.take_append_drop]
theorem sd_forP {wi : TI} {g : TG} {tb : TS} {ts : List Nat} (enc : α → D) (xs : List α) (P : List α → List Sd) (hw : WD K C wi δ (xs.map enc)) (h0 : Sle δ (P []))
    (hs : ∀ pre a, (∃ post, xs = pre ++ a :: post) → ∃ δ1, GD K C g ts (P pre) (enc a) δ1 ∧ SD K C CE tb E δ1 (.nx (P (pre ++ [a])))) : SD K C CE (tFor wi g tb) E δ (.nx (P xs)) := by
  refine (sd_for (ts := ts) (fun i => P (xs.take i)) hw h0 ?_).is ?_
  · intro i d hd
    obtain ⟨a, ha, rfl⟩ := get_map hd
    rw [take_more' ha]
    exact hs _ a ⟨_, split_at ha⟩
  · rw [List.length_map, List.take_length]
theorem sd_forAll {wi : TI} {g : TG} {tb : TS} {ts : List Nat} (enc : α → D) (xs : List α) (good : α → Bool) (r : D) (P : List α → List Sd) (hw : WD K C wi δ (xs.map enc)) (h0 : Sle δ (P []))
    (hs : ∀ pre a, (∃ post, xs = pre ++ a :: post) → ∃ δ1, GD K C g ts (P pre) (enc a) δ1 ∧ (good a = true → SD K C CE tb E δ1 (.nx (P (pre ++ [a])))) ∧ (good a = false → SD K C CE tb E δ1 (.rt r))) :
    SD K C CE (tFor wi g tb) E δ (if xs.all good = true then .nx (P xs) else .rt r) := by
  refine sd_forR (ts := ts) (fun i => P (xs.take i)) (fun i => match xs[i]? with | none => none | some a => if good a = true then none else some r) hw h0 ?_ ?_ ?_
  · intro i d hd
    obtain ⟨a, ha, rfl⟩ := get_map hd
    obtain ⟨δ1, h1, h2, h3⟩ := hs _ a ⟨_, split_at ha⟩
    refine ⟨δ1, h1, ?_⟩
    rw [take_more' ha, ha]
    cases e : good a with
    | true =>
      dsimp only
      rw [e]
      exact h2 e
    | false =>
      dsimp only
      rw [e]
      exact h3 e
  · intro h
    have e : xs.all good = true := by
      rw [List.all_eq_true]
      intro a ha
      obtain ⟨i, hi, ei⟩ := List.mem_iff_getElem.mp ha
      have z := h i (by rw [List.length_map]; exact hi)
      rw [List.getElem?_eq_getElem hi, ei] at z
      dsimp only at z
      split at z
      · assumption
      · cases z
    rw [if_pos e, List.length_map, List.take_length]
  · intro i q hi hq _
    rw [List.length_map] at hi
    rw [List.getElem?_eq_getElem hi] at hq
    dsimp only at hq
    split at hq
    · cases hq
    · rename_i n
      cases hq
      rw [if_neg]
      intro z
      exact n (List.all_eq_true.mp z _ (List.getElem_mem hi))
theorem el_lcM {wi : TI} {g : TG} {tt : TT} {vs ts : List Nat} (enc : α → D) (xs : List α) (p : α → Bool) (f : α → D) (hw : WD K C wi δ (xs.map enc)) (ht : ∀ j ∈ ts, j ∈ vs)
    (hs : ∀ a, a ∈ xs → ∃ δ1, GD K C g ts (wipeD δ vs) (enc a) δ1 ∧ δ1.length = δ.length ∧ TD K C tt δ1 (p a) ∧ (p a = true → ED K C te δ1 (f a))) (hl : xs.length ≤ 1000000) : EL K C (tLc wi g tt te vs) δ ((xs.filter p).map f) := fun F σ H Q ok q =>
  hw F σ H _ ok fun J F1 H1 g1 wd => fun Dd hD => by
    refine lc_it wd (fun i H' => ∃ F' acc, Gr F1 H1 F' H' ∧ H' Dd = some (.lst acc) ∧ F' Dd = none ∧ IsL K C F' acc (((xs.take i).filter p).map f)) ⟨F1, [], .lay0 g1.fh hD, upd_same, g1.fh.back hD, .nil⟩ (fun i H' _ ⟨F', acc, k, _⟩ => k.f.trans k.fh) ?_ ?_
    · rintro i x H2 H3 hi ⟨F2, acc, k2, e2, n2, r2⟩ ⟨d, hd, y⟩
      obtain ⟨F3, g3, ix⟩ := y F2 k2.f k2.fh
      obtain ⟨a0, ha0, rfl⟩ := get_map hd
      obtain ⟨δ1, hg, hlen, htst, hte⟩ := hs a0 (List.mem_of_getElem? ha0)
      have ok3 := (ok.gr ((g1.trans k2).trans g3)).wiped vs
      refine hg F3 _ H3 x _ ok3 ix fun σ' ok' a b => ?_
      refine ⟨wipe_eq (by rw [ok'.len, hlen, ok.len]) a ht, ?_⟩
      refine htst F3 σ' H3 _ ok' fun F4 H4 g4 => ?_
      have kk := (k2.trans g3).trans g4
      have e4 := g4.h _ _ (g3.h _ _ e2)
      have n3 := g3.nw _ n2 (by rw [e2]; simp)
      have n4 := g4.nw _ n3 (by rw [g3.h _ _ e2]; simp)
      have r4 := r2.mono (g3.f.trans g4.f)
      cases e : p a0 with
      | true =>
        refine iteT (hte e F4 σ' H4 _ (ok'.gr g4) fun v F5 H5 g5 i5 => ?_)
        have e5 := g5.h _ _ e4
        have n5 := g5.nw _ n4 (by rw [e4]; simp)
        have k5 := kk.trans g5
        have r5 := (r4.mono g5.f).append (.one i5)
        refine ⟨acc, e5, ?_, F5, acc ++ [v], ⟨k5.f, fun a u h => ?_, fun a u h => ?_, k5.nw⟩, upd_same, n5, ?_⟩
        · have z := r4.length
          have z2 : (((xs.take i).filter p).map f).length ≤ (xs.take i).length := by rw [List.length_map]; exact List.length_filter_le _ _
          rw [List.length_take] at z2
          exact Nat.lt_of_le_of_lt (show acc.length ≤ 1000000 by omega) (by decide)
        · have nn : a ≠ Dd := fun z => by
            rw [z, hD] at h
            cases h
          rw [upd_ne nn]
          exact k5.h a u h
        · have nn : a ≠ Dd := fun z => by
            rw [z, n5] at h
            cases h
          rw [upd_ne nn]
          exact k5.fh a u h
        · rw [take_more' ha0, List.filter_append, List.map_append]
          simpa [e] using r5
      | false =>
        refine iteF ⟨F4, acc, kk, e4, n4, ?_⟩
        rw [take_more' ha0, List.filter_append, List.map_append]
        simpa [e] using r4
    · rintro H2 ⟨F2, acc, k2, e2, n2, r2⟩
      rw [List.length_map, List.take_length] at r2
      exact q Dd acc F2 H2 (g1.trans k2) (g1.h.back hD) e2 n2 r2
theorem ed_lcM {wi : TI} {g : TG} {tt : TT} {vs ts : List Nat} (enc : α → D) (xs : List α) (p : α → Bool) (f : α → D) (hw : WD K C wi δ (xs.map enc)) (ht : ∀ j ∈ ts, j ∈ vs)
    (hs : ∀ a, a ∈ xs → ∃ δ1, GD K C g ts (wipeD δ vs) (enc a) δ1 ∧ δ1.length = δ.length ∧ TD K C tt δ1 (p a) ∧ (p a = true → ED K C te δ1 (f a))) (hl : xs.length ≤ 1000000) : ED K C (tLc wi g tt te vs) δ (.lst ((xs.filter p).map f)) := (el_lcM enc xs p f hw ht hs hl).ed
theorem el_lcA {wi : TI} {g : TG} {vs ts : List Nat} (enc : α → D) (xs : List α) (f : α → D) (hw : WD K C wi δ (xs.map enc)) (ht : ∀ j ∈ ts, j ∈ vs)
    (hs : ∀ a, a ∈ xs → ∃ δ1, GD K C g ts (wipeD δ vs) (enc a) δ1 ∧ δ1.length = δ.length ∧ ED K C te δ1 (f a)) (hl : xs.length ≤ 1000000) : EL K C (tLc wi g tYes te vs) δ (xs.map f) :=
  (el_lcM enc xs (fun _ => true) f hw ht (fun a ha => by
    obtain ⟨δ1, h1, h2, h3⟩ := hs a ha
    exact ⟨δ1, h1, h2, td_yes, fun _ => h3⟩) hl).is (by rw [List.filter_eq_self.mpr (fun _ _ => rfl)])
theorem ed_lcA {wi : TI} {g : TG} {vs ts : List Nat} (enc : α → D) (xs : List α) (f : α → D) (hw : WD K C wi δ (xs.map enc)) (ht : ∀ j ∈ ts, j ∈ vs)
    (hs : ∀ a, a ∈ xs → ∃ δ1, GD K C g ts (wipeD δ vs) (enc a) δ1 ∧ δ1.length = δ.length ∧ ED K C te δ1 (f a)) (hl : xs.length ≤ 1000000) : ED K C (tLc wi g tYes te vs) δ (.lst (xs.map f)) := (el_lcA enc xs f hw ht hs hl).ed
theorem enumD_map : enumD (xs.map enc) = xs.zipIdx.map fun p => .tup [.int (p.2 : Nat), enc p.1] := by
  unfold enumD
  apply List.ext_getElem?
  intro i
  rw [List.getElem?_mapIdx, List.getElem?_map, List.getElem?_map, List.getElem?_zipIdx]
  cases xs[i]? <;> simp
theorem wd_enumM (h : ED K C te δ (.lst (xs.map enc))) : WD K C (iEnum K (tCons te tNil)) δ (xs.zipIdx.map fun p => .tup [.int (p.2 : Nat), enc p.1]) := enumD_map ▸ wd_enum h
theorem wd_zipM {ys : List β} {enc' : β → D} (h : ED K C ta δ (.lst (xs.map enc))) (h' : ED K C tb δ (.lst (ys.map enc'))) : WD K C (iZip K (tCons ta (tCons tb tNil))) δ ((xs.zip ys).map fun p => .tup [enc p.1, enc' p.2]) := by
  have e : (xs.zip ys).map (fun p => D.tup [enc p.1, enc' p.2]) = List.zipWith (fun a b => .tup [a, b]) (xs.map enc) (ys.map enc') := by
    rw [List.zipWith_map, List.zip, List.map_zipWith]
  rw [e]
  exact wd_zip h h'
/-- a pair goes into two names -/
theorem gd_pair {i j : Nat} : GD K C (gTup K 2 (gCons (gName i) (gCons (gName j) gNil))) [i, j] δ (.tup [x, y]) ((δ.set i (.dat x)).set j (.dat y)) :=
  gd_tup (gds_cons gd_name (gds_cons gd_name gds_nil)) rfl
end
end Pd

/-! ## Mth1 -/
set_option Elab.async false
set_option linter.all false
set_option autoImplicit false
/-! The mathematics, first part: the specification's fractions are core Lean's rationals. -/
namespace Mt
open Lrx1 (Fraction add sub mul divide whole zero one reduce lt le sum)

def ofRat (q : Rat) : Fraction := ⟨q.num, q.den⟩
theorem reduce_eq (n : Int) (d : Nat) : reduce n d = ofRat (mkRat n d) := by
  unfold reduce ofRat
  rw [Rat.num_mkRat, Rat.den_mkRat, Nat.gcd_comm]
  by_cases h : d = 0
  · rw [if_pos h, if_pos h, if_pos h]
  · rw [if_neg h, if_neg h, if_neg h]
theorem whole_eq (n : Int) : whole n = ofRat (n : Rat) := rfl
theorem wholeN_eq (n : Nat) : whole (n : Int) = ofRat (n : Rat) := rfl
theorem zero_eq : zero = ofRat 0 := rfl
theorem one_eq : one = ofRat 1 := rfl
theorem add_eq (p q : Rat) : add (ofRat p) (ofRat q) = ofRat (p + q) := by
  unfold add
  rw [reduce_eq, Rat.add_def']
  rfl
theorem sub_eq (p q : Rat) : sub (ofRat p) (ofRat q) = ofRat (p - q) := by
  unfold sub
  rw [reduce_eq, Rat.sub_def']
  rfl
theorem mul_eq (p q : Rat) : mul (ofRat p) (ofRat q) = ofRat (p * q) := by
  unfold mul
  rw [reduce_eq, Rat.mul_def']
  rfl
theorem div_mk (p q : Rat) : p / q = mkRat (if q.num < 0 then -(p.num * q.den) else p.num * q.den) (p.den * q.num.natAbs) := by
  rw [Rat.div_def, Rat.mul_def', Rat.num_inv, Rat.den_inv]
  by_cases h0 : q.num = 0
  · rw [if_pos h0, h0]
    simp
  · rw [if_neg h0]
    by_cases h : q.num < 0
    · rw [if_pos h, Int.sign_eq_neg_one_of_neg h]
      congr 1
      rw [Int.neg_one_mul, Int.mul_neg]
    · rw [if_neg h, Int.sign_eq_one_of_pos (by omega)]
      simp
theorem divide_eq (p q : Rat) : divide (ofRat p) (ofRat q) = ofRat (p / q) := by
  unfold divide
  rw [reduce_eq, div_mk]
  rfl
theorem lt_eq (p q : Rat) : lt (ofRat p) (ofRat q) = decide (p < q) := by
  unfold lt
  exact decide_eq_decide.mpr (Rat.lt_iff p q).symm
theorem le_eq (p q : Rat) : le (ofRat p) (ofRat q) = decide (p ≤ q) := by
  unfold le
  exact decide_eq_decide.mpr (Rat.le_iff p q).symm
theorem ofRat_inj {p q : Rat} (h : ofRat p = ofRat q) : p = q := by
  unfold ofRat at h
  injection h with h1 h2
  exact Rat.ext h1 h2
def sumR (l : List Rat) : Rat := l.foldl (· + ·) 0
theorem foldl_add_eq : ∀ (l : List Rat) (a : Rat), (l.map ofRat).foldl add (ofRat a) = ofRat (l.foldl (· + ·) a)
  | [], a => rfl
  | x :: l, a => by
    rw [List.map_cons, List.foldl_cons, List.foldl_cons, add_eq]
    exact foldl_add_eq l (a + x)
theorem sum_eq (l : List Rat) : sum (l.map ofRat) = ofRat (sumR l) := foldl_add_eq l 0

/-! ### sizes -/
/-- numerator and denominator lie below 2 ^ k -/
def Sz (k : Nat) (q : Rat) : Prop := q.num.natAbs < 2 ^ k ∧ q.den < 2 ^ k
theorem Sz.mono {j k : Nat} {q : Rat} (h : Sz j q) (l : j ≤ k) : Sz k q :=
  ⟨Nat.lt_of_lt_of_le h.1 (Nat.pow_le_pow_right (by decide) l), Nat.lt_of_lt_of_le h.2 (Nat.pow_le_pow_right (by decide) l)⟩
theorem mkRat_le (n : Int) (d : Nat) (hd : d ≠ 0) : (mkRat n d).num.natAbs ≤ n.natAbs ∧ (mkRat n d).den ≤ d := by
  rw [Rat.num_mkRat, Rat.den_mkRat, if_neg hd, if_neg hd]
  refine ⟨?_, Nat.div_le_self _ _⟩
  have h : ((d.gcd n.natAbs : Nat) : Int) ∣ n := Int.ofNat_dvd_left.mpr (Nat.gcd_dvd_right _ _)
  rw [Int.natAbs_ediv_of_dvd h]
  exact Nat.div_le_self _ _
theorem Sz.mk {k : Nat} {n : Int} {d : Nat} (h1 : n.natAbs < 2 ^ k) (h2 : d < 2 ^ k) (hd : d ≠ 0) : Sz k (mkRat n d) :=
  ⟨Nat.lt_of_le_of_lt (mkRat_le n d hd).1 h1, Nat.lt_of_le_of_lt (mkRat_le n d hd).2 h2⟩
theorem pow_lt {a b j k : Nat} (h1 : a < 2 ^ j) (h2 : b < 2 ^ k) : a * b < 2 ^ (j + k) := by
  rw [Nat.pow_add]
  exact Nat.mul_lt_mul'' h1 h2
theorem addNat_lt {x y : Int} {k : Nat} (h1 : x.natAbs < 2 ^ k) (h2 : y.natAbs < 2 ^ k) : (x + y).natAbs < 2 ^ (k + 1) := by
  rw [Nat.pow_succ]
  omega
theorem subNat_lt {x y : Int} {k : Nat} (h1 : x.natAbs < 2 ^ k) (h2 : y.natAbs < 2 ^ k) : (x - y).natAbs < 2 ^ (k + 1) := by
  rw [Nat.pow_succ]
  omega
theorem mulI_lt {x y : Int} {j k : Nat} (h1 : x.natAbs < 2 ^ j) (h2 : y.natAbs < 2 ^ k) : (x * y).natAbs < 2 ^ (j + k) := by
  rw [Int.natAbs_mul]
  exact pow_lt h1 h2
theorem Sz.add {j k : Nat} {p q : Rat} (hp : Sz j p) (hq : Sz k q) : Sz (j + k + 1) (p + q) := by
  rw [Rat.add_def']
  refine Sz.mk (addNat_lt (mulI_lt hp.1 hq.2) ?_) ?_ (Nat.mul_ne_zero p.den_nz q.den_nz)
  · rw [Nat.add_comm j k]
    exact mulI_lt hq.1 hp.2
  · exact Nat.lt_of_lt_of_le (pow_lt hp.2 hq.2) (Nat.pow_le_pow_right (by decide) (by omega))
theorem Sz.sub {j k : Nat} {p q : Rat} (hp : Sz j p) (hq : Sz k q) : Sz (j + k + 1) (p - q) := by
  rw [Rat.sub_def']
  refine Sz.mk (subNat_lt (mulI_lt hp.1 hq.2) ?_) ?_ (Nat.mul_ne_zero p.den_nz q.den_nz)
  · rw [Nat.add_comm j k]
    exact mulI_lt hq.1 hp.2
  · exact Nat.lt_of_lt_of_le (pow_lt hp.2 hq.2) (Nat.pow_le_pow_right (by decide) (by omega))
theorem Sz.mul {j k : Nat} {p q : Rat} (hp : Sz j p) (hq : Sz k q) : Sz (j + k) (p * q) := by
  rw [Rat.mul_def']
  exact Sz.mk (mulI_lt hp.1 hq.1) (pow_lt hp.2 hq.2) (Nat.mul_ne_zero p.den_nz q.den_nz)
theorem Sz.div {j k : Nat} {p q : Rat} (hp : Sz j p) (hq : Sz k q) (h0 : q ≠ 0) : Sz (j + k) (p / q) := by
  rw [div_mk]
  have hn : q.num.natAbs ≠ 0 := by
    intro z
    exact h0 (Rat.num_eq_zero.mp (by omega))
  refine Sz.mk ?_ (pow_lt hp.2 hq.1) (Nat.mul_ne_zero p.den_nz hn)
  have z : (p.num * (q.den : Int)).natAbs < 2 ^ (j + k) := mulI_lt hp.1 hq.2
  split
  · rw [Int.natAbs_neg]
    exact z
  · exact z
theorem Sz.int {k : Nat} {n : Int} (h : n.natAbs < 2 ^ k) (hk : 0 < k) : Sz k (n : Rat) :=
  ⟨h, by
    rw [Rat.den_intCast]
    exact Nat.one_lt_two_pow (by omega)⟩
theorem Sz.nat {k : Nat} {n : Nat} (h : n < 2 ^ k) (hk : 0 < k) : Sz k (n : Rat) :=
  ⟨h, by
    rw [Rat.den_natCast]
    exact Nat.one_lt_two_pow (by omega)⟩
theorem Sz.zero {k : Nat} (hk : 0 < k) : Sz k 0 := ⟨by show 0 < 2 ^ k; exact Nat.pow_pos (by decide), Nat.one_lt_two_pow (by omega)⟩
theorem Sz.one {k : Nat} (hk : 0 < k) : Sz k 1 := ⟨Nat.one_lt_two_pow (by omega), Nat.one_lt_two_pow (by omega)⟩

/-! ### Erlang's formulas on rationals -/
def eB (x : Rat) : Nat → Rat
  | 0 => 1
  | k + 1 => (x * eB x k) / (((k + 1 : Nat) : Rat) + x * eB x k)
theorem erlangB_eq (x : Rat) : ∀ k, Lrx2.erlangB (ofRat x) k = ofRat (eB x k)
  | 0 => rfl
  | k + 1 => by
    unfold Lrx2.erlangB eB
    dsimp only
    rw [erlangB_eq x k, mul_eq, wholeN_eq, add_eq, divide_eq]
/-- the number of an option: x the load, u the utilization -/
def numR (x u : Rat) (c : Nat) : Rat := x + (eB x c / (1 - u * (1 - eB x c))) * u / (1 - u)
theorem test (x y a b : Rat) (h1 : 0 ≤ (b - a) * (1 - x)) (h2 : 0 ≤ (y - x) * (a * (1 - b))) : a * (1 - y * (1 - b)) ≤ b * (1 - x * (1 - a)) := by
  grind
end Mt

/-! ## Mth2 -/
set_option Elab.async false
set_option linter.all false
set_option autoImplicit false
/-! The mathematics, second part: Erlang's formulas: signs, sizes, growth. -/
namespace Mt
theorem div_le_of {a b c : Rat} (hb : 0 < b) (h : a ≤ c * b) : a / b ≤ c := Rat.not_lt.mp fun z => Rat.not_lt.mpr h ((Rat.lt_div_iff hb).mp z)
theorem le_div_of {a b c : Rat} (hb : 0 < b) (h : c * b ≤ a) : c ≤ a / b := Rat.not_lt.mp fun z => Rat.not_lt.mpr h ((Rat.div_lt_iff hb).mp z)
theorem div_pos {a b : Rat} (ha : 0 < a) (hb : 0 < b) : 0 < a / b := (Rat.lt_div_iff hb).mpr (by rw [Rat.zero_mul]; exact ha)
theorem div_eq_of {a b c e : Rat} (hb : b ≠ 0) (he : e ≠ 0) (h : a * e = c * b) : a / b = c / e := by
  have h1 : a / b * b = a := Rat.div_mul_cancel hb
  have h2 : c / e * e = c := Rat.div_mul_cancel he
  have h3 : (a / b - c / e) * (b * e) = 0 := by grind
  rcases Rat.mul_eq_zero.mp h3 with h4 | h4
  · grind
  · rcases Rat.mul_eq_zero.mp h4 with h5 | h5
    · exact absurd h5 hb
    · exact absurd h5 he
theorem div_mono {a b c e : Rat} (hb : 0 < b) (he : 0 < e) (h : a * e ≤ c * b) : a / b ≤ c / e := by
  refine le_div_of he ?_
  have h1 : a / b * b = a := Rat.div_mul_cancel (Rat.ne_of_gt hb)
  refine Rat.le_of_mul_le_mul_right (c := b) ?_ hb
  have : a / b * e * b = a * e := by grind
  rw [this]
  exact h
theorem cast_succ_pos (k : Nat) : (0 : Rat) < ((k + 1 : Nat) : Rat) := Rat.natCast_pos.mpr (Nat.succ_pos k)
theorem eB_pos {x : Rat} (hx : 0 < x) : ∀ k, 0 < eB x k
  | 0 => by unfold eB; decide
  | k + 1 => by
    unfold eB
    have h1 := Rat.mul_pos hx (eB_pos hx k)
    have h2 := cast_succ_pos k
    exact div_pos h1 (by grind)
theorem eB_den {x : Rat} (hx : 0 < x) (k : Nat) : 0 < ((k + 1 : Nat) : Rat) + x * eB x k := by
  have h1 := Rat.mul_pos hx (eB_pos hx k)
  have h2 := cast_succ_pos k
  grind
theorem eB_le {x : Rat} (hx : 0 < x) : ∀ k, eB x k ≤ 1
  | 0 => by unfold eB; exact Rat.le_refl
  | k + 1 => by
    have h1 := eB_den hx k
    unfold eB
    refine div_le_of h1 ?_
    have h2 := cast_succ_pos k
    grind
theorem eB_mono {x y : Rat} (hx : 0 < x) (h : x ≤ y) : ∀ k, eB x k ≤ eB y k
  | 0 => by unfold eB; exact Rat.le_refl
  | k + 1 => by
    have hy : 0 < y := by grind
    have h1 := eB_den hx k
    have h2 := eB_den hy k
    have ih := eB_mono hx h k
    have p1 := eB_pos hx k
    have p2 := eB_pos hy k
    unfold eB
    refine div_mono h1 h2 ?_
    have h3 := cast_succ_pos k
    have h4 : x * eB x k ≤ y * eB y k := by
      have a1 := Rat.mul_le_mul_of_nonneg_right h (Rat.le_of_lt p1)
      have a2 := Rat.mul_le_mul_of_nonneg_left ih (Rat.le_of_lt hy)
      exact Rat.le_trans a1 a2
    have h5 := Rat.mul_le_mul_of_nonneg_right h4 (Rat.le_of_lt h3)
    grind
/-! the number: its divisors are positive, it grows -/
theorem wait_den {u b : Rat} (h0 : 0 ≤ u) (h1 : u < 1) (hb : 0 < b) (hb1 : b ≤ 1) : 0 < 1 - u * (1 - b) := by
  have a1 : 0 ≤ u * b := Rat.mul_nonneg h0 (Rat.le_of_lt hb)
  grind
theorem numR_mono {x y u v : Rat} {c : Nat} (hx : 0 < x) (hxy : x ≤ y) (hu : 0 < u) (huv : u ≤ v) (hv : v < 1) : numR x u c ≤ numR y v c := by
  unfold numR
  have hy : 0 < y := by grind
  have hu1 : u < 1 := by grind
  have hv0 : 0 < v := by grind
  have bx := eB_pos hx c
  have by_ := eB_pos hy c
  have bx1 := eB_le hx c
  have by1 := eB_le hy c
  have bm := eB_mono hx hxy c
  generalize eB x c = a at *
  generalize eB y c = b at *
  have d1 := wait_den (Rat.le_of_lt hu) hu1 bx bx1
  have d2 := wait_den (Rat.le_of_lt hv0) hv by_ by1
  have e1 : a / (1 - u * (1 - a)) ≤ b / (1 - v * (1 - b)) := by
    refine div_mono d1 d2 ?_
    have h1 : 0 ≤ (b - a) * (1 - u) := Rat.mul_nonneg (by grind) (by grind)
    have h2 : 0 ≤ (v - u) * (a * (1 - b)) := Rat.mul_nonneg (by grind) (Rat.mul_nonneg (by grind) (by grind))
    grind
  have p1 := div_pos bx d1
  generalize a / (1 - u * (1 - a)) = s at *
  generalize b / (1 - v * (1 - b)) = t at *
  have e2 : s * u / (1 - u) ≤ t * v / (1 - v) := by
    refine div_mono (by grind) (by grind) ?_
    have h1 : s * u ≤ t * v := by
      have a1 := Rat.mul_le_mul_of_nonneg_right e1 (Rat.le_of_lt hu)
      have a2 := Rat.mul_le_mul_of_nonneg_left huv (show 0 ≤ t by grind)
      exact Rat.le_trans a1 a2
    have h2 : 0 ≤ (t * v - s * u) * (1 - v) := Rat.mul_nonneg (by grind) (by grind)
    have h3 : 0 ≤ (t * v) * (v - u) := Rat.mul_nonneg (Rat.mul_nonneg (by grind) (by grind)) (by grind)
    grind
  grind
/-! the sizes -/
def nA (p : Nat) : Nat → Nat
  | 0 => 1
  | k + 1 => p * nA p k
def nD (p d : Nat) : Nat → Nat
  | 0 => 1
  | k + 1 => (k + 1) * d * nD p d k + p * nA p k
theorem nD_pos {p d : Nat} (hd : 0 < d) : ∀ k, 0 < nD p d k
  | 0 => by unfold nD; decide
  | k + 1 => by
    unfold nD
    exact Nat.lt_of_lt_of_le (Nat.mul_pos (Nat.mul_pos (Nat.succ_pos k) hd) (nD_pos (p := p) hd k)) (Nat.le_add_right _ _)
theorem eB_form {x : Rat} {p d : Nat} (hd : 0 < d) (hp : 0 < p) (hx : x * (d : Rat) = (p : Rat)) : ∀ k, eB x k = (nA p k : Rat) / (nD p d k : Rat)
  | 0 => by unfold eB nA nD; grind
  | k + 1 => by
    have ih := eB_form hd hp hx k
    have d0 : (0 : Rat) < (nD p d k : Rat) := Rat.natCast_pos.mpr (nD_pos hd k)
    have hA : eB x k * (nD p d k : Rat) = (nA p k : Rat) := by rw [ih]; exact Rat.div_mul_cancel (Rat.ne_of_gt d0)
    have dd : (0 : Rat) < (d : Rat) := Rat.natCast_pos.mpr hd
    have pp : (0 : Rat) < (p : Rat) := Rat.natCast_pos.mpr hp
    have x0 : 0 < x := by
      rw [← hx] at pp
      exact (Rat.mul_pos_iff_of_pos_right dd).mp pp
    have h1 := eB_den x0 k
    have h2 : (0 : Rat) < (nD p d (k + 1) : Rat) := Rat.natCast_pos.mpr (nD_pos hd (k + 1))
    unfold eB
    refine div_eq_of (Rat.ne_of_gt h1) (Rat.ne_of_gt h2) ?_
    unfold nA nD
    rw [Rat.natCast_add, Rat.natCast_mul, Rat.natCast_mul, Rat.natCast_mul]
    generalize ((k + 1 : Nat) : Rat) = m at *
    generalize (nD p d k : Rat) = D at *
    generalize (nA p k : Rat) = A at *
    generalize eB x k = B at *
    subst hA
    rw [← hx]
    grind
theorem nA_le {p a : Nat} (hp : p < 2 ^ a) : ∀ k, nA p k ≤ 2 ^ (a * k)
  | 0 => by unfold nA; simp
  | k + 1 => by
    unfold nA
    rw [Nat.mul_succ, Nat.pow_add, Nat.mul_comm]
    exact Nat.mul_le_mul (nA_le hp k) (Nat.le_of_lt hp)
theorem nD_le {p d a : Nat} (hp : p < 2 ^ a) (hd : d < 2 ^ a) : ∀ k, k ≤ 16 → nD p d k ≤ 2 ^ ((a + 5) * k)
  | 0, _ => by unfold nD; simp
  | k + 1, hk => by
    unfold nD
    have h1 := nD_le hp hd k (by omega)
    have h2 := nA_le hp k
    have h3 : 2 ^ (a * k) ≤ 2 ^ ((a + 5) * k) := Nat.pow_le_pow_right (by decide) (Nat.mul_le_mul_right _ (by omega))
    have h4 : (k + 1) * d * nD p d k ≤ 16 * 2 ^ a * 2 ^ ((a + 5) * k) := Nat.mul_le_mul (Nat.mul_le_mul hk (Nat.le_of_lt hd)) h1
    have h5 : p * nA p k ≤ 2 ^ a * 2 ^ ((a + 5) * k) := Nat.mul_le_mul (Nat.le_of_lt hp) (Nat.le_trans h2 h3)
    have e : 2 ^ ((a + 5) * (k + 1)) = 32 * (2 ^ a * 2 ^ ((a + 5) * k)) := by
      rw [Nat.mul_succ, Nat.pow_add, Nat.pow_add 2 a 5]
      generalize 2 ^ ((a + 5) * k) = z
      generalize 2 ^ a = y
      rw [Nat.mul_comm z, Nat.mul_comm y, Nat.mul_assoc]
    rw [e]
    have h6 : (k + 1) * d * nD p d k ≤ 16 * (2 ^ a * 2 ^ ((a + 5) * k)) := by
      rw [← Nat.mul_assoc]
      exact h4
    refine Nat.le_trans (Nat.add_le_add h6 h5) ?_
    generalize 2 ^ a * 2 ^ ((a + 5) * k) = z
    omega
theorem rat_num_pos {x : Rat} (hx : 0 < x) : 0 < x.num := by
  have h1 := Rat.num_nonneg.mpr (Rat.le_of_lt hx)
  have h2 : x.num ≠ 0 := fun z => Rat.ne_of_gt hx (Rat.num_eq_zero.mp z)
  omega
theorem rat_form {x : Rat} (hx : 0 < x) : x * (x.den : Rat) = (x.num.toNat : Rat) := by
  have h0 := rat_num_pos hx
  have e : (x.num.toNat : Rat) = (x.num : Rat) := by
    have : ((x.num.toNat : Nat) : Int) = x.num := Int.toNat_of_nonneg (by omega)
    rw [← this]
    rfl
  rw [e]
  have h1 : x = (x.num : Rat) / (x.den : Rat) := by
    rw [← Rat.mkRat_eq_div, Rat.mkRat_self]
  have h2 : (0 : Rat) < (x.den : Rat) := Rat.natCast_pos.mpr x.den_pos
  conv => lhs; lhs; rw [h1]
  exact Rat.div_mul_cancel (Rat.ne_of_gt h2)
theorem sz_eB {x : Rat} {a k : Nat} (hx : 0 < x) (h : Sz a x) (hk : k ≤ 10) : Sz (10 * a + 51) (eB x k) := by
  have h0 := rat_num_pos hx
  rw [eB_form (p := x.num.toNat) x.den_pos (by omega) (rat_form hx) k]
  have hp : x.num.toNat < 2 ^ a := by have := h.1; omega
  have e : ((nA x.num.toNat k : Nat) : Rat) / ((nD x.num.toNat x.den k : Nat) : Rat) = mkRat (nA x.num.toNat k : Nat) (nD x.num.toNat x.den k) := by
    rw [Rat.mkRat_eq_div]
    rfl
  rw [e]
  have h1 := nA_le hp k
  have h2 := nD_le hp h.2 k (by omega)
  refine Sz.mk ?_ ?_ (Nat.ne_of_gt (nD_pos x.den_pos k))
  · show nA x.num.toNat k < _
    refine Nat.lt_of_le_of_lt h1 (Nat.pow_lt_pow_right (by decide) ?_)
    have := Nat.mul_le_mul_left a hk
    omega
  · refine Nat.lt_of_le_of_lt h2 (Nat.pow_lt_pow_right (by decide) ?_)
    have := Nat.mul_le_mul_left (a + 5) hk
    omega
end Mt

/-! ## Mth3 -/
set_option Elab.async false
set_option linter.all false
set_option autoImplicit false
/-! The mathematics, third part: options of a station at so many percent, against the specification. -/
namespace Mt
open Lrx1 (Fraction add sub mul divide whole zero one reduce lt le sum)
open Lrx8 (Choice Station Model)

structure COk (c : Choice) : Prop where
  s0 : 1 ≤ c.servers
  s1 : c.servers ≤ 10
  r0 : 1 ≤ c.rate
  r1 : c.rate ≤ 100000
  k1 : c.cost ≤ 100000
structure SOk (s : Station) : Prop where
  a0 : 1 ≤ s.arrival
  a1 : s.arrival ≤ 100000
  w1 : s.weight ≤ 1000
  n1 : s.choices.length ≤ 6
  cs : ∀ c ∈ s.choices, COk c
structure MOk (m : Model) : Prop where
  n0 : 1 ≤ m.stations.length
  n1 : m.stations.length ≤ 4
  ss : ∀ s ∈ m.stations, SOk s
  tg : ∃ t, m.target = ofRat t ∧ Sz 20 t
  lm : ∃ l, m.limit = ofRat l ∧ Sz 20 l
def tgt (m : Model) : Rat := mkRat m.target.num m.target.den
def lim (m : Model) : Rat := mkRat m.limit.num m.limit.den
theorem mk_ofRat (q : Rat) : mkRat (ofRat q).num (ofRat q).den = q := Rat.mkRat_self q
theorem MOk.target {m : Model} (h : MOk m) : m.target = ofRat (tgt m) ∧ Sz 20 (tgt m) := by
  obtain ⟨t, e, hs⟩ := h.tg
  have : tgt m = t := by unfold tgt; rw [e, mk_ofRat]
  rw [this]
  exact ⟨e, hs⟩
theorem MOk.limit {m : Model} (h : MOk m) : m.limit = ofRat (lim m) ∧ Sz 20 (lim m) := by
  obtain ⟨t, e, hs⟩ := h.lm
  have : lim m = t := by unfold lim; rw [e, mk_ofRat]
  rw [this]
  exact ⟨e, hs⟩

/-- the load, the utilization, the weighted number at p percent -/
def loadP (s : Station) (c : Choice) (p : Nat) : Rat := mkRat ((s.arrival * p : Nat) : Int) (c.rate * 100)
def utilP (s : Station) (c : Choice) (p : Nat) : Rat := mkRat ((s.arrival * p : Nat) : Int) (c.servers * c.rate * 100)
def numP (s : Station) (c : Choice) (p : Nat) : Rat := numR (loadP s c p) (utilP s c p) c.servers
def wgtP (s : Station) (c : Choice) (p : Nat) : Rat := (s.weight : Rat) * numP s c p
def okP (m : Model) (s : Station) (c : Choice) (p : Nat) : Bool := decide (utilP s c p < 1) && decide (utilP s c p ≤ lim m)
/-- the arrival rate at p percent -/
def arrP (s : Station) (p : Nat) : Rat := mkRat ((s.arrival * p : Nat) : Int) 100
theorem mkRat_pos {n d : Nat} (hn : 0 < n) (hd : 0 < d) : 0 < mkRat (n : Int) d := by
  rw [Rat.mkRat_eq_div]
  exact div_pos (Rat.natCast_pos.mpr hn) (Rat.natCast_pos.mpr hd)
theorem loadP_pos {s : Station} {c : Choice} {p : Nat} (hs : SOk s) (hc : COk c) (hp : 1 ≤ p) : 0 < loadP s c p :=
  mkRat_pos (Nat.mul_pos hs.a0 hp) (Nat.mul_pos hc.r0 (by decide))
theorem utilP_pos {s : Station} {c : Choice} {p : Nat} (hs : SOk s) (hc : COk c) (hp : 1 ≤ p) : 0 < utilP s c p :=
  mkRat_pos (Nat.mul_pos hs.a0 hp) (Nat.mul_pos (Nat.mul_pos hc.s0 hc.r0) (by decide))
theorem mk_mono {a b d : Nat} (h : a ≤ b) (hd : 0 < d) : mkRat (a : Int) d ≤ mkRat (b : Int) d := by
  rw [Rat.mkRat_eq_div, Rat.mkRat_eq_div]
  have h0 : (0 : Rat) < (d : Rat) := Rat.natCast_pos.mpr hd
  refine div_mono h0 h0 ?_
  exact Rat.mul_le_mul_of_nonneg_right (Rat.natCast_le_natCast.mpr h) (Rat.le_of_lt h0)
theorem loadP_mono {s : Station} {c : Choice} {p q : Nat} (hc : COk c) (h : p ≤ q) : loadP s c p ≤ loadP s c q := mk_mono (Nat.mul_le_mul_left _ h) (Nat.mul_pos hc.r0 (by decide))
theorem utilP_mono {s : Station} {c : Choice} {p q : Nat} (hc : COk c) (h : p ≤ q) : utilP s c p ≤ utilP s c q := mk_mono (Nat.mul_le_mul_left _ h) (Nat.mul_pos (Nat.mul_pos hc.s0 hc.r0) (by decide))
theorem okP_mono {m : Model} {s : Station} {c : Choice} {p q : Nat} (hc : COk c) (h : p ≤ q) (k : okP m s c q = true) : okP m s c p = true := by
  unfold okP at k ⊢
  rw [Bool.and_eq_true, decide_eq_true_iff, decide_eq_true_iff] at k ⊢
  have z := utilP_mono (s := s) hc h
  exact ⟨by grind, by grind⟩
theorem okP_lt {m : Model} {s : Station} {c : Choice} {p : Nat} (k : okP m s c p = true) : utilP s c p < 1 := by
  unfold okP at k
  rw [Bool.and_eq_true, decide_eq_true_iff] at k
  exact k.1
theorem wgtP_mono {s : Station} {c : Choice} {p q : Nat} (hs : SOk s) (hc : COk c) (h0 : 1 ≤ p) (h : p ≤ q) (hq : utilP s c q < 1) : wgtP s c p ≤ wgtP s c q := by
  unfold wgtP numP
  refine Rat.mul_le_mul_of_nonneg_left ?_ Rat.natCast_nonneg
  exact numR_mono (loadP_pos hs hc h0) (loadP_mono hc h) (utilP_pos hs hc h0) (utilP_mono hc h) hq

/-! ### sizes -/
theorem p17 : (100000 : Nat) < 2 ^ 17 := by decide
theorem sz_loadP {s : Station} {c : Choice} {p : Nat} (hs : SOk s) (hc : COk c) (hp : p ≤ 300) : Sz 25 (loadP s c p) := by
  have h1 : s.arrival * p ≤ 100000 * 300 := Nat.mul_le_mul hs.a1 hp
  have h2 : c.rate * 100 ≤ 100000 * 100 := Nat.mul_le_mul_right _ hc.r1
  exact Sz.mk (Nat.lt_of_le_of_lt h1 (by decide)) (Nat.lt_of_le_of_lt h2 (by decide)) (by have := hc.r0; omega)
theorem sz_utilP {s : Station} {c : Choice} {p : Nat} (hs : SOk s) (hc : COk c) (hp : p ≤ 300) : Sz 27 (utilP s c p) := by
  have h1 : s.arrival * p ≤ 100000 * 300 := Nat.mul_le_mul hs.a1 hp
  have h2 : c.servers * c.rate * 100 ≤ 10 * 100000 * 100 := Nat.mul_le_mul_right _ (Nat.mul_le_mul hc.s1 hc.r1)
  exact Sz.mk (Nat.lt_of_le_of_lt h1 (by decide)) (Nat.lt_of_le_of_lt h2 (by decide)) (Nat.ne_of_gt (Nat.mul_pos (Nat.mul_pos hc.s0 hc.r0) (by decide)))
theorem loadP_100 (s : Station) (c : Choice) : loadP s c 100 = mkRat (s.arrival : Int) c.rate := by
  unfold loadP
  rw [Int.natCast_mul]
  exact Rat.mkRat_mul_right (a := 100) (by decide)
theorem utilP_100 (s : Station) (c : Choice) : utilP s c 100 = mkRat (s.arrival : Int) (c.servers * c.rate) := by
  unfold utilP
  rw [Int.natCast_mul]
  exact Rat.mkRat_mul_right (a := 100) (by decide)
theorem sz_load100 {s : Station} {c : Choice} (hs : SOk s) (hc : COk c) : Sz 17 (loadP s c 100) := by
  rw [loadP_100]
  exact Sz.mk (Nat.lt_of_le_of_lt hs.a1 (by decide)) (Nat.lt_of_le_of_lt hc.r1 (by decide)) (by have := hc.r0; omega)
theorem sz_util100 {s : Station} {c : Choice} (hs : SOk s) (hc : COk c) : Sz 20 (utilP s c 100) := by
  rw [utilP_100]
  have h2 : c.servers * c.rate ≤ 10 * 100000 := Nat.mul_le_mul hc.s1 hc.r1
  exact Sz.mk (Nat.lt_of_le_of_lt hs.a1 (by decide)) (Nat.lt_of_le_of_lt h2 (by decide)) (Nat.ne_of_gt (Nat.mul_pos hc.s0 hc.r0))
theorem sz_numR {x u : Rat} {a b c : Nat} (hx : 0 < x) (h0 : 0 < u) (h1 : u < 1) (sx : Sz a x) (su : Sz b u) (hc : c ≤ 10) : Sz (21 * a + 3 * b + 109) (numR x u c) := by
  have hB := sz_eB hx sx hc
  have b0 := eB_pos hx c
  have b1 := eB_le hx c
  have d1 := wait_den (Rat.le_of_lt h0) h1 b0 b1
  have one : Sz 1 (1 : Rat) := Sz.one (by decide)
  have s1 := one.sub hB
  have s2 := su.mul s1
  have s3 := one.sub s2
  have s4 := hB.div s3 (Rat.ne_of_gt d1)
  have s5 := s4.mul su
  have s6 := s5.div (one.sub su) (by grind)
  unfold numR
  exact (sx.add s6).mono (by omega)
theorem sz_wgt {s : Station} {c : Choice} {p : Nat} (hs : SOk s) (hc : COk c) (h0 : 1 ≤ p) (hp : p ≤ 300) (h1 : utilP s c p < 1) : Sz 725 (wgtP s c p) := by
  have h := sz_numR (c := c.servers) (loadP_pos hs hc h0) (utilP_pos hs hc h0) h1 (sz_loadP hs hc hp) (sz_utilP hs hc hp) hc.s1
  have hw : Sz 10 (s.weight : Rat) := Sz.nat (Nat.lt_of_le_of_lt hs.w1 (by decide)) (by decide)
  exact (hw.mul h).mono (by omega)
theorem sz_wgt100 {s : Station} {c : Choice} (hs : SOk s) (hc : COk c) (h1 : utilP s c 100 < 1) : Sz 536 (wgtP s c 100) := by
  have h := sz_numR (c := c.servers) (loadP_pos hs hc (by decide)) (utilP_pos hs hc (by decide)) h1 (sz_load100 hs hc) (sz_util100 hs hc) hc.s1
  have hw : Sz 10 (s.weight : Rat) := Sz.nat (Nat.lt_of_le_of_lt hs.w1 (by decide)) (by decide)
  exact (hw.mul h).mono (by omega)

/-! ### the specification's words -/
theorem utilization_eq (a : Rat) (c : Choice) : Lrx8.utilization (ofRat a) c = ofRat (a / ((c.servers * c.rate : Nat) : Rat)) := by
  unfold Lrx8.utilization
  rw [wholeN_eq, divide_eq]
theorem erlangC_eq (x : Rat) (c : Nat) : Lrx2.erlangC (ofRat x) c = ofRat (eB x c / (1 - x / (c : Rat) * (1 - eB x c))) := by
  unfold Lrx2.erlangC
  dsimp only
  rw [erlangB_eq, wholeN_eq, divide_eq, one_eq, sub_eq, mul_eq, sub_eq, divide_eq]
theorem div_div (a : Rat) (s r : Nat) : a / (r : Rat) / (s : Rat) = a / ((s * r : Nat) : Rat) := by
  rw [Rat.natCast_mul, Rat.div_def, Rat.div_def, Rat.div_def, Rat.inv_mul_rev, Rat.mul_assoc]
theorem meanNumber_eq (a : Rat) (c : Choice) : Lrx8.meanNumber (ofRat a) c = ofRat (numR (a / (c.rate : Rat)) (a / ((c.servers * c.rate : Nat) : Rat)) c.servers) := by
  unfold Lrx8.meanNumber
  dsimp only
  rw [utilization_eq, show whole (c.rate : Int) = ofRat (c.rate : Rat) from rfl, divide_eq, erlangC_eq, one_eq, sub_eq, mul_eq, divide_eq, add_eq, div_div]
  rfl
theorem isAllowed_eq {m : Model} (h : MOk m) (a : Rat) (c : Choice) : Lrx8.isAllowed m (ofRat a) c = (decide (a / ((c.servers * c.rate : Nat) : Rat) < 1) && decide (a / ((c.servers * c.rate : Nat) : Rat) ≤ lim m)) := by
  unfold Lrx8.isAllowed
  rw [utilization_eq, one_eq, lt_eq, h.limit.1, le_eq]
theorem arr_load (s : Station) (c : Choice) (p : Nat) : arrP s p / (c.rate : Rat) = loadP s c p := by
  unfold arrP loadP
  rw [Rat.mkRat_eq_div, Rat.mkRat_eq_div, Nat.mul_comm]
  rw [show ((100 : Nat) : Rat) = ((100 : Nat) : Rat) from rfl, div_div, Nat.mul_comm]
theorem arr_util (s : Station) (c : Choice) (p : Nat) : arrP s p / ((c.servers * c.rate : Nat) : Rat) = utilP s c p := by
  unfold arrP utilP
  rw [Rat.mkRat_eq_div, Rat.mkRat_eq_div, div_div]
theorem arr_100 (s : Station) : arrP s 100 = (s.arrival : Rat) := by
  unfold arrP
  rw [Int.natCast_mul]
  have h := Rat.mkRat_mul_right (n := (s.arrival : Int)) (d := 1) (a := 100) (by decide)
  have e : mkRat ((s.arrival : Int) * ((100 : Nat) : Int)) 100 = mkRat (s.arrival : Int) 1 := h
  rw [e, Rat.mkRat_eq_div]
  show ((s.arrival : Int) : Rat) / ((1 : Nat) : Rat) = _
  have : ((1 : Nat) : Rat) = 1 := rfl
  rw [this]
  show ((s.arrival : Nat) : Rat) / 1 = _
  grind
theorem arrivalOf_eq (s : Station) : Lrx8.arrivalOf s = ofRat (arrP s 100) := by
  rw [arr_100]
  rfl
theorem mean_eqP (s : Station) (c : Choice) (p : Nat) : Lrx8.meanNumber (ofRat (arrP s p)) c = ofRat (numP s c p) := by
  rw [meanNumber_eq, arr_load, arr_util]
  rfl
theorem weighted_eq (s : Station) (c : Choice) : Lrx8.weighted s c = ofRat (wgtP s c 100) := by
  unfold Lrx8.weighted
  rw [arrivalOf_eq, mean_eqP, show whole (s.weight : Int) = ofRat (s.weight : Rat) from rfl, mul_eq]
  rfl
theorem util_eqP (s : Station) (c : Choice) : Lrx8.utilization (Lrx8.arrivalOf s) c = ofRat (utilP s c 100) := by
  rw [arrivalOf_eq, utilization_eq, arr_util]
theorem allowed_eqP {m : Model} (h : MOk m) (s : Station) (c : Choice) (p : Nat) : Lrx8.isAllowed m (ofRat (arrP s p)) c = okP m s c p := by
  rw [isAllowed_eq h, arr_util]
  rfl
end Mt

/-! ## Mth4 -/
set_option Elab.async false
set_option linter.all false
set_option autoImplicit false
/-! The mathematics, fourth part: a stable sort by insertion. -/
namespace Mt
section
variable {α β : Type}
/-- x goes behind all items whose key is not greater -/
def insC (c : α → Nat) (x : α) : List α → List α
  | [] => [x]
  | y :: r => if c x < c y then x :: y :: r else y :: insC c x r
def stC (c : α → Nat) (l : List α) : List α := l.foldl (fun acc x => insC c x acc) []
theorem insC_perm (c : α → Nat) (x : α) : ∀ l : List α, (insC c x l).Perm (x :: l)
  | [] => List.Perm.refl _
  | y :: r => by
    unfold insC
    split
    · exact List.Perm.refl _
    · exact ((insC_perm c x r).cons y).trans (List.Perm.swap x y r)
theorem stC_perm' (c : α → Nat) : ∀ (l acc : List α), (l.foldl (fun acc x => insC c x acc) acc).Perm (acc ++ l)
  | [], acc => by simp
  | x :: l, acc => by
    refine (stC_perm' c l (insC c x acc)).trans ?_
    refine ((insC_perm c x acc).append_right l).trans ?_
    exact (List.perm_middle (l₁ := acc)).symm
theorem stC_perm (c : α → Nat) (l : List α) : (stC c l).Perm l := stC_perm' c l []
theorem insC_map (c : β → Nat) (f : α → β) (x : α) : ∀ l : List α, insC c (f x) (l.map f) = (insC (fun a => c (f a)) x l).map f
  | [] => rfl
  | y :: r => by
    rw [List.map_cons]
    unfold insC
    split
    · rfl
    · rw [List.map_cons, insC_map c f x r]
theorem stC_map' (c : β → Nat) (f : α → β) : ∀ (l acc : List α), (l.map f).foldl (fun acc x => insC c x acc) (acc.map f) = (l.foldl (fun acc x => insC (fun a => c (f a)) x acc) acc).map f
  | [], acc => rfl
  | x :: l, acc => by
    rw [List.map_cons, List.foldl_cons, List.foldl_cons, insC_map]
    exact stC_map' c f l _
theorem stC_map (c : β → Nat) (f : α → β) (l : List α) : stC c (l.map f) = (stC (fun a => c (f a)) l).map f := stC_map' c f l []
/-- before a in a list sorted by key, ties by index -/
def Bf (c i : α → Nat) (x y : α) : Prop := c x < c y ∨ (c x = c y ∧ i x < i y)
theorem insC_sorted (c i : α → Nat) (x : α) : ∀ l : List α, (∀ y ∈ l, i y < i x) → l.Pairwise (Bf c i) → (insC c x l).Pairwise (Bf c i)
  | [], _, _ => List.pairwise_singleton _ _
  | y :: r, h, p => by
    rw [List.pairwise_cons] at p
    unfold insC
    split
    · rename_i hc
      rw [List.pairwise_cons]
      refine ⟨fun z hz => ?_, List.pairwise_cons.mpr p⟩
      rcases List.mem_cons.mp hz with rfl | hz
      · exact .inl hc
      · rcases p.1 z hz with q | q
        · exact .inl (by omega)
        · exact .inl (by omega)
    · rename_i hc
      rw [List.pairwise_cons]
      refine ⟨fun z hz => ?_, insC_sorted c i x r (fun z hz => h z (by simp [hz])) p.2⟩
      have hz' := (insC_perm c x r).mem_iff.mp hz
      rcases List.mem_cons.mp hz' with rfl | hz'
      · have := h y (by simp)
        by_cases e : c y < c z
        · exact .inl e
        · exact .inr ⟨by omega, this⟩
      · exact p.1 z hz'
theorem stC_sorted' (c i : α → Nat) : ∀ (l acc : List α), (acc ++ l).Pairwise (fun x y => i x < i y ∨ (x ∈ acc ∧ y ∈ acc)) → acc.Pairwise (Bf c i) → (∀ x ∈ acc, ∀ y ∈ l, i x < i y) → l.Pairwise (fun x y => i x < i y) → (l.foldl (fun acc x => insC c x acc) acc).Pairwise (Bf c i)
  | [], acc, _, h, _, _ => h
  | x :: l, acc, h0, h, h2, h3 => by
    rw [List.pairwise_cons] at h3
    refine stC_sorted' c i l (insC c x acc) ?_ (insC_sorted c i x acc (fun y hy => h2 y hy x (by simp)) h) ?_ h3.2
    · rw [List.pairwise_append]
      refine ⟨?_, ?_, ?_⟩
      · refine List.Pairwise.imp_of_mem (R := fun _ _ => True) (fun ha hb _ => .inr ⟨ha, hb⟩) ?_
        exact List.pairwise_of_forall fun _ _ => trivial
      · exact h3.2.imp fun q => .inl q
      · intro a ha b hb
        rcases List.mem_cons.mp ((insC_perm c x acc).mem_iff.mp ha) with rfl | ha
        · exact .inl (h3.1 b hb)
        · exact .inl (h2 a ha b (by simp [hb]))
    · intro a ha b hb
      rcases List.mem_cons.mp ((insC_perm c x acc).mem_iff.mp ha) with rfl | ha
      · exact h3.1 b hb
      · exact h2 a ha b (by simp [hb])
/-- of a list in increasing indices: by key, ties by index -/
theorem stC_sorted (c i : α → Nat) (l : List α) (h : l.Pairwise fun x y => i x < i y) : (stC c l).Pairwise (Bf c i) :=
  stC_sorted' c i l [] (by rw [List.nil_append]; exact h.imp fun q => .inl q) List.Pairwise.nil (fun x hx => absurd hx (by simp)) h
theorem zipIdx_inc (l : List α) : l.zipIdx.Pairwise fun x y => x.2 < y.2 := by
  have h : (l.zipIdx.map (·.2)).Pairwise (· < ·) := by
    rw [List.zipIdx_map_snd]
    exact List.pairwise_lt_range'
  exact List.pairwise_map.mp h
theorem stC_zip (c : α → Nat) (l : List α) : (stC (fun z : α × Nat => c z.1) l.zipIdx).map (·.1) = stC c l := by
  rw [← stC_map c (fun z : α × Nat => z.1), List.zipIdx_map_fst]
/-! by key alone -/
theorem insC_le (c : α → Nat) (x : α) : ∀ l : List α, l.Pairwise (fun x y => c x ≤ c y) → (insC c x l).Pairwise (fun x y => c x ≤ c y)
  | [], _ => List.pairwise_singleton _ _
  | y :: r, p => by
    rw [List.pairwise_cons] at p
    unfold insC
    split
    · rename_i hc
      rw [List.pairwise_cons]
      refine ⟨fun z hz => ?_, List.pairwise_cons.mpr p⟩
      rcases List.mem_cons.mp hz with rfl | hz
      · omega
      · have := p.1 z hz
        omega
    · rename_i hc
      rw [List.pairwise_cons]
      refine ⟨fun z hz => ?_, insC_le c x r p.2⟩
      rcases List.mem_cons.mp ((insC_perm c x r).mem_iff.mp hz) with rfl | hz
      · omega
      · exact p.1 z hz
theorem stC_le' (c : α → Nat) : ∀ (l acc : List α), acc.Pairwise (fun x y => c x ≤ c y) → (l.foldl (fun acc x => insC c x acc) acc).Pairwise (fun x y => c x ≤ c y)
  | [], _, h => h
  | x :: l, acc, h => stC_le' c l _ (insC_le c x acc h)
theorem stC_le (c : α → Nat) (l : List α) : (stC c l).Pairwise (fun x y => c x ≤ c y) := stC_le' c l [] List.Pairwise.nil
end
end Mt

/-! ## Pu1 -/
set_option Elab.async false
set_option linter.all false
set_option maxRecDepth 100000
set_option maxHeartbeats 2000000
set_option autoImplicit false
/-! The defs of fractions: what they hand back. -/
namespace Pd
open PySem PySem.Spec PyProof.Rows L2 Mt

/-- a rational as the program has it -/
def rq (q : Rat) : D := .tup [.int q.num, .int q.den]
section
variable {K : PySem.W.Frag} {C : Nat → Addr} {δ : List Sd} {i j : Int} {x y : D} {ds es : List D}
theorem rd_addA : RD K C rAddA (.int i) (.int j) (.int (i + j)) := rd_l rd_I0
theorem rd_catA (h : ds.length + es.length ≤ 1000000) : RD K C rAddA (.lst ds) (.lst es) (.lst (ds ++ es)) := rd_r (rd_cat h)
theorem rd_eqI : RD K C (rEqA K) (.int i) (.int j) (.bl (decide (i = j))) := rd_l fun F H vx vy Q fh hx hy q => by
  cases hx
  cases hy
  have e : decide (V.int i = V.int j) = decide (i = j) := by simp
  refine ⟨rfl, ?_⟩
  rw [e]
  exact q _ F H (.refl fh) (.bl _)
theorem rd_neI : RD K C (rNeA K) (.int i) (.int j) (.bl (!decide (i = j))) := rd_l fun F H vx vy Q fh hx hy q => by
  cases hx
  cases hy
  have e : decide (V.int i = V.int j) = decide (i = j) := by simp
  refine ⟨rfl, ?_⟩
  rw [e]
  exact q _ F H (.refl fh) (.bl _)
theorem rd_eqDA {n m : Nat} (h1 : Fl n x) (h2 : Fl m y) (hn : n ≤ 64) (hm : m ≤ 64) : RD K C (rEqA K) x y (.bl (PyData.eqv (toPy x) (toPy y))) := rd_r (rd_eqD h1 h2 hn hm)
theorem rd_neDA {n m : Nat} (h1 : Fl n x) (h2 : Fl m y) (hn : n ≤ 64) (hm : m ≤ 64) : RD K C (rNeA K) x y (.bl (!PyData.eqv (toPy x) (toPy y))) := rd_r (rd_neD h1 h2 hn hm)
theorem rd_num {q : Rat} : RD K C (rIx K) (rq q) (.int 0) (.int q.num) := rd_ix_t rfl
theorem rd_den {q : Rat} : RD K C (rIx K) (rq q) (.int 1) (.int q.den) := rd_ix_t rfl
theorem ed_nought {mg : Str → Option Value} {A : Ad} (T : Cst K mg A) : ED K C (tC (.ref A.nought)) δ (rq 0) := ed_ktup T.k_nought
theorem ed_one {mg : Str → Option Value} {A : Ad} (T : Cst K mg A) : ED K C (tC (.ref A.one)) δ (rq 1) := ed_ktup T.k_one
end
local macro_rules | `(tactic| walk_at "ed") => `(tactic| repeat' (first
  | exact ed_var rfl | exact ed_int | exact ed_bl | exact ed_non
  | exact rd_num | exact rd_den | exact rd_addA | exact rd_I0 | exact rd_B0 | exact rd_eqI | exact rd_neI | exact rd_isN | exact rd_notN
  | apply rd_I
  | apply ed_op
  | exact ad_nil | apply ad_cons
  | apply td_test | apply td_B | apply td_not
  | assumption))

/-! ### common -/
def R_common (ds : List D) (r : Except Int D) : Prop := ∃ a b : Int, ds = [.int a, .int b] ∧ r = .ok (.int (Int.gcd a b))
section
variable {K : PySem.W.Frag} {mg : Str → Option Value} {A : Ad} {P : Program} {w : World} {base : Heap}
theorem abs_eq (i : Int) : (if i < 0 then -i else i) = (i.natAbs : Int) := by split <;> omega
theorem pu_common (vs : List V) (H : Hp) (Q : VK) (E : XK) (hsp : spP K A.c A.ce R_common vs H Q E) : t_common K A { nx := fun _ H' => Q .non H', rt := Q } (L2.start ["one", "other"] vs) H :=
  pure_of (k := 0) (by
    rintro ds r ⟨a, b, rfl, rfl⟩
    refine ⟨rfl, _, fit_outOf _, ?_⟩
    refine sd_seq (sd_par (x := .int (a.natAbs : Nat)) (y := .int (b.natAbs : Nat)) (ad_cons (ed_cb (ad_cons (ed_var rfl) ad_nil) (abs_eq a ▸ cd_abs)) (ad_cons (ed_cb (ad_cons (ed_var rfl) ad_nil) (abs_eq b ▸ cd_abs)) ad_nil))) ?_
    refine sd_seq (δ1 := [.dat (.int (Int.gcd a b)), .any]) (sd_while (α := Nat × Nat) (fun s => [.dat (.int s.1), .dat (.int s.2)]) (fun s => Nat.gcd s.1 s.2 = Int.gcd a b) (fun s => decide ((0 : Int) < s.2)) (fun s => s.2) (fun s => (s.2, s.1 % s.2)) (a.natAbs, b.natAbs) rfl (Sle.refl _) ?_ ?_ ?_) (sd_ret (ed_var rfl))
    · intro s _
      walk_at "ed"
    · rintro ⟨u, v⟩ hi hb
      have hv : 0 < v := by
        have := of_decide_eq_true hb
        simpa using this
      refine ⟨?_, ?_, Nat.mod_lt _ hv⟩
      · refine sd_par (x := .int (v : Nat)) (y := .int ((u % v : Nat) : Int)) ?_
        rw [Int.natCast_emod]
        walk_at "ed"
        exact Int.natCast_pos.mpr hv
      · show Nat.gcd v (u % v) = _
        rw [Nat.gcd_comm v, ← Nat.gcd_rec, Nat.gcd_comm]
        exact hi
    · rintro ⟨u, v⟩ hi hb
      have hv : v = 0 := by
        have := of_decide_eq_false hb
        omega
      subst hv
      have e : u = Int.gcd a b := by rw [← hi]; simp
      subst e
      exact .same (.any .nil)) hsp
theorem pr_common (T : Txt K mg A) : Cal0 P w K mg base 1 "common" (spP K A.c A.ce R_common) := cal_common T (spP_len (by rintro ds r ⟨a, b, rfl, _⟩; rfl)) pu_common

/-! ### fraction -/
def R_fraction (ds : List D) (r : Except Int D) : Prop := ∃ (n e : Int) (d : Nat), ds = [.int n, .int e] ∧ e = d ∧ 0 < d ∧ d < 2 ^ 9000 ∧ r = .ok (rq (mkRat n d))
theorem pu_fraction (vs : List V) (H : Hp) (Q : VK) (E : XK) (hsp : spP K A.c A.ce R_fraction vs H Q E) : t_fraction K A (spP K A.c A.ce R_common) { nx := fun _ H' => Q .non H', rt := Q } (L2.start ["num", "den", "divisor"] vs) H :=
  pure_of (k := 1) (by
    rintro ds r ⟨n, e, d, rfl, rfl, hd, hz, rfl⟩
    refine ⟨rfl, _, fit_outOf _, ?_⟩
    refine sd_seq (sd_set (ed_call (d := .int (Int.gcd n d)) (by walk_at "ed") ⟨n, d, rfl, rfl⟩)) ?_
    have g0 : 0 < Int.gcd n (d : Int) := Int.gcd_pos_of_ne_zero_right _ (by omega)
    have g1 : Int.gcd n (d : Int) ≤ d := Nat.le_of_dvd hd (Int.gcd_dvd_right n d |> Int.natCast_dvd_natCast.mp)
    have hc : ∀ i, CDivW i (Int.gcd n (d : Int) : Nat) := fun i => wide_div (b := 9000) (Int.natCast_pos.mpr g0) (Nat.lt_of_le_of_lt g1 hz) (by decide) (by decide)
    refine sd_seq (sd_if (b := false) (by
      have e : decide ((d : Int) < 0) = false := decide_eq_false (by omega)
      rw [← e]
      walk_at "ed") (fun q => Bool.noConfusion q) fun _ => sd_next) ?_
    refine sd_ret ((ed_tup (ds := [.int (n / (Int.gcd n (d : Int) : Nat)), .int ((d : Int) / (Int.gcd n (d : Int) : Nat))]) (by
      walk_at "ed"
      · exact hc n
      · exact hc d) (Nat.le_of_ble_eq_true rfl)).is ?_)
    unfold rq
    rw [Rat.num_mkRat, Rat.den_mkRat, if_neg (by omega), if_neg (by omega), Nat.gcd_comm]
    rfl) hsp
theorem pr_fraction (T : Txt K mg A) : Cal0 P w K mg base 2 "fraction" (spP K A.c A.ce R_fraction) := cal_fraction T (pr_common T) (spP_len (by rintro ds r ⟨a, b, c, rfl, _⟩; rfl)) pu_fraction

/-! ### the four operations, the order -/
theorem sz_pos {k : Nat} {q : Rat} (h : Sz k q) : 0 < k := by
  cases k with
  | zero =>
    have h1 := h.2
    have h2 := q.den_pos
    simp at h1
    omega
  | succ k => omega
def R_arith (f : Rat → Rat → Rat) (c : Rat → Rat → Prop) (ds : List D) (r : Except Int D) : Prop := ∃ (p q : Rat) (j k : Nat), ds = [rq p, rq q] ∧ Sz j p ∧ Sz k q ∧ j + k ≤ 9000 ∧ c p q ∧ r = .ok (rq (f p q))
abbrev R_plus := R_arith (fun p q => p + q) fun _ _ => True
abbrev R_minus := R_arith (fun p q => p - q) fun _ _ => True
abbrev R_times := R_arith (fun p q => p * q) fun _ _ => True
abbrev R_over := R_arith (fun p q => p / q) fun _ q => 0 < q
theorem cm {i j : Int} {a b : Nat} (ha : i.natAbs < 2 ^ a) (hb : j.natAbs < 2 ^ b) (h : a + b ≤ 9000) (h0 : 0 < a) (h1 : 0 < b) : CMulW i j := wide_mul ha hb h0 h1 (Nat.le_trans h (by decide))
theorem den_lt {j k : Nat} {p q : Rat} (hp : Sz j p) (hq : Sz k q) (h : j + k ≤ 9000) : p.den * q.den < 2 ^ 9000 := Nat.lt_of_lt_of_le (pow_lt hp.2 hq.2) (Nat.pow_le_pow_right (by decide) h)
theorem arith_len {f : Rat → Rat → Rat} {c : Rat → Rat → Prop} (ds : List D) (r : Except Int D) (h : R_arith f c ds r) : ds.length = 2 := by
  obtain ⟨p, q, j, k, rfl, _⟩ := h
  rfl
theorem pu_plus (vs : List V) (H : Hp) (Q : VK) (E : XK) (hsp : spP K A.c A.ce R_plus vs H Q E) : t_plus K A (spP K A.c A.ce R_fraction) { nx := fun _ H' => Q .non H', rt := Q } (L2.start ["one", "other"] vs) H :=
  pure_of (k := 0) (by
    rintro ds r ⟨p, q, j, k, rfl, hp, hq, hl, -, rfl⟩
    have j0 := sz_pos hp
    have k0 := sz_pos hq
    refine ⟨rfl, _, fit_outOf _, sd_ret (ed_call (d := rq (p + q)) (ds := [.int (p.num * q.den + q.num * p.den), .int ((p.den : Int) * q.den)]) ?_ ⟨_, _, p.den * q.den, rfl, (Int.natCast_mul _ _).symm, Nat.mul_pos p.den_pos q.den_pos, den_lt hp hq hl, by rw [Rat.add_def']⟩)⟩
    walk_at "ed"
    · exact cm hp.1 hq.2 hl j0 k0
    · exact cm hq.1 hp.2 (by omega) k0 j0
    · exact cm hp.2 hq.2 hl j0 k0) hsp
theorem pr_plus (T : Txt K mg A) : Cal0 P w K mg base 3 "plus" (spP K A.c A.ce R_plus) := cal_plus T (pr_fraction T) (spP_len arith_len) pu_plus
theorem pu_minus (vs : List V) (H : Hp) (Q : VK) (E : XK) (hsp : spP K A.c A.ce R_minus vs H Q E) : t_minus K A (spP K A.c A.ce R_fraction) { nx := fun _ H' => Q .non H', rt := Q } (L2.start ["one", "other"] vs) H :=
  pure_of (k := 0) (by
    rintro ds r ⟨p, q, j, k, rfl, hp, hq, hl, -, rfl⟩
    have j0 := sz_pos hp
    have k0 := sz_pos hq
    refine ⟨rfl, _, fit_outOf _, sd_ret (ed_call (d := rq (p - q)) (ds := [.int (p.num * q.den - q.num * p.den), .int ((p.den : Int) * q.den)]) ?_ ⟨_, _, p.den * q.den, rfl, (Int.natCast_mul _ _).symm, Nat.mul_pos p.den_pos q.den_pos, den_lt hp hq hl, by rw [Rat.sub_def']⟩)⟩
    walk_at "ed"
    · exact cm hp.1 hq.2 hl j0 k0
    · exact cm hq.1 hp.2 (by omega) k0 j0
    · exact cm hp.2 hq.2 hl j0 k0) hsp
theorem pr_minus (T : Txt K mg A) : Cal0 P w K mg base 3 "minus" (spP K A.c A.ce R_minus) := cal_minus T (pr_fraction T) (spP_len arith_len) pu_minus
theorem pu_times (vs : List V) (H : Hp) (Q : VK) (E : XK) (hsp : spP K A.c A.ce R_times vs H Q E) : t_times K A (spP K A.c A.ce R_fraction) { nx := fun _ H' => Q .non H', rt := Q } (L2.start ["one", "other"] vs) H :=
  pure_of (k := 0) (by
    rintro ds r ⟨p, q, j, k, rfl, hp, hq, hl, -, rfl⟩
    have j0 := sz_pos hp
    have k0 := sz_pos hq
    refine ⟨rfl, _, fit_outOf _, sd_ret (ed_call (d := rq (p * q)) (ds := [.int (p.num * q.num), .int ((p.den : Int) * q.den)]) ?_ ⟨_, _, p.den * q.den, rfl, (Int.natCast_mul _ _).symm, Nat.mul_pos p.den_pos q.den_pos, den_lt hp hq hl, by rw [Rat.mul_def']⟩)⟩
    walk_at "ed"
    · exact cm hp.1 hq.1 hl j0 k0
    · exact cm hp.2 hq.2 hl j0 k0) hsp
theorem pr_times (T : Txt K mg A) : Cal0 P w K mg base 3 "times" (spP K A.c A.ce R_times) := cal_times T (pr_fraction T) (spP_len arith_len) pu_times
theorem pu_over (vs : List V) (H : Hp) (Q : VK) (E : XK) (hsp : spP K A.c A.ce R_over vs H Q E) : t_over K A (spP K A.c A.ce R_fraction) { nx := fun _ H' => Q .non H', rt := Q } (L2.start ["one", "other"] vs) H :=
  pure_of (k := 0) (by
    rintro ds r ⟨p, q, j, k, rfl, hp, hq, hl, h0, rfl⟩
    have j0 := sz_pos hp
    have k0 := sz_pos hq
    have n0 : 0 < q.num := by
      have h1 := Rat.num_nonneg.mpr (Rat.le_of_lt h0)
      have h2 : q.num ≠ 0 := fun z => Rat.ne_of_gt h0 (Rat.num_eq_zero.mp z)
      omega
    refine ⟨rfl, _, fit_outOf _, sd_ret (ed_call (d := rq (p / q)) (ds := [.int (p.num * q.den), .int ((p.den : Int) * q.num)]) ?_ ⟨_, _, p.den * q.num.natAbs, rfl, ?_, Nat.mul_pos p.den_pos (by omega), Nat.lt_of_lt_of_le (pow_lt hp.2 hq.1) (Nat.pow_le_pow_right (by decide) hl), by rw [div_mk, if_neg (by omega)]⟩)⟩
    · walk_at "ed"
      · exact cm hp.1 hq.2 hl j0 k0
      · exact cm hp.2 hq.1 hl j0 k0
    · rw [Int.natCast_mul, Int.natAbs_of_nonneg (by omega)]) hsp
theorem pr_over (T : Txt K mg A) : Cal0 P w K mg base 3 "over" (spP K A.c A.ce R_over) := cal_over T (pr_fraction T) (spP_len arith_len) pu_over
def R_is_less (ds : List D) (r : Except Int D) : Prop := ∃ (p q : Rat) (j k : Nat), ds = [rq p, rq q] ∧ Sz j p ∧ Sz k q ∧ j + k ≤ 500000 ∧ r = .ok (.bl (decide (p < q)))
theorem pu_is_less (vs : List V) (H : Hp) (Q : VK) (E : XK) (hsp : spP K A.c A.ce R_is_less vs H Q E) : t_is_less K A { nx := fun _ H' => Q .non H', rt := Q } (L2.start ["one", "other"] vs) H :=
  pure_of (k := 0) (by
    rintro ds r ⟨p, q, j, k, rfl, hp, hq, hl, rfl⟩
    have j0 := sz_pos hp
    have k0 := sz_pos hq
    refine ⟨rfl, _, fit_outOf _, sd_ret (ED.is (d := .bl (decide (p.num * q.den < q.num * p.den))) ?_ ?_)⟩
    · walk_at "ed"
      · exact wide_mul hp.1 hq.2 j0 k0 (by omega)
      · exact wide_mul hq.1 hp.2 k0 j0 (by omega)
    · congr 1
      exact decide_eq_decide.mpr (Rat.lt_iff p q).symm) hsp
theorem pr_is_less (T : Txt K mg A) : Cal0 P w K mg base 1 "is_less" (spP K A.c A.ce R_is_less) := cal_is_less T (spP_len (by rintro ds r ⟨p, q, j, k, rfl, _⟩; rfl)) pu_is_less
def R_whole (ds : List D) (r : Except Int D) : Prop := ∃ n : Int, ds = [.int n] ∧ r = .ok (rq n)
theorem pu_whole (vs : List V) (H : Hp) (Q : VK) (E : XK) (hsp : spP K A.c A.ce R_whole vs H Q E) : t_whole K A { nx := fun _ H' => Q .non H', rt := Q } (L2.start ["number"] vs) H :=
  pure_of (k := 0) (by
    rintro ds r ⟨n, rfl, rfl⟩
    refine ⟨rfl, _, fit_outOf _, sd_ret (ed_tup (ds := [.int n, .int 1]) ?_ (by simp))⟩
    walk_at "ed") hsp
theorem pr_whole (T : Txt K mg A) : Cal0 P w K mg base 1 "whole" (spP K A.c A.ce R_whole) := cal_whole T (spP_len (by rintro ds r ⟨n, rfl, _⟩; rfl)) pu_whole

/-! ### a sum -/
theorem sumR_take {qs : List Rat} {i : Nat} {q : Rat} (h : qs[i]? = some q) : sumR (qs.take (i + 1)) = sumR (qs.take i) + q := by
  unfold sumR
  rw [take_more' h, List.foldl_append]
  rfl
theorem sz_sum {k : Nat} (hk : 0 < k) {qs : List Rat} (h : ∀ q ∈ qs, Sz k q) : ∀ i, i ≤ qs.length → Sz (1 + i * (k + 1)) (sumR (qs.take i))
  | 0, _ => Sz.zero (by omega)
  | i + 1, hi => by
    have e : qs[i]? = some qs[i] := List.getElem?_eq_getElem hi
    rw [sumR_take e]
    have h1 := (sz_sum hk h i (by omega)).add (h qs[i] (List.getElem_mem hi))
    exact h1.mono (by rw [Nat.add_mul]; omega)
theorem sz_sumAll {k : Nat} (hk : 0 < k) {qs : List Rat} (h : ∀ q ∈ qs, Sz k q) : Sz (1 + qs.length * (k + 1)) (sumR qs) := by
  have h1 := sz_sum hk h qs.length (Nat.le_refl _)
  rwa [List.take_length] at h1
def R_sum_of (ds : List D) (r : Except Int D) : Prop := ∃ (qs : List Rat) (k : Nat), ds = [.lst (qs.map rq)] ∧ 0 < k ∧ (∀ q ∈ qs, Sz k q) ∧ 1 + qs.length * (k + 1) ≤ 9000 ∧ r = .ok (rq (sumR qs))
theorem pu_sum_of (T : Cst K mg A) (vs : List V) (H : Hp) (Q : VK) (E : XK) (hsp : spP K A.c A.ce R_sum_of vs H Q E) : t_sum_of K A (spP K A.c A.ce R_plus) { nx := fun _ H' => Q .non H', rt := Q } (L2.start ["some", "found", "one"] vs) H :=
  pure_of (k := 2) (by
    rintro ds r ⟨qs, k, rfl, k0, hq, hl, rfl⟩
    refine ⟨rfl, _, fit_outOf _, sd_seq (sd_set (ed_nought T)) ?_⟩
    refine sd_seq (sd_for (ts := [2]) (fun i => [.dat (.lst (qs.map rq)), .dat (rq (sumR (qs.take i))), .any]) (wd_list (ed_var rfl)) (.same (.same (.any .nil))) ?_) ?_
    · intro i d hd
      rw [List.getElem?_map] at hd
      cases e : qs[i]? with
      | none =>
        rw [e] at hd
        cases hd
      | some q =>
        rw [e] at hd
        cases hd
        obtain ⟨hi, e'⟩ := List.getElem?_eq_some_iff.mp e
        have h1 := sz_sum k0 hq i (by omega)
        have h2 : Sz k q := hq q (List.mem_of_getElem? e)
        refine ⟨_, gd_name, ?_⟩
        refine (sd_set (ed_call (d := rq (sumR (qs.take i) + q)) (ds := [rq (sumR (qs.take i)), rq q]) (by walk_at "ed") ⟨_, _, _, _, rfl, h1, h2, ?_, trivial, rfl⟩)).weak ?_
        · rw [sumR_take e]
          exact .same (.same (.any .nil))
        · have z : (i + 1) * (k + 1) ≤ qs.length * (k + 1) := Nat.mul_le_mul_right _ hi
          rw [Nat.add_mul] at z
          omega
    · refine sd_ret ((ed_var (d := rq (sumR (qs.take (qs.map rq).length))) rfl).is ?_)
      rw [List.length_map, List.take_length]) hsp
theorem pr_sum_of (T : Txt K mg A) : Cal0 P w K mg base 4 "sum_of" (spP K A.c A.ce R_sum_of) := cal_sum_of T (pr_plus T) (spP_len (by rintro ds r ⟨qs, k, rfl, _⟩; rfl)) (pu_sum_of T.toCst)
end
end Pd

/-! ## Pu2 -/
set_option Elab.async false
set_option linter.all false
set_option maxRecDepth 100000
set_option maxHeartbeats 2000000
set_option autoImplicit false
/-! The defs of stations and options: what they hand back. -/
namespace Pd
open PySem PySem.Spec PyProof.Rows L2 Mt

/-! ### the model as data -/
def fr (f : Lrx1.Fraction) : D := .tup [.int f.num, .int f.den]
theorem fr_ofRat (q : Rat) : fr (ofRat q) = rq q := rfl
def encC (c : Lrx8.Choice) : D := .obj 0 (.int c.servers) (.int c.rate) (.int c.cost)
def encS (s : Lrx8.Station) : D := .obj 1 (.int s.arrival) (.int s.weight) (.lst (s.choices.map encC))
def encM (m : Lrx8.Model) : D := .obj 2 (.lst (m.stations.map encS)) (fr m.target) (fr m.limit)
theorem encM_eq {m : Lrx8.Model} (hm : MOk m) : encM m = .obj 2 (.lst (m.stations.map encS)) (rq (tgt m)) (rq (lim m)) := by
  have h1 : fr m.target = rq (tgt m) := congrArg fr hm.target.1
  have h2 : fr m.limit = rq (lim m) := congrArg fr hm.limit.1
  unfold encM
  rw [h1, h2]
section
variable {K : PySem.W.Frag} {mg : Str → Option Value} {A : Ad} {P : Program} {w : World} {base : Heap} {te : TE} {δ : List Sd} {x y z : D}
theorem ed_servers (T : Cst K mg A) (h : ED K A.c te δ (.obj 0 x y z)) : ED K A.c (tFld K te "servers") δ x := ed_fld h T.cls0 T.a_servers (.inl ⟨rfl, rfl⟩)
theorem ed_rate (T : Cst K mg A) (h : ED K A.c te δ (.obj 0 x y z)) : ED K A.c (tFld K te "rate") δ y := ed_fld h T.cls0 T.a_rate (.inr (.inl ⟨rfl, by decide, rfl⟩))
theorem ed_cost (T : Cst K mg A) (h : ED K A.c te δ (.obj 0 x y z)) : ED K A.c (tFld K te "cost") δ z := ed_fld h T.cls0 T.a_cost (.inr (.inr ⟨rfl, by decide, by decide, rfl⟩))
theorem ed_arrival (T : Cst K mg A) (h : ED K A.c te δ (.obj 1 x y z)) : ED K A.c (tFld K te "arrival") δ x := ed_fld h T.cls1 T.a_arrival (.inl ⟨rfl, rfl⟩)
theorem ed_weight (T : Cst K mg A) (h : ED K A.c te δ (.obj 1 x y z)) : ED K A.c (tFld K te "weight") δ y := ed_fld h T.cls1 T.a_weight (.inr (.inl ⟨rfl, by decide, rfl⟩))
theorem ed_options (T : Cst K mg A) (h : ED K A.c te δ (.obj 1 x y z)) : ED K A.c (tFld K te "options") δ z := ed_fld h T.cls1 T.a_options (.inr (.inr ⟨rfl, by decide, by decide, rfl⟩))
theorem ed_stations (T : Cst K mg A) (h : ED K A.c te δ (.obj 2 x y z)) : ED K A.c (tFld K te "stations") δ x := ed_fld h T.cls2 T.a_stations (.inl ⟨rfl, rfl⟩)
theorem ed_target (T : Cst K mg A) (h : ED K A.c te δ (.obj 2 x y z)) : ED K A.c (tFld K te "target") δ y := ed_fld h T.cls2 T.a_target (.inr (.inl ⟨rfl, by decide, rfl⟩))
theorem ed_limit (T : Cst K mg A) (h : ED K A.c te δ (.obj 2 x y z)) : ED K A.c (tFld K te "limit") δ z := ed_fld h T.cls2 T.a_limit (.inr (.inr ⟨rfl, by decide, by decide, rfl⟩))
end
local macro_rules | `(tactic| walk_at "ed") => `(tactic| repeat' (first
  | exact ed_var rfl | exact ed_int | exact ed_bl | exact ed_non
  | exact rd_num | exact rd_den | exact rd_addA | exact rd_I0 | exact rd_B0 | exact rd_eqI | exact rd_neI | exact rd_isN | exact rd_notN
  | exact rd_ix_t rfl
  | exact ed_one (by assumption) | exact ed_nought (by assumption)
  | apply rd_I
  | apply ed_op
  | exact ad_nil | apply ad_cons
  | apply td_test | apply td_B | apply td_not
  | apply ed_servers (by assumption) | apply ed_rate (by assumption) | apply ed_cost (by assumption)
  | apply ed_arrival (by assumption) | apply ed_weight (by assumption) | apply ed_options (by assumption)
  | apply ed_stations (by assumption) | apply ed_target (by assumption) | apply ed_limit (by assumption)
  | assumption))

section
variable {K : PySem.W.Frag} {mg : Str → Option Value} {A : Ad} {P : Program} {w : World} {base : Heap}
/-! ### blocked -/
def R_blocked (ds : List D) (r : Except Int D) : Prop := ∃ (x : Rat) (c a : Nat), ds = [rq x, .int c] ∧ 0 < x ∧ Sz a x ∧ a ≤ 25 ∧ c ≤ 10 ∧ r = .ok (rq (eB x c))
theorem pu_blocked (T : Cst K mg A) (vs : List V) (H : Hp) (Q : VK) (E : XK) (hsp : spP K A.c A.ce R_blocked vs H Q E) :
    t_blocked K A (spP K A.c A.ce R_times) (spP K A.c A.ce R_over) (spP K A.c A.ce R_plus) (spP K A.c A.ce R_whole) { nx := fun _ H' => Q .non H', rt := Q } (L2.start ["load", "servers", "found", "k", "more"] vs) H :=
  pure_of (k := 3) (by
    rintro ds r ⟨x, c, a, rfl, hx, hs, ha, hc, rfl⟩
    refine ⟨rfl, _, fit_outOf _, sd_seq (sd_set (ed_one T)) ?_⟩
    refine sd_seq (δ1 := [.dat (rq x), .dat (.int c), .dat (rq (eB x c)), .any, .any]) ((sd_for (ts := [3]) (fun i => [.dat (rq x), .dat (.int c), .dat (rq (eB x i)), .any, .any]) (wd_range (n := (c : Int)) (ed_var rfl) (by omega)) (.same (.same (.same (.any (.any .nil))))) ?_).is (by rw [List.length_map, List.length_range, Int.toNat_natCast])) (sd_ret (ed_var rfl))
    intro i d hd
    have hi : i < c ∧ d = .int (i : Nat) := by
      rw [List.getElem?_map, Int.toNat_natCast] at hd
      by_cases h : i < c
      · rw [List.getElem?_range h] at hd
        exact ⟨h, (Option.some.inj hd).symm⟩
      · rw [List.getElem?_eq_none_iff.mpr (by rw [List.length_range]; omega)] at hd
        cases hd
    obtain ⟨hi, rfl⟩ := hi
    have z := (sz_eB hx hs (show i ≤ 10 by omega)).mono (show 10 * a + 51 ≤ 301 by omega)
    have zx := hs.mono ha
    have zm := zx.mul z
    have zk : Sz 4 (((i : Int) + 1 : Int) : Rat) := Sz.int (by omega) (by decide)
    have zp := zk.add zm
    have pos := eB_den hx i
    have ek : (((i : Int) + 1 : Int) : Rat) = ((i + 1 : Nat) : Rat) := rfl
    refine ⟨_, gd_name, ?_⟩
    refine sd_seq (sd_set (ed_call (d := rq (x * eB x i)) (ds := [rq x, rq (eB x i)]) (by walk_at "ed") ⟨_, _, _, _, rfl, zx, z, by decide, trivial, rfl⟩)) ?_
    refine (sd_set (ed_call (d := rq (x * eB x i / ((((i : Int) + 1 : Int) : Rat) + x * eB x i))) (ds := [rq (x * eB x i), rq ((((i : Int) + 1 : Int) : Rat) + x * eB x i)]) (ad_cons (ed_var rfl) (ad_cons
      (ed_call (ds := [rq (((i : Int) + 1 : Int) : Rat), rq (x * eB x i)]) (ad_cons (ed_call (ds := [.int ((i : Int) + 1)]) (by walk_at "ed") ⟨_, rfl, rfl⟩) (by walk_at "ed")) ⟨_, _, _, _, rfl, zk, zm, by decide, trivial, rfl⟩) ad_nil)) ⟨_, _, _, _, rfl, zm, zp, by decide, ek ▸ pos, rfl⟩)).weak ?_
    rw [show x * eB x i / ((((i : Int) + 1 : Int) : Rat) + x * eB x i) = eB x (i + 1) from rfl]
    exact .same (.same (.same (.any (.any .nil))))) hsp
theorem pr_blocked (T : Txt K mg A) : Cal0 P w K mg base 4 "blocked" (spP K A.c A.ce R_blocked) := cal_blocked T (pr_times T) (pr_over T) (pr_plus T) (pr_whole T) (spP_len (by rintro ds r ⟨x, c, a, rfl, _⟩; rfl)) (pu_blocked T.toCst)

/-! ### load, utilization -/
def R_load_of (ds : List D) (r : Except Int D) : Prop := ∃ (s : Lrx8.Station) (c : Lrx8.Choice) (p : Nat), ds = [encS s, encC c, .int p] ∧ SOk s ∧ COk c ∧ p ≤ 300 ∧ r = .ok (rq (loadP s c p))
theorem small_mul {a b : Nat} (ha : a ≤ 100000000) (hb : b ≤ 100000000) : CMulW (a : Int) (b : Int) :=
  wide_mul (a := 27) (b := 27) (Nat.lt_of_le_of_lt (show (a : Int).natAbs ≤ _ from ha) (by decide)) (Nat.lt_of_le_of_lt (show (b : Int).natAbs ≤ _ from hb) (by decide)) (by decide) (by decide) (by decide)
theorem lt9000 {n : Nat} (h : n ≤ 100000000) : n < 2 ^ 9000 := Nat.lt_of_lt_of_le (Nat.lt_of_le_of_lt h (by decide : 100000000 < 2 ^ 27)) (Nat.pow_le_pow_right (by decide) (by decide))
theorem pu_load_of (T : Cst K mg A) (vs : List V) (H : Hp) (Q : VK) (E : XK) (hsp : spP K A.c A.ce R_load_of vs H Q E) : t_load_of K A (spP K A.c A.ce R_fraction) { nx := fun _ H' => Q .non H', rt := Q } (L2.start ["station", "option", "percent"] vs) H :=
  pure_of (k := 0) (by
    rintro ds r ⟨s, c, p, rfl, hs, hc, hp, rfl⟩
    have h1 := hs.a1
    have h2 := hc.r1
    refine ⟨rfl, _, fit_outOf _, sd_ret (ed_call (d := rq (loadP s c p)) (ds := [.int ((s.arrival : Int) * (p : Nat)), .int ((c.rate : Int) * 100)]) ?_ ⟨_, _, c.rate * 100, rfl, by rw [Int.natCast_mul]; rfl, Nat.mul_pos hc.r0 (by decide), lt9000 (by omega), by unfold loadP; rw [Int.natCast_mul]⟩)⟩
    walk_at "ed"
    · exact small_mul (by omega) (by omega)
    · exact small_mul (a := c.rate) (b := 100) (by omega) (by omega)) hsp
theorem pr_load_of (T : Txt K mg A) : Cal0 P w K mg base 3 "load_of" (spP K A.c A.ce R_load_of) := cal_load_of T (pr_fraction T) (spP_len (by rintro ds r ⟨s, c, p, rfl, _⟩; rfl)) (pu_load_of T.toCst)
def R_utilization (ds : List D) (r : Except Int D) : Prop := ∃ (s : Lrx8.Station) (c : Lrx8.Choice) (p : Nat), ds = [encS s, encC c, .int p] ∧ SOk s ∧ COk c ∧ p ≤ 300 ∧ r = .ok (rq (utilP s c p))
theorem pu_utilization (T : Cst K mg A) (vs : List V) (H : Hp) (Q : VK) (E : XK) (hsp : spP K A.c A.ce R_utilization vs H Q E) : t_utilization K A (spP K A.c A.ce R_fraction) { nx := fun _ H' => Q .non H', rt := Q } (L2.start ["station", "option", "percent"] vs) H :=
  pure_of (k := 0) (by
    rintro ds r ⟨s, c, p, rfl, hs, hc, hp, rfl⟩
    have h1 := hs.a1
    have h2 := hc.r1
    have h3 := hc.s1
    have h4 : c.servers * c.rate ≤ 10 * 100000 := Nat.mul_le_mul h3 h2
    refine ⟨rfl, _, fit_outOf _, sd_ret (ed_call (d := rq (utilP s c p)) (ds := [.int ((s.arrival : Int) * (p : Nat)), .int ((c.servers : Int) * (c.rate : Nat) * 100)]) ?_ ⟨_, _, c.servers * c.rate * 100, rfl, by rw [Int.natCast_mul, Int.natCast_mul]; rfl, Nat.mul_pos (Nat.mul_pos hc.s0 hc.r0) (by decide), lt9000 (by omega), by unfold utilP; rw [Int.natCast_mul]⟩)⟩
    walk_at "ed"
    · exact small_mul (by omega) (by omega)
    · exact small_mul (by omega) (by omega)
    · rw [← Int.natCast_mul]
      exact small_mul (b := 100) (by omega) (by omega)) hsp
theorem pr_utilization (T : Txt K mg A) : Cal0 P w K mg base 3 "utilization" (spP K A.c A.ce R_utilization) := cal_utilization T (pr_fraction T) (spP_len (by rintro ds r ⟨s, c, p, rfl, _⟩; rfl)) (pu_utilization T.toCst)

/-! ### allowed -/
def R_is_option_allowed (ds : List D) (r : Except Int D) : Prop := ∃ (m : Lrx8.Model) (s : Lrx8.Station) (c : Lrx8.Choice) (p : Nat), ds = [encM m, encS s, encC c, .int p] ∧ MOk m ∧ SOk s ∧ COk c ∧ p ≤ 300 ∧ r = .ok (.bl (okP m s c p))
theorem le_not_lt (a b : Rat) : decide (a ≤ b) = !decide (b < a) := by
  by_cases h : a ≤ b
  · rw [decide_eq_true h, decide_eq_false (Rat.not_lt.mpr h)]
    rfl
  · rw [decide_eq_false h, decide_eq_true (Rat.not_le.mp h)]
    rfl
theorem pu_is_option_allowed (T : Cst K mg A) (vs : List V) (H : Hp) (Q : VK) (E : XK) (hsp : spP K A.c A.ce R_is_option_allowed vs H Q E) :
    t_is_option_allowed K A (spP K A.c A.ce R_utilization) (spP K A.c A.ce R_is_less) { nx := fun _ H' => Q .non H', rt := Q } (L2.start ["model", "station", "option", "percent", "used"] vs) H :=
  pure_of (k := 1) (by
    rintro ds r ⟨m, s, c, p, rfl, hm, hs, hc, hp, rfl⟩
    have zu := sz_utilP hs hc hp
    have zl := hm.limit.2
    have el := encM_eq hm
    refine ⟨rfl, _, fit_outOf _, ?_⟩
    refine sd_seq (sd_set (ed_call (d := rq (utilP s c p)) (ds := [encS s, encC c, .int p]) (by walk_at "ed") ⟨s, c, p, rfl, hs, hc, hp, rfl⟩)) ?_
    refine sd_ret ((ed_andV (a := decide (utilP s c p < 1)) (b := !decide (lim m < utilP s c p)) (ed_call (ds := [rq (utilP s c p), rq 1]) (by walk_at "ed") ⟨_, _, _, _, rfl, zu, Sz.one (k := 1) (by decide), by decide, rfl⟩)
      fun _ => ed_notV (ed_call (ds := [rq (lim m), rq (utilP s c p)]) (ad_cons (ed_limit (x := .lst (m.stations.map encS)) (y := rq (tgt m)) T (ed_var (by rw [← el]; rfl))) (by walk_at "ed")) ⟨_, _, _, _, rfl, zl, zu, by decide, rfl⟩)).is ?_)
    unfold okP
    rw [le_not_lt]) hsp
theorem pr_is_option_allowed (T : Txt K mg A) : Cal0 P w K mg base 4 "is_option_allowed" (spP K A.c A.ce R_is_option_allowed) := cal_is_option_allowed T (pr_utilization T) (pr_is_less T) (spP_len (by rintro ds r ⟨m, s, c, p, rfl, _⟩; rfl)) (pu_is_option_allowed T.toCst)

/-! ### calls of the operations, in short -/
section
variable {t1 t2 : TE} {δ : List Sd} {p q : Rat} {j k : Nat} {E : XK}
theorem ed_plus (h1 : ED K A.c t1 δ (rq p)) (h2 : ED K A.c t2 δ (rq q)) (s1 : Sz j p) (s2 : Sz k q) (hl : j + k ≤ 9000) : ED K A.c (tCall (spP K A.c A.ce R_plus) [] E (tCons t1 (tCons t2 tNil))) δ (rq (p + q)) :=
  ed_call (ad_cons h1 (ad_cons h2 ad_nil)) ⟨_, _, _, _, rfl, s1, s2, hl, trivial, rfl⟩
theorem ed_minus (h1 : ED K A.c t1 δ (rq p)) (h2 : ED K A.c t2 δ (rq q)) (s1 : Sz j p) (s2 : Sz k q) (hl : j + k ≤ 9000) : ED K A.c (tCall (spP K A.c A.ce R_minus) [] E (tCons t1 (tCons t2 tNil))) δ (rq (p - q)) :=
  ed_call (ad_cons h1 (ad_cons h2 ad_nil)) ⟨_, _, _, _, rfl, s1, s2, hl, trivial, rfl⟩
theorem ed_times (h1 : ED K A.c t1 δ (rq p)) (h2 : ED K A.c t2 δ (rq q)) (s1 : Sz j p) (s2 : Sz k q) (hl : j + k ≤ 9000) : ED K A.c (tCall (spP K A.c A.ce R_times) [] E (tCons t1 (tCons t2 tNil))) δ (rq (p * q)) :=
  ed_call (ad_cons h1 (ad_cons h2 ad_nil)) ⟨_, _, _, _, rfl, s1, s2, hl, trivial, rfl⟩
theorem ed_over (h1 : ED K A.c t1 δ (rq p)) (h2 : ED K A.c t2 δ (rq q)) (s1 : Sz j p) (s2 : Sz k q) (hl : j + k ≤ 9000) (h0 : 0 < q) : ED K A.c (tCall (spP K A.c A.ce R_over) [] E (tCons t1 (tCons t2 tNil))) δ (rq (p / q)) :=
  ed_call (ad_cons h1 (ad_cons h2 ad_nil)) ⟨_, _, _, _, rfl, s1, s2, hl, h0, rfl⟩
theorem ed_less (h1 : ED K A.c t1 δ (rq p)) (h2 : ED K A.c t2 δ (rq q)) (s1 : Sz j p) (s2 : Sz k q) (hl : j + k ≤ 500000) : ED K A.c (tCall (spP K A.c A.ce R_is_less) [] E (tCons t1 (tCons t2 tNil))) δ (.bl (decide (p < q))) :=
  ed_call (ad_cons h1 (ad_cons h2 ad_nil)) ⟨_, _, _, _, rfl, s1, s2, hl, rfl⟩
theorem ed_whole {n : Int} (h1 : ED K A.c t1 δ (.int n)) : ED K A.c (tCall (spP K A.c A.ce R_whole) [] E (tCons t1 tNil)) δ (rq n) :=
  ed_call (ad_cons h1 ad_nil) ⟨_, rfl, rfl⟩
end

/-! ### the number -/
def R_number_of (ds : List D) (r : Except Int D) : Prop := ∃ (s : Lrx8.Station) (c : Lrx8.Choice) (p : Nat), ds = [encS s, encC c, .int p] ∧ SOk s ∧ COk c ∧ 1 ≤ p ∧ p ≤ 300 ∧ utilP s c p < 1 ∧ r = .ok (rq (numP s c p))
theorem pu_number_of (T : Cst K mg A) (vs : List V) (H : Hp) (Q : VK) (E : XK) (hsp : spP K A.c A.ce R_number_of vs H Q E) :
    t_number_of K A (spP K A.c A.ce R_blocked) (spP K A.c A.ce R_over) (spP K A.c A.ce R_plus) (spP K A.c A.ce R_load_of) (spP K A.c A.ce R_utilization) (spP K A.c A.ce R_minus) (spP K A.c A.ce R_times)
      { nx := fun _ H' => Q .non H', rt := Q } (L2.start ["station", "option", "percent", "load", "used", "part", "waits"] vs) H :=
  pure_of (k := 4) (by
    rintro ds r ⟨s, c, p, rfl, hs, hc, h0, hp, h1, rfl⟩
    have zx := sz_loadP hs hc hp
    have zu := sz_utilP hs hc hp
    have px := loadP_pos hs hc h0
    have pu := utilP_pos hs hc h0
    have zB := sz_eB px zx hc.s1
    have b0 := eB_pos px c.servers
    have b1 := eB_le px c.servers
    have d1 := wait_den (Rat.le_of_lt pu) h1 b0 b1
    have one : Sz 1 (1 : Rat) := Sz.one (by decide)
    have s1 := one.sub zB
    have s2 := zu.mul s1
    have s3 := one.sub s2
    have s4 := zB.div s3 (Rat.ne_of_gt d1)
    have s5 := s4.mul zu
    have s6 := one.sub zu
    have d2 : 0 < 1 - utilP s c p := by grind
    have s7 := s5.div s6 (Rat.ne_of_gt d2)
    refine ⟨rfl, _, fit_outOf _, ?_⟩
    refine sd_seq (sd_par (ad_cons (ed_call (d := rq (loadP s c p)) (ds := [encS s, encC c, .int p]) (by walk_at "ed") ⟨s, c, p, rfl, hs, hc, hp, rfl⟩) (ad_cons (ed_call (d := rq (utilP s c p)) (ds := [encS s, encC c, .int p]) (by walk_at "ed") ⟨s, c, p, rfl, hs, hc, hp, rfl⟩) ad_nil))) ?_
    refine sd_seq (sd_set (ed_call (d := rq (eB (loadP s c p) c.servers)) (ds := [rq (loadP s c p), .int c.servers]) (ad_cons (ed_var rfl) (ad_cons (ed_servers T (ed_var (d := encC c) rfl)) ad_nil)) ⟨_, _, _, rfl, px, zx, by decide, hc.s1, rfl⟩)) ?_
    refine sd_seq (sd_set (ed_over (ed_var rfl) (ed_minus (ed_one T) (ed_times (ed_var rfl) (ed_minus (ed_one T) (ed_var rfl) one zB (by decide)) zu s1 (by decide)) one s2 (by decide)) zB s3 (by decide) d1)) ?_
    exact sd_ret (ed_plus (ed_var rfl) (ed_over (ed_times (ed_var rfl) (ed_var rfl) s4 zu (by decide)) (ed_minus (ed_one T) (ed_var rfl) one zu (by decide)) s5 s6 (by decide) d2) zx s7 (by decide))) hsp
theorem pr_number_of (T : Txt K mg A) : Cal0 P w K mg base 5 "number_of" (spP K A.c A.ce R_number_of) := cal_number_of T (pr_blocked T) (pr_over T) (pr_plus T) (pr_load_of T) (pr_utilization T) (pr_minus T) (pr_times T) (spP_len (by rintro ds r ⟨s, c, p, rfl, _⟩; rfl)) (pu_number_of T.toCst)
def R_weighted_number (ds : List D) (r : Except Int D) : Prop := ∃ (s : Lrx8.Station) (c : Lrx8.Choice) (p : Nat), ds = [encS s, encC c, .int p] ∧ SOk s ∧ COk c ∧ 1 ≤ p ∧ p ≤ 300 ∧ utilP s c p < 1 ∧ r = .ok (rq (wgtP s c p))
theorem sz_num {s : Lrx8.Station} {c : Lrx8.Choice} {p : Nat} (hs : SOk s) (hc : COk c) (h0 : 1 ≤ p) (hp : p ≤ 300) (h1 : utilP s c p < 1) : Sz 715 (numP s c p) :=
  (sz_numR (c := c.servers) (loadP_pos hs hc h0) (utilP_pos hs hc h0) h1 (sz_loadP hs hc hp) (sz_utilP hs hc hp) hc.s1).mono (by decide)
theorem pu_weighted_number (T : Cst K mg A) (vs : List V) (H : Hp) (Q : VK) (E : XK) (hsp : spP K A.c A.ce R_weighted_number vs H Q E) :
    t_weighted_number K A (spP K A.c A.ce R_times) (spP K A.c A.ce R_whole) (spP K A.c A.ce R_number_of) { nx := fun _ H' => Q .non H', rt := Q } (L2.start ["station", "option", "percent"] vs) H :=
  pure_of (k := 0) (by
    rintro ds r ⟨s, c, p, rfl, hs, hc, h0, hp, h1, rfl⟩
    have hw : Sz 10 ((s.weight : Int) : Rat) := Sz.int (Nat.lt_of_le_of_lt (show (s.weight : Int).natAbs ≤ _ from hs.w1) (by decide)) (by decide)
    refine ⟨rfl, _, fit_outOf _, ?_⟩
    exact sd_ret (ed_times (ed_whole (ed_weight T (ed_var (d := encS s) rfl))) (ed_call (ds := [encS s, encC c, .int p]) (by walk_at "ed") ⟨s, c, p, rfl, hs, hc, h0, hp, h1, rfl⟩) hw (sz_num hs hc h0 hp h1) (by decide))) hsp
theorem pr_weighted_number (T : Txt K mg A) : Cal0 P w K mg base 6 "weighted_number" (spP K A.c A.ce R_weighted_number) := cal_weighted_number T (pr_times T) (pr_whole T) (pr_number_of T) (spP_len (by rintro ds r ⟨s, c, p, rfl, _⟩; rfl)) (pu_weighted_number T.toCst)

/-! ### the table -/
abbrev Row := Option (Nat × Rat)
def encR : Row → D
  | none => .non
  | some (k, q) => .tup [.int k, rq q]
def encRs (rows : List Row) : D := .lst (rows.map encR)
def encT (t : List (List Row)) : D := .lst (t.map encRs)
def rowP (m : Lrx8.Model) (s : Lrx8.Station) (c : Lrx8.Choice) : Row := if okP m s c 100 = true then some (c.cost, wgtP s c 100) else none
def rowsP (m : Lrx8.Model) (s : Lrx8.Station) : List Row := s.choices.map (rowP m s)
def tabP (m : Lrx8.Model) : List (List Row) := m.stations.map (rowsP m)
def R_rows_of (ds : List D) (r : Except Int D) : Prop := ∃ (m : Lrx8.Model) (s : Lrx8.Station), ds = [encM m, encS s, .int 100] ∧ MOk m ∧ SOk s ∧ r = .ok (encRs (rowsP m s))
theorem pu_rows_of (T : Cst K mg A) (vs : List V) (H : Hp) (Q : VK) (E : XK) (hsp : spP K A.c A.ce R_rows_of vs H Q E) :
    t_rows_of K A (spP K A.c A.ce R_is_option_allowed) (spP K A.c A.ce R_weighted_number) { nx := fun _ H' => Q .non H', rt := Q } (L2.start ["model", "station", "percent", "rows", "option", "is_there"] vs) H :=
  pure_of (k := 3) (by
    rintro ds r ⟨m, s, rfl, hm, hs, rfl⟩
    refine ⟨rfl, _, fit_outOf _, ?_⟩
    refine sd_seq (sd_setO (el_lst ad_nil (by simp))) ?_
    refine sd_seq (sd_forP (ts := [4]) encC s.choices (fun pre => [.dat (encM m), .dat (encS s), .dat (.int 100), .own (pre.map fun c => encR (rowP m s c)), .any, .any]) (wd_list (ed_options T (ed_var (d := encS s) rfl))) (Sle.refl _) ?_) ?_
    · rintro pre c ⟨post, e⟩
      have hc : COk c := hs.cs c (by rw [e]; simp)
      have hl : pre.length < 1000000 := by
        have := hs.n1
        rw [e, List.length_append] at this
        omega
      refine ⟨_, gd_name, ?_⟩
      refine sd_seq (sd_set (ed_call (d := .bl (okP m s c 100)) (ds := [encM m, encS s, encC c, .int 100]) (by walk_at "ed") ⟨m, s, c, 100, rfl, hm, hs, hc, by decide, rfl⟩)) ?_
      refine (sd_append rfl (d := encR (rowP m s c)) (ed_if (b := okP m s c 100) (by walk_at "ed") (fun h => ?_) fun h => ?_) (by rw [List.length_map]; exact hl)).weak ?_
      · unfold rowP
        rw [if_pos h]
        exact ed_tup (ad_cons (ed_cost T (ed_var (d := encC c) rfl)) (ad_cons (ed_call (ds := [encS s, encC c, .int 100]) (by walk_at "ed") ⟨s, c, 100, rfl, hs, hc, by decide, by decide, okP_lt h, rfl⟩) ad_nil)) (Nat.le_of_ble_eq_true rfl)
      · unfold rowP
        rw [if_neg (by rw [h]; decide)]
        exact ed_non
      · rw [List.map_append]
        exact .same (.same (.same (.same (.any (.any .nil)))))
    · refine sd_freeze 3 rfl (sd_ret ((ed_var rfl).is ?_))
      unfold encRs rowsP
      rw [List.map_map]
      rfl) hsp
theorem pr_rows_of (T : Txt K mg A) : Cal0 P w K mg base 7 "rows_of" (spP K A.c A.ce R_rows_of) := cal_rows_of T (pr_is_option_allowed T) (pr_weighted_number T) (spP_len (by rintro ds r ⟨m, s, rfl, _⟩; rfl)) (pu_rows_of T.toCst)
def R_table_of (ds : List D) (r : Except Int D) : Prop := ∃ m : Lrx8.Model, ds = [encM m] ∧ MOk m ∧ r = .ok (encT (tabP m))
theorem pu_table_of (T : Cst K mg A) (vs : List V) (H : Hp) (Q : VK) (E : XK) (hsp : spP K A.c A.ce R_table_of vs H Q E) :
    t_table_of K A (spP K A.c A.ce R_rows_of) { nx := fun _ H' => Q .non H', rt := Q } (L2.start ["model", "station"] vs) H :=
  pure_of (k := 1) (by
    rintro ds r ⟨m, rfl, hm, rfl⟩
    refine ⟨rfl, _, fit_outOf _, ?_⟩
    refine sd_ret ((ed_lcA (ts := [1]) encS m.stations (fun s => encRs (rowsP m s)) (wd_list (ed_stations T (ed_var (d := encM m) rfl))) (by simp) ?_ (by have := hm.n1; omega)).is ?_)
    · intro s hs
      exact ⟨_, gd_name, rfl, ed_call (ds := [encM m, encS s, .int 100]) (by walk_at "ed") ⟨m, s, rfl, hm, hm.ss s hs, rfl⟩⟩
    · unfold encT tabP
      rw [List.map_map]
      rfl) hsp
theorem pr_table_of (T : Txt K mg A) : Cal0 P w K mg base 8 "table_of" (spP K A.c A.ce R_table_of) := cal_table_of T (pr_rows_of T) (spP_len (by rintro ds r ⟨m, rfl, _⟩; rfl)) (pu_table_of T.toCst)
end
end Pd

/-! ## Pu3 -/
set_option Elab.async false
set_option linter.all false
set_option maxRecDepth 100000
set_option maxHeartbeats 2000000
set_option autoImplicit false
/-! The defs of dominance and of bounds: what they hand back. -/
namespace Pd
open PySem PySem.Spec PyProof.Rows L2 Mt
local macro_rules | `(tactic| walk_at "ed") => `(tactic| repeat' (first
  | exact ed_var rfl | exact ed_int | exact ed_bl | exact ed_non
  | exact rd_num | exact rd_den | exact rd_addA | exact rd_I0 | exact rd_B0 | exact rd_eqI | exact rd_neI | exact rd_isN | exact rd_notN
  | exact rd_ix_t rfl
  | exact ed_one (by assumption) | exact ed_nought (by assumption)
  | apply rd_I
  | apply ed_op
  | exact ad_nil | apply ad_cons
  | apply td_test | apply td_B | apply td_not
  | apply ed_servers (by assumption) | apply ed_rate (by assumption) | apply ed_cost (by assumption)
  | apply ed_arrival (by assumption) | apply ed_weight (by assumption) | apply ed_options (by assumption)
  | apply ed_stations (by assumption) | apply ed_target (by assumption) | apply ed_limit (by assumption)
  | assumption))

/-! ### values, rows -/
abbrev Vl := Nat × Rat
def encV (v : Vl) : D := .tup [.int v.1, rq v.2]
def someR (rows : List Row) : List Vl := rows.filterMap id
theorem some_map : ∀ rows : List Row, (rows.filter fun a => !isNon (encR a)).map encR = (someR rows).map encV
  | [] => rfl
  | none :: r => some_map r
  | some v :: r => congrArg (encV v :: ·) (some_map r)
def RowOk (r : Row) : Prop := ∀ v, r = some v → v.1 ≤ 100000 ∧ Sz 536 v.2
structure TabOk (t : List (List Row)) : Prop where
  n1 : t.length ≤ 4
  n6 : ∀ rows ∈ t, rows.length ≤ 6
  ok : ∀ rows ∈ t, ∀ r ∈ rows, RowOk r
theorem rowsP_ok {m : Lrx8.Model} {s : Lrx8.Station} (hs : SOk s) : (rowsP m s).length ≤ 6 ∧ ∀ r ∈ rowsP m s, RowOk r := by
  unfold rowsP
  refine ⟨by rw [List.length_map]; exact hs.n1, fun r hr v e => ?_⟩
  obtain ⟨c, hc, rfl⟩ := List.mem_map.mp hr
  unfold rowP at e
  split at e
  · rename_i h
    cases e
    exact ⟨(hs.cs c hc).k1, sz_wgt100 hs (hs.cs c hc) (okP_lt h)⟩
  · cases e
theorem tabP_ok {m : Lrx8.Model} (hm : MOk m) : TabOk (tabP m) := by
  unfold tabP
  refine ⟨by rw [List.length_map]; exact hm.n1, fun rows hr => ?_, fun rows hr => ?_⟩
  · obtain ⟨s, hs, rfl⟩ := List.mem_map.mp hr
    exact (rowsP_ok (hm.ss s hs)).1
  · obtain ⟨s, hs, rfl⟩ := List.mem_map.mp hr
    exact (rowsP_ok (hm.ss s hs)).2
theorem someR_ok {rows : List Row} (h : ∀ r ∈ rows, RowOk r) : ∀ v ∈ someR rows, v.1 ≤ 100000 ∧ Sz 536 v.2 := fun v hv => by
  obtain ⟨r, hr, e⟩ := List.mem_filterMap.mp hv
  exact h r hr v e
theorem someR_len (rows : List Row) : (someR rows).length ≤ rows.length := List.length_filterMap_le _ _
theorem set_set_get {δ : List Sd} {v : Nat} {s : Sd} (h : v < δ.length) : ((wipeD δ [v]).set v s)[v]? = some s := by
  unfold wipeD wipeD
  rw [List.getElem?_set, if_pos rfl, if_pos (by rw [List.length_set]; exact h)]
section
variable {K : PySem.W.Frag} {mg : Str → Option Value} {A : Ad} {P : Program} {w : World} {base : Heap} {C : Nat → Addr} {δ : List Sd}
theorem el_some {i v : Nat} {rows : List Row} (hi : δ[i]? = some (Sd.dat (encRs rows))) (hv : v < δ.length) (hl : rows.length ≤ 1000) :
    EL K C (tLc (iList K (tVar i)) (gName v) (tTest (tOp rNotN1 (tVar v) (tC .non))) (tVar v) [v]) δ ((someR rows).map encV) :=
  (el_lcM (ts := [v]) encR rows (fun a => !isNon (encR a)) encR (wd_list (ed_var hi)) (fun j hj => hj) (fun a ha => ⟨_, gd_name, by rw [List.length_set, wipeD_length],
    td_test (ed_op (ed_var (set_set_get hv)) ed_non rd_notN), fun _ => ed_var (set_set_get hv)⟩) (by omega)).is (some_map rows)

/-! ### dominates -/
def domV (a b : Vl) : Bool := !(decide (b.1 < a.1) || decide (b.2 < a.2)) && (decide (a.1 < b.1) || decide (a.2 < b.2))
theorem lt_cast (a b : Nat) : decide ((a : Int) < (b : Int)) = decide (a < b) := decide_eq_decide.mpr Int.ofNat_lt
def R_dominates (ds : List D) (r : Except Int D) : Prop := ∃ (a b : Vl) (j k : Nat), ds = [encV a, encV b] ∧ Sz j a.2 ∧ Sz k b.2 ∧ j + k ≤ 500000 ∧ r = .ok (.bl (domV a b))
theorem pu_dominates (vs : List V) (H : Hp) (Q : VK) (E : XK) (hsp : spP K A.c A.ce R_dominates vs H Q E) :
    t_dominates K A (spP K A.c A.ce R_is_less) { nx := fun _ H' => Q .non H', rt := Q } (L2.start ["one", "other"] vs) H :=
  pure_of (k := 0) (by
    rintro ds r ⟨a, b, j, k, rfl, ha, hb, hl, rfl⟩
    refine ⟨rfl, _, fit_outOf _, ?_⟩
    have t1 : TD K A.c (tOr (tTest (tOp rGtA (tOp (rIx K) (tVar 0) (tC (.int 0))) (tOp (rIx K) (tVar 1) (tC (.int 0))))) (tB (tCall (spP K A.c A.ce R_is_less) [] E0 (tCons (tOp (rIx K) (tVar 1) (tC (.int 1))) (tCons (tOp (rIx K) (tVar 0) (tC (.int 1))) tNil))))) [.dat (encV a), .dat (encV b)] (decide (b.1 < a.1) || decide (b.2 < a.2)) := by
      rw [← lt_cast]
      refine td_or (by walk_at "ed") fun _ => td_B (ed_less (p := b.2) (q := a.2) (by walk_at "ed") (by walk_at "ed") hb ha (by omega))
    cases e : (decide (b.1 < a.1) || decide (b.2 < a.2)) with
    | true =>
      refine sd_seq_rt (sd_if (b := true) (by rw [e] at t1; exact t1) (fun _ => (sd_ret (ed_bl (b := false))).is ?_) fun q => Bool.noConfusion q)
      unfold domV
      rw [e]
      rfl
    | false =>
      refine sd_seq (sd_if (b := false) (by rw [e] at t1; exact t1) (fun q => Bool.noConfusion q) fun _ => sd_next) ?_
      refine sd_ret ((ed_orV (a := decide (a.1 < b.1)) (b := decide (a.2 < b.2)) ?_ fun _ => ed_less (p := a.2) (q := b.2) (by walk_at "ed") (by walk_at "ed") ha hb hl).is ?_)
      · rw [← lt_cast]
        walk_at "ed"
      · unfold domV
        rw [e]
        rfl) hsp
theorem pr_dominates (T : Txt K mg A) : Cal0 P w K mg base 2 "dominates" (spP K A.c A.ce R_dominates) := cal_dominates T (pr_is_less T) (spP_len (by rintro ds r ⟨a, b, j, k, rfl, _⟩; rfl)) pu_dominates

/-! ### allowed, dominated options -/
def allowedL (rows : List Row) : List Nat := (rows.zipIdx.filter fun p => !isNon (encR p.1)).map (·.2)
def encNs (ns : List Nat) : D := .lst (ns.map fun n => .int (n : Nat))
def R_allowed_options (ds : List D) (r : Except Int D) : Prop := ∃ rows : List Row, ds = [encRs rows] ∧ rows.length ≤ 6 ∧ r = .ok (encNs (allowedL rows))
theorem pu_allowed_options (vs : List V) (H : Hp) (Q : VK) (E : XK) (hsp : spP K A.c A.ce R_allowed_options vs H Q E) :
    t_allowed_options K A { nx := fun _ H' => Q .non H', rt := Q } (L2.start ["rows", "at", "row"] vs) H :=
  pure_of (k := 2) (by
    rintro ds r ⟨rows, rfl, hl, rfl⟩
    refine ⟨rfl, _, fit_outOf _, ?_⟩
    refine sd_ret ((ed_lcM (ts := [1, 2]) (fun p : Row × Nat => .tup [.int (p.2 : Nat), encR p.1]) rows.zipIdx (fun p => !isNon (encR p.1)) (fun p => .int (p.2 : Nat)) (wd_enumM (enc := encR) (ed_var rfl)) (by simp) ?_ (by rw [List.length_zipIdx]; omega)).is ?_)
    · intro p hp
      exact ⟨_, gd_pair, rfl, by walk_at "ed", fun _ => by walk_at "ed"⟩
    · unfold encNs allowedL
      rw [List.map_map]
      rfl) hsp
theorem pr_allowed_options (T : Txt K mg A) : Cal0 P w K mg base 1 "allowed_options" (spP K A.c A.ce R_allowed_options) := cal_allowed_options T (spP_len (by rintro ds r ⟨rows, rfl, _⟩; rfl)) pu_allowed_options
theorem allowedL_mem {rows : List Row} {i : Nat} (h : i ∈ allowedL rows) : ∃ v, rows[i]? = some (some v) := by
  obtain ⟨⟨r, j⟩, hp, rfl⟩ := List.mem_map.mp h
  rw [List.mem_filter] at hp
  obtain ⟨h1, h2⟩ := hp
  rw [List.mem_zipIdx_iff_getElem?] at h1
  cases r with
  | none => cases h2
  | some v => exact ⟨v, h1⟩
def domL (rows : List Row) : List Nat := (allowedL rows).filter fun i => match rows[i]? with
  | some (some b) => (someR rows).any fun a => domV a b
  | _ => false
def R_dominated_options (ds : List D) (r : Except Int D) : Prop := ∃ rows : List Row, ds = [encRs rows] ∧ rows.length ≤ 6 ∧ (∀ r ∈ rows, RowOk r) ∧ r = .ok (encNs (domL rows))
theorem atI_nat' {ds : List D} {i : Nat} {d : D} (h : ds[i]? = some d) : atI ds (i : Int) = some d := L2.atI_nat h
theorem any_bl (bs : List Bool) : ((bs.map D.bl).any fun z => PyData.eqv (toPy z) (toPy (.bl true))) = bs.any id := by
  induction bs with
  | nil => rfl
  | cons b bs ih =>
    rw [List.map_cons, List.any_cons, List.any_cons, ih]
    cases b <;> rfl
theorem fl_bls (bs : List Bool) : Fl 1 (.lst (bs.map D.bl)) := .lst fun d hd => by
  obtain ⟨b, _, rfl⟩ := List.mem_map.mp hd
  exact .bl
theorem pu_dominated_options (vs : List V) (H : Hp) (Q : VK) (E : XK) (hsp : spP K A.c A.ce R_dominated_options vs H Q E) :
    t_dominated_options K A (spP K A.c A.ce R_allowed_options) (spP K A.c A.ce R_dominates) { nx := fun _ H' => Q .non H', rt := Q } (L2.start ["rows", "some", "row", "at"] vs) H :=
  pure_of (k := 3) (by
    rintro ds r ⟨rows, rfl, hl, hok, rfl⟩
    have hso := someR_ok hok
    have hsl := someR_len rows
    refine ⟨rfl, _, fit_outOf _, ?_⟩
    refine sd_seq (sd_set (el_some (rows := rows) rfl (by simp) (by omega)).ed) ?_
    refine sd_ret ((ed_lcM (ts := [3]) (fun i : Nat => .int (i : Nat)) (allowedL rows) (fun i => match rows[i]? with | some (some b) => (someR rows).any fun a => domV a b | _ => false) (fun i => .int (i : Nat))
      (wd_list (ed_call (ds := [encRs rows]) (by walk_at "ed") ⟨rows, rfl, hl, rfl⟩)) (by simp) ?_ ?_).is rfl)
    · intro i hi
      obtain ⟨b, hb⟩ := allowedL_mem hi
      refine ⟨_, gd_name, rfl, ?_, fun _ => by walk_at "ed"⟩
      rw [hb]
      have hb2 := hok _ (List.mem_of_getElem? hb) b rfl
      have e : ((someR rows).any fun a => domV a b) = ((((someR rows).map fun a => domV a b).map D.bl).any fun z => PyData.eqv (toPy z) (toPy (.bl true))) := by
        rw [any_bl, List.any_map]
        rfl
      show TD _ _ _ _ ((someR rows).any fun a => domV a b)
      rw [e]
      refine td_test (ed_op ed_bl (y := .lst (((someR rows).map fun a => domV a b).map D.bl)) ?_ (rd_inD (Fl.bl (n := 0)) (fl_bls _) (by decide) (by decide)))
      refine (ed_lcA (ts := [2]) encV (someR rows) (fun a => .bl (domV a b)) (wd_list (ed_var rfl)) (by simp) ?_ (by omega)).is (by rw [List.map_map]; rfl)
      intro a ha
      refine ⟨_, gd_name, rfl, ?_⟩
      exact ed_call (ds := [encV a, encV b]) (ad_cons (ed_var rfl) (ad_cons (ed_op (ed_var (d := encRs rows) rfl) (ed_var rfl) (rd_ix_l (atI_nat' (by rw [List.getElem?_map, hb]; rfl)))) ad_nil)) ⟨a, b, _, _, rfl, (hso a ha).2, hb2.2, by decide, rfl⟩
    · unfold allowedL
      rw [List.length_map]
      have := List.length_filter_le (fun p : Row × Nat => !isNon (encR p.1)) rows.zipIdx
      rw [List.length_zipIdx] at this
      omega) hsp
theorem pr_dominated_options (T : Txt K mg A) : Cal0 P w K mg base 3 "dominated_options" (spP K A.c A.ce R_dominated_options) := cal_dominated_options T (pr_allowed_options T) (pr_dominates T) (spP_len (by rintro ds r ⟨rows, rfl, _⟩; rfl)) pu_dominated_options

/-! ### has_all -/
def hasAll (t : List (List Row)) : Bool := t.all fun rows => !(someR rows).isEmpty
theorem fl_rq {n : Nat} (q : Rat) : Fl (n + 1) (rq q) := .tup fun d hd => by
  simp at hd
  rcases hd with rfl | rfl <;> exact .int
theorem fl_encV (v : Vl) : Fl 2 (encV v) := .tup fun d hd => by
  simp at hd
  rcases hd with rfl | rfl
  · exact .int
  · exact fl_rq _
theorem fl_encVs (l : List Vl) : Fl 3 (.lst (l.map encV)) := .lst fun d hd => by
  obtain ⟨v, _, rfl⟩ := List.mem_map.mp hd
  exact fl_encV v
theorem fl_nil : Fl 1 (.lst []) := .lst fun d hd => absurd hd (by simp)
def R_has_all (ds : List D) (r : Except Int D) : Prop := ∃ t : List (List Row), ds = [encT t] ∧ TabOk t ∧ r = .ok (.bl (hasAll t))
theorem pu_has_all (vs : List V) (H : Hp) (Q : VK) (E : XK) (hsp : spP K A.c A.ce R_has_all vs H Q E) :
    t_has_all K A { nx := fun _ H' => Q .non H', rt := Q } (L2.start ["table", "rows", "row"] vs) H :=
  pure_of (k := 2) (by
    rintro ds r ⟨t, rfl, ht, rfl⟩
    refine ⟨rfl, _, fit_outOf _, ?_⟩
    have hf := sd_forAll (K := K) (C := A.c) (CE := A.ce) (E := E) (δ := [.dat (encT t), .any, .any]) (wi := iList K (tVar 0)) (g := gName 1) (ts := [1]) (tb := tIfS (tTest (tOp (rEqA K) (tLc (iList K (tVar 1)) (gName 2) (tTest (tOp rNotN1 (tVar 2) (tC .non))) (tVar 2) [2]) (tLst tNil))) (tRet (tC (.bl false))) tNext)
      encRs t (fun rows => !(someR rows).isEmpty) (.bl false) (fun _ => [.dat (encT t), .any, .any]) (wd_list (ed_var rfl)) (Sle.refl _) (fun pre rows ⟨post, e⟩ => by
        have hr : rows.length ≤ 6 := ht.n6 rows (by rw [e]; simp)
        have tst : TD K A.c (tTest (tOp (rEqA K) (tLc (iList K (tVar 1)) (gName 2) (tTest (tOp rNotN1 (tVar 2) (tC .non))) (tVar 2) [2]) (tLst tNil))) [.dat (encT t), .dat (encRs rows), .any] (someR rows).isEmpty := by
          refine td_test ((ed_op (el_some (rows := rows) rfl (by simp) (by omega)).ed (ed_lst ad_nil (by simp)) (rd_eqDA (fl_encVs _) fl_nil (by decide) (by decide))).is ?_)
          rw [eqv_nil, List.isEmpty_map]
        refine ⟨_, gd_name, fun h => ?_, fun h => ?_⟩
        · refine (sd_if tst (fun q => ?_) fun _ => sd_next).weak (.same (.any (.same .nil)))
          rw [q] at h
          cases h
        · refine sd_if tst (fun _ => sd_ret ed_bl) fun q => ?_
          rw [q] at h
          cases h)
    cases e : hasAll t with
    | true =>
      unfold hasAll at e
      rw [if_pos e] at hf
      exact sd_seq hf (sd_ret ed_bl)
    | false =>
      unfold hasAll at e
      rw [if_neg (by rw [e]; decide)] at hf
      exact sd_seq_rt hf) hsp
theorem pr_has_all (T : Txt K mg A) : Cal0 P w K mg base 1 "has_all" (spP K A.c A.ce R_has_all) := cal_has_all T (spP_len (by rintro ds r ⟨t, rfl, _⟩; rfl)) pu_has_all

/-! ### the least value -/
def leastS (μ : Rat) (best : Option Rat) (r : Row) : Option Rat := match r with
  | none => best
  | some v => match best with
    | none => some ((v.1 : Rat) + μ * v.2)
    | some b => if (v.1 : Rat) + μ * v.2 < b then some ((v.1 : Rat) + μ * v.2) else some b
def leastV (rows : List Row) (μ : Rat) : Option Rat := rows.foldl (leastS μ) none
def encO : Option Rat → D
  | none => .non
  | some q => rq q
theorem sz_val {μ : Rat} {v : Vl} (hμ : Sz 1090 μ) (h : v.1 ≤ 100000 ∧ Sz 536 v.2) : Sz 1644 ((v.1 : Rat) + μ * v.2) := by
  have h1 : Sz 17 (v.1 : Rat) := Sz.nat (Nat.lt_of_le_of_lt h.1 (by decide)) (by decide)
  exact (h1.add (hμ.mul h.2)).mono (by decide)
theorem sz_least {μ : Rat} (hμ : Sz 1090 μ) : ∀ (rows : List Row) (b : Option Rat), (∀ r ∈ rows, RowOk r) → (∀ q, b = some q → Sz 1644 q) → ∀ q, rows.foldl (leastS μ) b = some q → Sz 1644 q
  | [], b, _, hb, q, e => hb q e
  | r :: rows, b, h, hb, q, e => by
    refine sz_least hμ rows (leastS μ b r) (fun x hx => h x (by simp [hx])) ?_ q e
    intro z hz
    have hr := h r (by simp)
    cases r with
    | none => exact hb z hz
    | some v =>
      have hv := sz_val hμ (hr v rfl)
      cases b with
      | none =>
        cases hz
        exact hv
      | some b =>
        unfold leastS at hz
        dsimp only at hz
        split at hz
        · cases hz
          exact hv
        · cases hz
          exact hb _ rfl
def R_least_value (ds : List D) (r : Except Int D) : Prop := ∃ (rows : List Row) (μ : Rat), ds = [encRs rows, rq μ] ∧ rows.length ≤ 6 ∧ (∀ r ∈ rows, RowOk r) ∧ Sz 1090 μ ∧ r = .ok (encO (leastV rows μ))
theorem pu_least_value (vs : List V) (H : Hp) (Q : VK) (E : XK) (hsp : spP K A.c A.ce R_least_value vs H Q E) :
    t_least_value K A (spP K A.c A.ce R_plus) (spP K A.c A.ce R_whole) (spP K A.c A.ce R_times) (spP K A.c A.ce R_is_less) { nx := fun _ H' => Q .non H', rt := Q } (L2.start ["rows", "multiplier", "least", "row", "value"] vs) H :=
  pure_of (k := 3) (by
    rintro ds r ⟨rows, μ, rfl, hl, hok, hμ, rfl⟩
    refine ⟨rfl, _, fit_outOf _, ?_⟩
    refine sd_seq (sd_set ed_non) ?_
    refine sd_seq (sd_forP (ts := [3]) encR rows (fun pre => [.dat (encRs rows), .dat (rq μ), .dat (encO (pre.foldl (leastS μ) none)), .any, .any]) (wd_list (ed_var rfl)) (Sle.refl _) ?_) (sd_ret (ed_var rfl))
    rintro pre a ⟨post, e⟩
    refine ⟨_, gd_name, ?_⟩
    rw [List.foldl_append]
    have hb := sz_least hμ pre none (fun r hr => hok r (by rw [e]; simp [hr])) (fun q z => by cases z)
    generalize pre.foldl (leastS μ) none = b at *
    cases a with
    | none =>
      refine (sd_if (b := false) (by walk_at "ed") (fun q => Bool.noConfusion q) fun _ => sd_next).weak ?_
      exact .same (.same (.same (.any (.any .nil))))
    | some v =>
      have hv := hok (some v) (by rw [e]; simp) v rfl
      have sv := sz_val hμ hv
      have s1 : Sz 17 (((v.1 : Nat) : Int) : Rat) := Sz.int (Nat.lt_of_le_of_lt (show ((v.1 : Nat) : Int).natAbs ≤ _ from hv.1) (by decide)) (by decide)
      refine sd_if (b := true) ((td_test (ed_op (ed_var (d := encV v) rfl) ed_non rd_notN)).is rfl) (fun _ => ?_) fun q => Bool.noConfusion q
      refine sd_seq (sd_set (ed_plus (p := (((v.1 : Nat) : Int) : Rat)) (q := μ * v.2) (ed_whole (by walk_at "ed")) (ed_times (p := μ) (q := v.2) (by walk_at "ed") (ed_op (ed_var (d := encV v) rfl) ed_int (rd_ix_t rfl)) hμ hv.2 (by decide)) s1 (hμ.mul hv.2) (by decide))) ?_
      have es : (((v.1 : Nat) : Int) : Rat) = (v.1 : Rat) := rfl
      rw [es]
      cases b with
      | none =>
        refine (sd_if (b := true) ((td_or (a := true) (b := false) (by walk_at "ed") (fun q => Bool.noConfusion q)).is rfl) (fun _ => sd_set (ed_var (d := rq ((v.1 : Rat) + μ * v.2)) rfl)) fun q => Bool.noConfusion q).weak ?_
        exact .same (.same (.same (.any (.any .nil))))
      | some b =>
        refine (sd_if (δ := [.dat (encRs rows), .dat (rq μ), .dat (rq b), .dat (encV v), .dat (rq ((v.1 : Rat) + μ * v.2))]) (b := decide ((v.1 : Rat) + μ * v.2 < b)) ((td_or (a := false) (b := decide ((v.1 : Rat) + μ * v.2 < b)) (td_test (ed_op (ed_var (d := rq b) rfl) ed_non rd_isN)) fun _ => td_B (ed_less (ed_var rfl) (ed_var rfl) sv (hb b rfl) (by decide))).is (Bool.false_or _))
          (o := .nx [.dat (encRs rows), .dat (rq μ), .dat (encO (leastS μ (some b) (some v))), .any, .any]) (fun q => ?_) fun q => ?_)
        · refine (sd_set (ed_var (d := rq ((v.1 : Rat) + μ * v.2)) rfl)).weak ?_
          unfold leastS
          dsimp only
          rw [if_pos (of_decide_eq_true q)]
          exact .same (.same (.same (.any (.any .nil))))
        · refine sd_next.weak ?_
          unfold leastS
          dsimp only
          rw [if_neg (of_decide_eq_false q)]
          exact .same (.same (.same (.any (.any .nil))))) hsp
theorem pr_least_value (T : Txt K mg A) : Cal0 P w K mg base 4 "least_value" (spP K A.c A.ce R_least_value) := cal_least_value T (pr_plus T) (pr_whole T) (pr_times T) (pr_is_less T) (spP_len (by rintro ds r ⟨rows, μ, rfl, _⟩; rfl)) pu_least_value

/-! ### a bound -/
def leastR (rows : List Row) (μ : Rat) : Rat := (leastV rows μ).getD 0
def boundR (t : List (List Row)) (tg μ : Rat) : Rat := sumR (t.map fun rows => leastR rows μ) - μ * tg
theorem least_stays (μ : Rat) : ∀ (rows : List Row) (b : Rat), ∃ q, rows.foldl (leastS μ) (some b) = some q
  | [], b => ⟨b, rfl⟩
  | none :: rows, b => least_stays μ rows b
  | some v :: rows, b => by
    show ∃ q, rows.foldl (leastS μ) (if (v.1 : Rat) + μ * v.2 < b then some ((v.1 : Rat) + μ * v.2) else some b) = some q
    split <;> exact least_stays μ rows _
theorem least_some (μ : Rat) : ∀ rows : List Row, someR rows ≠ [] → ∃ q, leastV rows μ = some q
  | [], h => absurd rfl h
  | none :: rows, h => least_some μ rows h
  | some v :: rows, _ => least_stays μ rows _
theorem hasAll_some {t : List (List Row)} (h : hasAll t = true) : ∀ rows ∈ t, someR rows ≠ [] := fun rows hr e => by
  have := List.all_eq_true.mp h rows hr
  rw [e] at this
  cases this
theorem sz_sum4 {k : Nat} (hk : 0 < k) {qs : List Rat} (hl : qs.length ≤ 4) (h : ∀ q ∈ qs, Sz k q) : Sz (1 + 4 * (k + 1)) (sumR qs) :=
  (sz_sumAll hk h).mono (by have := Nat.mul_le_mul_right (k + 1) hl; omega)
theorem len4 {k n : Nat} (hl : n ≤ 4) (h : 1 + 4 * (k + 1) ≤ 9000) : 1 + n * (k + 1) ≤ 9000 := by
  have := Nat.mul_le_mul_right (k + 1) hl
  omega
theorem sz_leastR {rows : List Row} {μ : Rat} (hμ : Sz 1090 μ) (h : ∀ r ∈ rows, RowOk r) : Sz 1644 (leastR rows μ) := by
  unfold leastR
  cases e : leastV rows μ with
  | none => exact Sz.zero (by decide)
  | some q => exact sz_least hμ rows none h (fun q z => by cases z) q e
theorem sz_boundR {t : List (List Row)} {tg μ : Rat} (ht : TabOk t) (hg : Sz 20 tg) (hμ : Sz 1090 μ) : Sz 7700 (boundR t tg μ) := by
  have h1 := sz_sum4 (k := 1644) (by decide) (qs := t.map fun rows => leastR rows μ) (by rw [List.length_map]; exact ht.n1) (fun q hq => by
    obtain ⟨rows, hr, rfl⟩ := List.mem_map.mp hq
    exact sz_leastR hμ (ht.ok rows hr))
  exact (h1.sub (hμ.mul hg)).mono (by decide)
def R_bound_for (ds : List D) (r : Except Int D) : Prop := ∃ (t : List (List Row)) (tg μ : Rat), ds = [encT t, rq tg, rq μ] ∧ TabOk t ∧ Sz 20 tg ∧ Sz 1090 μ ∧ hasAll t = true ∧ r = .ok (rq (boundR t tg μ))
theorem pu_bound_for (vs : List V) (H : Hp) (Q : VK) (E : XK) (hsp : spP K A.c A.ce R_bound_for vs H Q E) :
    t_bound_for K A (spP K A.c A.ce R_minus) (spP K A.c A.ce R_sum_of) (spP K A.c A.ce R_times) (spP K A.c A.ce R_least_value) { nx := fun _ H' => Q .non H', rt := Q } (L2.start ["table", "target", "multiplier", "rows"] vs) H :=
  pure_of (k := 1) (by
    rintro ds r ⟨t, tg, μ, rfl, ht, hg, hμ, ha, rfl⟩
    have hz : ∀ q ∈ t.map (fun rows => leastR rows μ), Sz 1644 q := fun q hq => by
      obtain ⟨rows, hr, rfl⟩ := List.mem_map.mp hq
      exact sz_leastR hμ (ht.ok rows hr)
    have h1 := sz_sum4 (k := 1644) (by decide) (qs := t.map fun rows => leastR rows μ) (by rw [List.length_map]; exact ht.n1) hz
    refine ⟨rfl, _, fit_outOf _, ?_⟩
    refine sd_ret (ed_minus (p := sumR (t.map fun rows => leastR rows μ)) (q := μ * tg) (ed_call (ds := [.lst ((t.map fun rows => leastR rows μ).map rq)]) (ad_cons ?_ ad_nil) ⟨_, 1644, rfl, by decide, hz, len4 (by rw [List.length_map]; exact ht.n1) (by decide), rfl⟩) (ed_times (ed_var rfl) (ed_var rfl) hμ hg (by decide)) h1 (hμ.mul hg) (by decide))
    refine (ed_lcA (ts := [3]) encRs t (fun rows => rq (leastR rows μ)) (wd_list (ed_var rfl)) (by simp) ?_ (by have := ht.n1; omega)).is (by rw [List.map_map]; rfl)
    intro rows hr
    obtain ⟨q, hq⟩ := least_some μ rows (hasAll_some ha rows hr)
    refine ⟨_, gd_name, rfl, (ed_call (d := encO (leastV rows μ)) (ds := [encRs rows, rq μ]) (by walk_at "ed") ⟨rows, μ, rfl, ht.n6 rows hr, ht.ok rows hr, hμ, rfl⟩).is ?_⟩
    unfold leastR
    rw [hq]
    rfl) hsp
theorem pr_bound_for (T : Txt K mg A) : Cal0 P w K mg base 5 "bound_for" (spP K A.c A.ce R_bound_for) := cal_bound_for T (pr_minus T) (pr_sum_of T) (pr_times T) (pr_least_value T) (spP_len (by rintro ds r ⟨t, tg, μ, rfl, _⟩; rfl)) pu_bound_for

/-! ### breakpoints -/
def bptOf (a b : Vl) : Option Rat := if a.1 < b.1 ∧ b.2 < a.2 then some ((((b.1 : Int) - (a.1 : Int) : Int) : Rat) / (a.2 - b.2)) else none
def bpts (rows : List Row) : List Rat := (someR rows).flatMap fun a => (someR rows).filterMap (bptOf a)
theorem sz_bpt {a b : Vl} {q : Rat} (ha : a.1 ≤ 100000 ∧ Sz 536 a.2) (hb : b.1 ≤ 100000 ∧ Sz 536 b.2) (h : bptOf a b = some q) : Sz 1090 q := by
  unfold bptOf at h
  split at h
  · rename_i hc
    cases h
    have h1 : Sz 17 (((b.1 : Int) - (a.1 : Int) : Int) : Rat) := Sz.int (by omega) (by decide)
    have h2 := ha.2.sub hb.2
    exact (h1.div h2 (by grind)).mono (by decide)
  · cases h
theorem bpts_ok {rows : List Row} (h : ∀ r ∈ rows, RowOk r) : ∀ q ∈ bpts rows, Sz 1090 q := fun q hq => by
  obtain ⟨a, ha, hq⟩ := List.mem_flatMap.mp hq
  obtain ⟨b, hb, e⟩ := List.mem_filterMap.mp hq
  exact sz_bpt (someR_ok h a ha) (someR_ok h b hb) e
theorem flat_len {α β : Type} {f : α → List β} {n : Nat} : ∀ l : List α, (∀ a ∈ l, (f a).length ≤ n) → (l.flatMap f).length ≤ l.length * n
  | [], _ => by simp
  | a :: l, h => by
    rw [List.flatMap_cons, List.length_append, List.length_cons, Nat.add_mul]
    have h1 := h a (by simp)
    have h2 := flat_len l (fun x hx => h x (by simp [hx]))
    omega
theorem bpts_len {rows : List Row} (h : rows.length ≤ 6) : (bpts rows).length ≤ 36 := by
  have h1 := someR_len rows
  have h2 := flat_len (f := fun a => (someR rows).filterMap (bptOf a)) (n := 6) (someR rows) (fun a _ => by
    have := List.length_filterMap_le (bptOf a) (someR rows)
    omega)
  unfold bpts
  omega
def R_breakpoints_of (ds : List D) (r : Except Int D) : Prop := ∃ rows : List Row, ds = [encRs rows] ∧ rows.length ≤ 6 ∧ (∀ r ∈ rows, RowOk r) ∧ r = .ok (.lst ((bpts rows).map rq))
theorem pu_breakpoints_of (vs : List V) (H : Hp) (Q : VK) (E : XK) (hsp : spP K A.c A.ce R_breakpoints_of vs H Q E) :
    t_breakpoints_of K A (spP K A.c A.ce R_is_less) (spP K A.c A.ce R_minus) (spP K A.c A.ce R_fraction) { nx := fun _ H' => Q .non H', rt := Q }
      (L2.start ["rows", "some", "found", "cost", "number", "other_cost", "other_number", "less", "row"] vs) H :=
  pure_of (k := 8) (by
    rintro ds r ⟨rows, rfl, hl, hok, rfl⟩
    have hso := someR_ok hok
    have hsl := someR_len rows
    refine ⟨rfl, _, fit_outOf _, ?_⟩
    refine sd_seq (sd_parO (el_some (rows := rows) rfl (by simp) (by omega)).ed (el_lst ad_nil (by simp))) ?_
    refine sd_seq (sd_forP (ts := [3, 4]) encV (someR rows) (fun pre => [.dat (encRs rows), .dat (.lst ((someR rows).map encV)), .own ((pre.flatMap fun a => (someR rows).filterMap (bptOf a)).map rq), .any, .any, .any, .any, .any, .any]) (wd_list (ed_var rfl)) (Sle.refl _) ?_) ?_
    · rintro pre a ⟨post, e⟩
      have ha := hso a (by rw [e]; simp)
      refine ⟨_, gd_pair, ?_⟩
      have hin := sd_forP (K := K) (C := A.c) (CE := A.ce) (E := E) (ts := [5, 6]) (wi := iList K (tVar 1)) (g := gTup K 2 (gCons (gName 5) (gCons (gName 6) gNil)))
        (δ := [.dat (encRs rows), .dat (.lst ((someR rows).map encV)), .own ((pre.flatMap fun a => (someR rows).filterMap (bptOf a)).map rq), .dat (.int a.1), .dat (rq a.2), .any, .any, .any, .any])
        (tb := tIfS (tAnd (tTest (tOp rLtA (tVar 3) (tVar 5))) (tB (tCall (spP K A.c A.ce R_is_less) [] E0 (tCons (tVar 6) (tCons (tVar 4) tNil))))) (tSeq (tAsg (tCall (spP K A.c A.ce R_minus) [] E0 (tCons (tVar 4) (tCons (tVar 6) tNil))) (gName 7)) (tDrop (tBM K "list" rAppend (tVar 2) (tCons (tCall (spP K A.c A.ce R_fraction) [] E0 (tCons (tOp rMulA (tOp rSubA (tVar 5) (tVar 3)) (tOp (rIx K) (tVar 7) (tC (.int 1)))) (tCons (tOp (rIx K) (tVar 7) (tC (.int 0))) tNil))) tNil)))) tNext)
        encV (someR rows) (fun pre2 => [.dat (encRs rows), .dat (.lst ((someR rows).map encV)), .own ((pre.flatMap (fun a => (someR rows).filterMap (bptOf a)) ++ pre2.filterMap (bptOf a)).map rq), .dat (.int a.1), .dat (rq a.2), .any, .any, .any, .any]) (wd_list (ed_var rfl)) (by
          simp only [List.filterMap_nil, List.append_nil]
          exact Sle.refl _) (fun pre2 b ⟨post2, e2⟩ => by
          have hb := hso b (by rw [e2]; simp)
          have z2 := ha.2.sub hb.2
          refine ⟨_, gd_pair, ?_⟩
          refine sd_if (b := decide (a.1 < b.1) && decide (b.2 < a.2)) ((td_and (a := decide (a.1 < b.1)) (b := decide (b.2 < a.2)) (by rw [← lt_cast]; walk_at "ed") fun _ => td_B (ed_less (ed_var rfl) (ed_var rfl) hb.2 ha.2 (by decide)))) (fun q => ?_) fun q => ?_
          · rw [Bool.and_eq_true, decide_eq_true_iff, decide_eq_true_iff] at q
            have hpos : 0 < a.2 - b.2 := by grind
            have n0 := rat_num_pos hpos
            have eb : bptOf a b = some ((((b.1 : Int) - (a.1 : Int) : Int) : Rat) / (a.2 - b.2)) := if_pos q
            have h1 : ((b.1 : Int) - (a.1 : Int)).natAbs < 2 ^ 17 := by omega
            refine sd_seq (sd_set (ed_minus (p := a.2) (q := b.2) (ed_var rfl) (ed_var rfl) ha.2 hb.2 (by decide))) ?_
            refine (sd_append rfl (ed_call (d := rq ((((b.1 : Int) - (a.1 : Int) : Int) : Rat) / (a.2 - b.2))) (ds := [.int (((b.1 : Int) - a.1) * (a.2 - b.2).den), .int (a.2 - b.2).num]) ?_ ⟨_, _, (a.2 - b.2).num.natAbs, rfl, (Int.natAbs_of_nonneg (by omega)).symm, by omega, Nat.lt_of_lt_of_le z2.1 (Nat.pow_le_pow_right (by decide) (by decide)), ?_⟩) ?_).weak ?_
            · walk_at "ed"
              exact wide_mul h1 z2.2 (by decide) (by decide) (by decide)
            · rw [List.length_map, List.length_append]
              have l1 := flat_len (f := fun a => (someR rows).filterMap (bptOf a)) (n := 6) pre (fun a _ => by
                have := List.length_filterMap_le (bptOf a) (someR rows)
                omega)
              have l2 := List.length_filterMap_le (bptOf a) pre2
              have l3 : pre.length ≤ 6 := by
                have := congrArg List.length e
                rw [List.length_append] at this
                omega
              have l4 : pre2.length ≤ 6 := by
                have := congrArg List.length e2
                rw [List.length_append] at this
                omega
              omega
            · have ef : ((pre.flatMap (fun a => (someR rows).filterMap (bptOf a)) ++ (pre2 ++ [b]).filterMap (bptOf a)).map rq) = ((pre.flatMap (fun a => (someR rows).filterMap (bptOf a)) ++ pre2.filterMap (bptOf a)).map rq) ++ [rq ((((b.1 : Int) - (a.1 : Int) : Int) : Rat) / (a.2 - b.2))] := by
                rw [List.filterMap_append, List.filterMap_cons, eb, ← List.append_assoc, List.map_append]
                rfl
              rw [ef]
              exact .same (.same (.same (.same (.same (.any (.any (.any (.any .nil))))))))
            · rw [div_mk, if_neg (by omega), Rat.num_intCast, Rat.den_intCast, Nat.one_mul]
          · have eb : bptOf a b = none := if_neg fun z => by
              rw [decide_eq_true z.1, decide_eq_true z.2] at q
              cases q
            refine sd_next.weak ?_
            rw [List.filterMap_append, List.filterMap_cons, eb, List.filterMap_nil, List.append_nil]
            exact .same (.same (.same (.same (.same (.any (.any (.any (.any .nil)))))))))
      refine hin.weak ?_
      rw [List.flatMap_append, List.flatMap_cons, List.flatMap_nil, List.append_nil]
      exact .same (.same (.same (.any (.any (.any (.any (.any (.any .nil))))))))
    · exact sd_freeze 2 rfl (sd_ret (ed_var rfl))) hsp
theorem pr_breakpoints_of (T : Txt K mg A) : Cal0 P w K mg base 4 "breakpoints_of" (spP K A.c A.ce R_breakpoints_of) := cal_breakpoints_of T (pr_is_less T) (pr_minus T) (pr_fraction T) (spP_len (by rintro ds r ⟨rows, rfl, _⟩; rfl)) pu_breakpoints_of

/-! ### the best bound -/
def points (t : List (List Row)) : List Rat := 0 :: t.flatMap bpts
def bbS (t : List (List Row)) (tg : Rat) (best : Option (Rat × Rat)) (μ : Rat) : Option (Rat × Rat) := match best with
  | none => some (μ, boundR t tg μ)
  | some b => if b.2 < boundR t tg μ ∨ (boundR t tg μ = b.2 ∧ μ < b.1) then some (μ, boundR t tg μ) else some b
def bestB (t : List (List Row)) (tg : Rat) : Option (Rat × Rat) := (points t).foldl (bbS t tg) none
def encP : Option (Rat × Rat) → D
  | none => .non
  | some b => .tup [rq b.1, rq b.2]
theorem eqv_rq (p q : Rat) : PyData.eqv (toPy (rq p)) (toPy (rq q)) = decide (p = q) := by
  show ((p.num == q.num) && (((p.den : Int) == (q.den : Int)) && true)) = decide (p = q)
  by_cases h : p = q
  · subst h
    simp
  · rw [decide_eq_false h, Bool.and_true, Bool.and_eq_false_iff]
    by_cases h1 : p.num = q.num
    · right
      rw [beq_eq_false_iff_ne]
      intro h2
      exact h (Rat.ext h1 (Int.ofNat.inj h2))
    · left
      rw [beq_eq_false_iff_ne]
      exact h1
theorem points_ok {t : List (List Row)} (ht : TabOk t) : ∀ q ∈ points t, Sz 1090 q := fun q hq => by
  rcases List.mem_cons.mp hq with rfl | hq
  · exact Sz.zero (by decide)
  · obtain ⟨rows, hr, hq⟩ := List.mem_flatMap.mp hq
    exact bpts_ok (ht.ok rows hr) q hq
theorem points_len {t : List (List Row)} (ht : TabOk t) : (t.flatMap bpts).length ≤ 144 := by
  have h := flat_len (f := bpts) (n := 36) t fun rows hr => bpts_len (ht.n6 rows hr)
  have := ht.n1
  omega
def SzP (b : Option (Rat × Rat)) : Prop := ∀ p, b = some p → Sz 1090 p.1 ∧ Sz 7700 p.2
theorem szP_fold {t : List (List Row)} {tg : Rat} (ht : TabOk t) (hg : Sz 20 tg) : ∀ (l : List Rat) (b : Option (Rat × Rat)), (∀ q ∈ l, Sz 1090 q) → SzP b → SzP (l.foldl (bbS t tg) b)
  | [], _, _, hb => hb
  | μ :: l, b, h, hb => by
    refine szP_fold ht hg l (bbS t tg b μ) (fun x hx => h x (by simp [hx])) ?_
    have hμ := h μ (by simp)
    have h2 := sz_boundR ht hg hμ
    intro p hp
    cases b with
    | none =>
      cases hp
      exact ⟨hμ, h2⟩
    | some b =>
      unfold bbS at hp
      dsimp only at hp
      split at hp
      · cases hp
        exact ⟨hμ, h2⟩
      · cases hp
        exact hb _ rfl
def R_best_bound (ds : List D) (r : Except Int D) : Prop := ∃ (t : List (List Row)) (tg : Rat), ds = [encT t, rq tg] ∧ TabOk t ∧ Sz 20 tg ∧ hasAll t = true ∧ r = .ok (encP (bestB t tg))
theorem pu_best_bound (T : Cst K mg A) (vs : List V) (H : Hp) (Q : VK) (E : XK) (hsp : spP K A.c A.ce R_best_bound vs H Q E) :
    t_best_bound K A (spP K A.c A.ce R_bound_for) (spP K A.c A.ce R_breakpoints_of) (spP K A.c A.ce R_is_less) { nx := fun _ H' => Q .non H', rt := Q } (L2.start ["table", "target", "points", "rows", "best", "point", "bound"] vs) H :=
  pure_of (k := 5) (by
    rintro ds r ⟨t, tg, rfl, ht, hg, ha, rfl⟩
    refine ⟨rfl, _, fit_outOf _, ?_⟩
    refine sd_seq (sd_setO (el_lst (ad_cons (ed_nought T) ad_nil) (by simp))) ?_
    refine sd_seq (sd_forP (ts := [3]) encRs t (fun pre => [.dat (encT t), .dat (rq tg), .own ((0 :: pre.flatMap bpts).map rq), .any, .any, .any, .any]) (wd_list (ed_var rfl)) (Sle.refl _) ?_) ?_
    · rintro pre rows ⟨post, e⟩
      have hm : rows ∈ t := by rw [e]; simp
      have l1 := flat_len (f := bpts) (n := 36) pre fun x hx => bpts_len (ht.n6 x (by rw [e]; simp [hx]))
      have l2 := bpts_len (ht.n6 rows hm)
      have l3 : pre.length ≤ 4 := by
        have h1 := congrArg List.length e
        have h2 := ht.n1
        rw [List.length_append] at h1
        omega
      refine ⟨_, gd_name, ?_⟩
      refine (sd_extend rfl (ed_call (d := .lst ((bpts rows).map rq)) (ds := [encRs rows]) (by walk_at "ed") ⟨rows, rfl, ht.n6 rows hm, ht.ok rows hm, rfl⟩) ?_).weak ?_
      · rw [List.length_map, List.length_map, List.length_cons]
        omega
      · rw [List.flatMap_append, List.flatMap_cons, List.flatMap_nil, List.append_nil, ← List.cons_append, List.map_append]
        exact .same (.same (.same (.any (.any (.any (.any .nil))))))
    · refine sd_freeze 2 rfl ?_
      refine sd_seq (sd_set ed_non) ?_
      refine sd_seq (sd_forP (ts := [5]) rq (points t) (fun pre => [.dat (encT t), .dat (rq tg), .dat (.lst ((points t).map rq)), .any, .dat (encP (pre.foldl (bbS t tg) none)), .any, .any]) (wd_list (ed_var rfl)) (Sle.refl _) ?_) (sd_ret (ed_var rfl))
      rintro pre μ ⟨post, e⟩
      have hμ := points_ok ht μ (by rw [e]; simp)
      have hb := szP_fold ht hg pre none (fun q hq => points_ok ht q (by rw [e]; simp [hq])) (fun p z => by cases z)
      have sb := sz_boundR ht hg hμ
      refine ⟨_, gd_name, ?_⟩
      rw [List.foldl_append]
      generalize pre.foldl (bbS t tg) none = b at *
      refine sd_seq (sd_set (ed_call (d := rq (boundR t tg μ)) (ds := [encT t, rq tg, rq μ]) (by walk_at "ed") ⟨t, tg, μ, rfl, ht, hg, hμ, ha, rfl⟩)) ?_
      have hset : SD K A.c A.ce (tAsg (tTup (tCons (tVar 5) (tCons (tVar 6) tNil))) (gName 4)) E [.dat (encT t), .dat (rq tg), .dat (.lst ((points t).map rq)), .any, .dat (encP b), .dat (rq μ), .dat (rq (boundR t tg μ))]
          (.nx [.dat (encT t), .dat (rq tg), .dat (.lst ((points t).map rq)), .any, .dat (.tup [rq μ, rq (boundR t tg μ)]), .any, .any]) :=
        (sd_set (ed_tup (by walk_at "ed") (Nat.le_of_ble_eq_true rfl))).weak (.same (.same (.same (.any (.same (.any (.any .nil)))))))
      cases b with
      | none => exact sd_if (b := true) ((td_or (a := true) (b := false) (by walk_at "ed") (fun q => Bool.noConfusion q)).is rfl) (fun _ => hset) fun q => Bool.noConfusion q
      | some b =>
        obtain ⟨z1, z2⟩ := hb b rfl
        have tst : TD K A.c (tOr (tTest (tOp rIsN1 (tVar 4) (tC .non))) (tOr (tB (tCall (spP K A.c A.ce R_is_less) [] E0 (tCons (tOp (rIx K) (tVar 4) (tC (.int 1))) (tCons (tVar 6) tNil)))) (tAnd (tTest (tOp (rEqA K) (tVar 6) (tOp (rIx K) (tVar 4) (tC (.int 1))))) (tB (tCall (spP K A.c A.ce R_is_less) [] E0 (tCons (tVar 5) (tCons (tOp (rIx K) (tVar 4) (tC (.int 0))) tNil)))))))
            [.dat (encT t), .dat (rq tg), .dat (.lst ((points t).map rq)), .any, .dat (encP (some b)), .dat (rq μ), .dat (rq (boundR t tg μ))] (false || (decide (b.2 < boundR t tg μ) || (decide (boundR t tg μ = b.2) && decide (μ < b.1)))) := by
          refine td_or (td_test (ed_op (ed_var (d := encP (some b)) rfl) ed_non rd_isN)) fun _ => td_or (td_B (ed_less (p := b.2) (ed_op (ed_var (d := .tup [rq b.1, rq b.2]) rfl) ed_int (rd_ix_t rfl)) (ed_var rfl) z2 sb (by decide))) fun _ => td_and (td_test ((ed_op (ed_var (d := rq (boundR t tg μ)) rfl) (ed_op (ed_var (d := .tup [rq b.1, rq b.2]) rfl) ed_int (rd_ix_t (d := rq b.2) rfl)) (rd_eqDA (fl_rq (n := 0) _) (fl_rq (n := 0) _) (by decide) (by decide))).is ?_)) fun _ => td_B (ed_less (q := b.1) (ed_var rfl) (ed_op (ed_var (d := .tup [rq b.1, rq b.2]) rfl) ed_int (rd_ix_t rfl)) hμ z1 (by decide))
          rw [eqv_rq]
        refine sd_if tst (fun q => ?_) fun q => ?_
        · have hc : b.2 < boundR t tg μ ∨ (boundR t tg μ = b.2 ∧ μ < b.1) := by simpa using q
          have es : bbS t tg (some b) μ = some (μ, boundR t tg μ) := if_pos hc
          show SD _ _ _ _ _ _ (.nx [_, _, _, _, .dat (encP (bbS t tg (some b) μ)), _, _])
          rw [es]
          exact hset
        · have hc : ¬ (b.2 < boundR t tg μ ∨ (boundR t tg μ = b.2 ∧ μ < b.1)) := by
            intro z
            simp at q
            rcases z with z | ⟨z, z'⟩
            · exact absurd z q.1
            · exact absurd z' (q.2 z)
          have es : bbS t tg (some b) μ = some b := if_neg hc
          show SD _ _ _ _ _ _ (.nx [_, _, _, _, .dat (encP (bbS t tg (some b) μ)), _, _])
          rw [es]
          exact sd_next.weak (.same (.same (.same (.any (.same (.any (.any .nil))))))) ) hsp
theorem pr_best_bound (T : Txt K mg A) : Cal0 P w K mg base 6 "best_bound" (spP K A.c A.ce R_best_bound) := cal_best_bound T (pr_bound_for T) (pr_breakpoints_of T) (pr_is_less T) (spP_len (by rintro ds r ⟨t, tg, rfl, _⟩; rfl)) (pu_best_bound T.toCst)
end
end Pd

/-! ## Pu4 -/
set_option Elab.async false
set_option linter.all false
set_option maxRecDepth 100000
set_option maxHeartbeats 2000000
set_option autoImplicit false
/-! The defs of plans: what they hand back. -/
namespace Pd
open PySem PySem.Spec PyProof.Rows L2 Mt
local macro_rules | `(tactic| walk_at "ed") => `(tactic| repeat' (first
  | exact ed_var rfl | exact ed_int | exact ed_bl | exact ed_non
  | exact rd_num | exact rd_den | exact rd_addA | exact rd_I0 | exact rd_B0 | exact rd_eqI | exact rd_neI | exact rd_isN | exact rd_notN
  | exact rd_ix_t rfl
  | exact ed_one (by assumption) | exact ed_nought (by assumption)
  | apply rd_I
  | apply ed_op
  | exact ad_nil | apply ad_cons
  | apply td_test | apply td_B | apply td_not
  | apply ed_servers (by assumption) | apply ed_rate (by assumption) | apply ed_cost (by assumption)
  | apply ed_arrival (by assumption) | apply ed_weight (by assumption) | apply ed_options (by assumption)
  | apply ed_stations (by assumption) | apply ed_target (by assumption) | apply ed_limit (by assumption)
  | assumption))
abbrev encN (n : Nat) : D := .int (n : Nat)
theorem le_cast (a b : Nat) : decide ((a : Int) ≤ (b : Int)) = decide (a ≤ b) := decide_eq_decide.mpr Int.ofNat_le
theorem eq_cast (a b : Nat) : decide ((a : Int) = (b : Int)) = decide (a = b) := decide_eq_decide.mpr Int.ofNat_inj
section
variable {K : PySem.W.Frag} {mg : Str → Option Value} {A : Ad} {P : Program} {w : World} {base : Heap} {δ : List Sd} {te : TE} {α : Type}
theorem ed_lenM {enc : α → D} {xs : List α} (h : ED K A.c te δ (.lst (xs.map enc))) : ED K A.c (tCB (rLen1 K) (tCons te tNil)) δ (.int (xs.length : Nat)) :=
  (ed_cb (ad_cons h ad_nil) cd_len).is (by rw [List.length_map])

/-! ### is_plan -/
def isPlanP (m : Lrx8.Model) (plan : List Nat) : Bool := decide (plan.length = m.stations.length) && (m.stations.zip plan).all fun p => !decide (p.1.choices.length ≤ p.2)
def R_is_plan (ds : List D) (r : Except Int D) : Prop := ∃ (m : Lrx8.Model) (plan : List Nat), ds = [encM m, encNs plan] ∧ MOk m ∧ r = .ok (.bl (isPlanP m plan))
theorem pu_is_plan (T : Cst K mg A) (vs : List V) (H : Hp) (Q : VK) (E : XK) (hsp : spP K A.c A.ce R_is_plan vs H Q E) :
    t_is_plan K A { nx := fun _ H' => Q .non H', rt := Q } (L2.start ["model", "plan", "station", "number"] vs) H :=
  pure_of (k := 2) (by
    rintro ds r ⟨m, plan, rfl, hm, rfl⟩
    refine ⟨rfl, _, fit_outOf _, ?_⟩
    have tst : TD K A.c (tTest (tOp (rNeA K) (tCB (rLen1 K) (tCons (tVar 1) tNil)) (tCB (rLen1 K) (tCons (tFld K (tVar 0) "stations") tNil)))) [.dat (encM m), .dat (encNs plan), .any, .any] (!decide (plan.length = m.stations.length)) := by
      rw [← eq_cast]
      exact td_test (ed_op (ed_lenM (enc := encN) (ed_var rfl)) (ed_lenM (enc := encS) (ed_stations T (ed_var (d := encM m) rfl))) rd_neI)
    unfold isPlanP
    by_cases hl : plan.length = m.stations.length
    · rw [decide_eq_true hl] at tst ⊢
      refine sd_seq (sd_if tst (fun q => Bool.noConfusion q) fun _ => sd_next) ?_
      have hf := sd_forAll (K := K) (C := A.c) (CE := A.ce) (E := E) (δ := [.dat (encM m), .dat (encNs plan), .any, .any]) (wi := iZip K (tCons (tFld K (tVar 0) "stations") (tCons (tVar 1) tNil))) (g := gTup K 2 (gCons (gName 2) (gCons (gName 3) gNil))) (ts := [2, 3])
        (tb := tIfS (tTest (tOp rGeA (tVar 3) (tCB (rLen1 K) (tCons (tFld K (tVar 2) "options") tNil)))) (tRet (tC (.bl false))) tNext)
        (fun p : Lrx8.Station × Nat => .tup [encS p.1, encN p.2]) (m.stations.zip plan) (fun p => !decide (p.1.choices.length ≤ p.2)) (.bl false) (fun _ => [.dat (encM m), .dat (encNs plan), .any, .any])
        (wd_zipM (ed_stations T (ed_var (d := encM m) rfl)) (ed_var (d := .lst (plan.map encN)) rfl)) (Sle.refl _) (fun pre p _ => by
          have t2 : TD K A.c (tTest (tOp rGeA (tVar 3) (tCB (rLen1 K) (tCons (tFld K (tVar 2) "options") tNil)))) [.dat (encM m), .dat (encNs plan), .dat (encS p.1), .dat (encN p.2)] (decide (p.1.choices.length ≤ p.2)) := by
            rw [← le_cast]
            exact td_test (ed_op (ed_var rfl) (ed_lenM (enc := encC) (ed_options T (ed_var (d := encS p.1) rfl))) rd_B0)
          refine ⟨_, gd_pair, fun h => ?_, fun h => ?_⟩
          · refine (sd_if t2 (fun q => ?_) fun _ => sd_next).weak (.same (.same (.any (.any .nil))))
            rw [q] at h
            cases h
          · refine sd_if t2 (fun _ => sd_ret ed_bl) fun q => ?_
            rw [q] at h
            cases h)
      cases e : (m.stations.zip plan).all fun p => !decide (p.1.choices.length ≤ p.2) with
      | true =>
        rw [if_pos e] at hf
        exact sd_seq hf (sd_ret ed_bl)
      | false =>
        rw [if_neg (by rw [e]; decide)] at hf
        exact sd_seq_rt hf
    · rw [decide_eq_false hl] at tst ⊢
      exact sd_seq_rt (sd_if tst (fun _ => sd_ret ed_bl) fun q => Bool.noConfusion q)) hsp
theorem pr_is_plan (T : Txt K mg A) : Cal0 P w K mg base 1 "is_plan" (spP K A.c A.ce R_is_plan) := cal_is_plan T (spP_len (by rintro ds r ⟨m, plan, rfl, _⟩; rfl)) (pu_is_plan T.toCst)

/-! ### value_of -/
def ents (t : List (List Row)) (plan : List Nat) : List Row := (t.zip plan).map fun p => p.1.getD p.2 none
def valO (t : List (List Row)) (plan : List Nat) : Option Vl := if (ents t plan).any (fun r => isNon (encR r)) = true then none else some (((someR (ents t plan)).map (·.1)).sum, sumR ((someR (ents t plan)).map (·.2)))
def encVO : Option Vl → D
  | none => .non
  | some v => encV v
def PlanIn (t : List (List Row)) (plan : List Nat) : Prop := ∀ p ∈ t.zip plan, p.2 < p.1.length
theorem ents_ok {t : List (List Row)} (ht : TabOk t) (plan : List Nat) : ∀ r ∈ ents t plan, RowOk r := fun r hr => by
  obtain ⟨⟨rows, n⟩, hp, rfl⟩ := List.mem_map.mp hr
  have h1 := ht.ok rows (List.of_mem_zip hp).1
  dsimp only
  cases e : rows[n]? with
  | none =>
    rw [List.getD_eq_getElem?_getD, e]
    intro v z
    cases z
  | some r =>
    rw [List.getD_eq_getElem?_getD, e]
    exact h1 r (List.mem_of_getElem? e)
theorem ents_len {t : List (List Row)} (ht : TabOk t) (plan : List Nat) : (ents t plan).length ≤ 4 := by
  unfold ents
  rw [List.length_map, List.length_zip]
  have := ht.n1
  omega
theorem all_some : ∀ rows : List Row, rows.any (fun r => isNon (encR r)) = false → rows.map encR = (someR rows).map encV
  | [], _ => rfl
  | none :: r, h => by simp [isNon, encR] at h
  | some v :: r, h => congrArg (encV v :: ·) (all_some r (by simpa [isNon, encR] using h))
theorem sum_cast : ∀ l : List Nat, ((l.map fun n : Nat => (n : Int)).sum : Int) = ((l.sum : Nat) : Int)
  | [] => rfl
  | n :: l => by
    rw [List.map_cons, List.sum_cons, List.sum_cons, sum_cast l, Int.natCast_add]
theorem any_non (rows : List Row) : ((rows.map encR).any fun z => PyData.eqv (toPy z) (toPy .non)) = rows.any fun r => isNon (encR r) := by
  rw [List.any_map]
  congr 1
  funext r
  cases r <;> rfl
theorem fl_encRs (rows : List Row) : Fl 3 (.lst (rows.map encR)) := .lst fun d hd => by
  obtain ⟨r, _, rfl⟩ := List.mem_map.mp hd
  cases r with
  | none => exact .non
  | some v => exact fl_encV v
def R_value_of (ds : List D) (r : Except Int D) : Prop := ∃ (t : List (List Row)) (plan : List Nat), ds = [encT t, encNs plan] ∧ TabOk t ∧ PlanIn t plan ∧ r = .ok (encVO (valO t plan))
theorem pu_value_of (vs : List V) (H : Hp) (Q : VK) (E : XK) (hsp : spP K A.c A.ce R_value_of vs H Q E) :
    t_value_of K A (spP K A.c A.ce R_sum_of) { nx := fun _ H' => Q .non H', rt := Q } (L2.start ["table", "plan", "rows", "row", "number", "cost"] vs) H :=
  pure_of (k := 4) (by
    rintro ds r ⟨t, plan, rfl, ht, hp, rfl⟩
    refine ⟨rfl, _, fit_outOf _, ?_⟩
    have hl := ents_len ht plan
    have hok := someR_ok (ents_ok ht plan)
    have hsl := someR_len (ents t plan)
    refine sd_seq (sd_set ((ed_lcA (ts := [3, 4]) (fun p : List Row × Nat => .tup [encRs p.1, encN p.2]) (t.zip plan) (fun p => encR (p.1.getD p.2 none)) (wd_zipM (ed_var (d := .lst (t.map encRs)) rfl) (ed_var (d := .lst (plan.map encN)) rfl)) (by simp) ?_ ?_).is (d' := .lst ((ents t plan).map encR)) (by unfold ents; rw [List.map_map]; rfl))) ?_
    · intro p hpm
      refine ⟨_, gd_pair, rfl, ed_op (ed_var (d := encRs p.1) rfl) (ed_var rfl) (rd_ix_l (atI_nat' ?_))⟩
      rw [List.getElem?_map, List.getD_eq_getElem?_getD, List.getElem?_eq_getElem (hp p hpm)]
      rfl
    · have := ht.n1
      rw [List.length_zip]
      omega
    · have tst : TD K A.c (tTest (tOp (rInD K) (tC .non) (tVar 2))) [.dat (encT t), .dat (encNs plan), .dat (.lst ((ents t plan).map encR)), .any, .any, .any] ((ents t plan).any fun r => isNon (encR r)) := by
        rw [← any_non]
        exact td_test (ed_op ed_non (ed_var rfl) (rd_inD (Fl.non (n := 0)) (fl_encRs _) (by decide) (by decide)))
      unfold valO
      cases e : (ents t plan).any fun r => isNon (encR r) with
      | true =>
        rw [e] at tst
        rw [if_pos rfl]
        exact sd_seq_rt (sd_if tst (fun _ => sd_ret ed_non) fun q => Bool.noConfusion q)
      | false =>
        rw [e] at tst
        rw [if_neg (by decide)]
        refine sd_seq (sd_if tst (fun q => Bool.noConfusion q) fun _ => sd_next) ?_
        have ea := all_some (ents t plan) e
        refine sd_ret (ed_tup (ds := [.int (((someR (ents t plan)).map (·.1)).sum : Nat), rq (sumR ((someR (ents t plan)).map (·.2)))]) (ad_cons ?_ (ad_cons ?_ ad_nil)) (Nat.le_of_ble_eq_true rfl))
        · rw [← sum_cast]
          refine ed_cb (ad_cons ((ed_lcA (ts := [5, 4]) encV (someR (ents t plan)) (fun v => .int (v.1 : Nat)) (wd_list (ed_var (by rw [← ea]; rfl))) (by simp) (fun v hv => ⟨_, gd_pair, rfl, ed_var rfl⟩) (by omega)).is ?_) ad_nil) cd_sum
          rw [List.map_map, List.map_map]
          rfl
        · refine ed_call (ds := [.lst (((someR (ents t plan)).map (·.2)).map rq)]) (ad_cons ((ed_lcA (ts := [5, 4]) encV (someR (ents t plan)) (fun v => rq v.2) (wd_list (ed_var (by rw [← ea]; rfl))) (by simp) (fun v hv => ⟨_, gd_pair, rfl, ed_var rfl⟩) (by omega)).is ?_) ad_nil) ⟨_, 536, rfl, by decide, fun q hq => ?_, len4 (by rw [List.length_map]; omega) (by decide), rfl⟩
          · rw [List.map_map]
            rfl
          · obtain ⟨v, hv, rfl⟩ := List.mem_map.mp hq
            exact (hok v hv).2) hsp
theorem pr_value_of (T : Txt K mg A) : Cal0 P w K mg base 5 "value_of" (spP K A.c A.ce R_value_of) := cal_value_of T (pr_sum_of T) (spP_len (by rintro ds r ⟨t, plan, rfl, _⟩; rfl)) pu_value_of
theorem valO_sz {t : List (List Row)} {plan : List Nat} {v : Vl} (ht : TabOk t) (h : valO t plan = some v) : Sz 2200 v.2 := by
  unfold valO at h
  split at h
  · cases h
  · cases h
    have hl := ents_len ht plan
    have hsl := someR_len (ents t plan)
    refine (sz_sum4 (k := 536) (by decide) (by rw [List.length_map]; omega) fun q hq => ?_).mono (by decide)
    obtain ⟨v, hv, rfl⟩ := List.mem_map.mp hq
    exact (someR_ok (ents_ok ht plan) v hv).2

/-! ### all_plans -/
def stepP (plans : List (List Nat)) (rows : List Row) : List (List Nat) := plans.flatMap fun plan => (allowedL rows).map fun at_ => plan ++ [at_]
def plansP (t : List (List Row)) : List (List Nat) := t.foldl stepP [[]]
theorem allowedL_len (rows : List Row) : (allowedL rows).length ≤ rows.length := by
  unfold allowedL
  rw [List.length_map]
  have := List.length_filter_le (fun p : Row × Nat => !isNon (encR p.1)) rows.zipIdx
  rwa [List.length_zipIdx] at this
theorem stepP_len {plans : List (List Nat)} {rows : List Row} (h : rows.length ≤ 6) : (stepP plans rows).length ≤ plans.length * 6 :=
  flat_len plans fun p _ => by
    rw [List.length_map]
    have := allowedL_len rows
    omega
theorem plansP_len : ∀ (t : List (List Row)) (plans : List (List Nat)), (∀ rows ∈ t, rows.length ≤ 6) → (t.foldl stepP plans).length ≤ plans.length * 6 ^ t.length
  | [], plans, _ => by simp
  | rows :: t, plans, h => by
    have h1 := plansP_len t (stepP plans rows) fun r hr => h r (by simp [hr])
    have h2 := stepP_len (plans := plans) (h rows (by simp))
    rw [List.foldl_cons, List.length_cons, Nat.pow_succ, Nat.mul_comm (6 ^ t.length), ← Nat.mul_assoc]
    exact Nat.le_trans h1 (Nat.mul_le_mul_right _ h2)
theorem plans_len {t : List (List Row)} (ht : TabOk t) : (plansP t).length ≤ 1296 := by
  have h := plansP_len t [[]] ht.n6
  have h2 : 6 ^ t.length ≤ 6 ^ 4 := Nat.pow_le_pow_right (by decide) ht.n1
  simp only [List.length_cons, List.length_nil] at h
  unfold plansP
  omega
theorem plans_len' {t pre : List (List Row)} {post : List (List Row)} (ht : TabOk t) (e : t = pre ++ post) : (pre.foldl stepP [[]]).length ≤ 1296 :=
  plans_len (t := pre) ⟨by have := ht.n1; rw [e, List.length_append] at this; omega, fun r hr => ht.n6 r (by rw [e]; simp [hr]), fun r hr => ht.ok r (by rw [e]; simp [hr])⟩
def encPs (ps : List (List Nat)) : D := .lst (ps.map encNs)
def R_all_plans (ds : List D) (r : Except Int D) : Prop := ∃ t : List (List Row), ds = [encT t] ∧ TabOk t ∧ r = .ok (encPs (plansP t))
theorem plan_short {t : List (List Row)} : ∀ (pre : List (List Row)) (plans : List (List Nat)) (n : Nat), (∀ p ∈ plans, p.length = n) → ∀ p ∈ pre.foldl stepP plans, p.length = n + pre.length
  | [], plans, n, h, p, hp => h p hp
  | rows :: pre, plans, n, h, p, hp => by
    have := plan_short (t := t) pre (stepP plans rows) (n + 1) (fun q hq => by
      obtain ⟨p0, h0, hq⟩ := List.mem_flatMap.mp hq
      obtain ⟨a, _, rfl⟩ := List.mem_map.mp hq
      rw [List.length_append, h p0 h0]
      rfl) p hp
    rw [this, List.length_cons]
    omega
theorem pu_all_plans (vs : List V) (H : Hp) (Q : VK) (E : XK) (hsp : spP K A.c A.ce R_all_plans vs H Q E) :
    t_all_plans K A { nx := fun _ H' => Q .non H', rt := Q } (L2.start ["table", "plans", "rows", "longer", "plan", "at", "row"] vs) H :=
  pure_of (k := 6) (by
    rintro ds r ⟨t, rfl, ht, rfl⟩
    refine ⟨rfl, _, fit_outOf _, ?_⟩
    refine sd_seq (sd_set (ed_lst (ds := [encNs []]) (ad_cons (ed_lst ad_nil (by simp)) ad_nil) (by simp))) ?_
    refine sd_seq (sd_forP (ts := [2]) encRs t (fun pre => [.dat (encT t), .dat (encPs (pre.foldl stepP [[]])), .any, .any, .any, .any, .any]) (wd_list (ed_var rfl)) (Sle.refl _) ?_) (sd_ret (ed_var rfl))
    rintro pre rows ⟨post, e⟩
    have hr := ht.n6 rows (by rw [e]; simp)
    have hln := plans_len' ht e
    have hsh := plan_short (t := t) pre [[]] 0 (fun p hp => by simp at hp; simp [hp])
    have hpl : pre.length ≤ 4 := by
      have h1 := congrArg List.length e
      have h2 := ht.n1
      rw [List.length_append] at h1
      omega
    refine ⟨_, gd_name, ?_⟩
    rw [List.foldl_append]
    generalize pre.foldl stepP [[]] = plans at *
    refine sd_seq (sd_setO (el_lst ad_nil (by simp))) ?_
    refine sd_seq (sd_forP (ts := [4]) encNs plans (fun pre2 => [.dat (encT t), .dat (encPs plans), .dat (encRs rows), .own ((stepP pre2 rows).map encNs), .any, .any, .any]) (wd_list (ed_var rfl)) (Sle.refl _) ?_) ?_
    · rintro pre2 plan ⟨post2, e2⟩
      have hp2 : pre2.length ≤ plans.length := by
        have h1 := congrArg List.length e2
        rw [List.length_append] at h1
        omega
      have hpn := hsh plan (by rw [e2]; simp)
      have h3 := stepP_len (plans := pre2) hr
      refine ⟨_, gd_name, ?_⟩
      refine (sd_extend rfl ((ed_lcM (ts := [5, 6]) (fun p : Row × Nat => .tup [.int (p.2 : Nat), encR p.1]) rows.zipIdx (fun p => !isNon (encR p.1)) (fun p => encNs (plan ++ [p.2])) (wd_enumM (enc := encR) (ed_var rfl)) (by simp) ?_ (by rw [List.length_zipIdx]; omega)).is (d' := .lst (((allowedL rows).map fun at_ => plan ++ [at_]).map encNs)) ?_) ?_).weak ?_
      · intro p hp
        refine ⟨_, gd_pair, rfl, by walk_at "ed", fun _ => ?_⟩
        refine (ed_op (ed_var (d := encNs plan) rfl) (ed_lst (ds := [encN p.2]) (by walk_at "ed") (by simp)) (rd_catA (by rw [List.length_map, hpn]; simp; omega))).is ?_
        unfold encNs
        rw [List.map_append]
        rfl
      · unfold allowedL
        rw [List.map_map, List.map_map]
        rfl
      · rw [List.length_map, List.length_map, List.length_map]
        have := allowedL_len rows
        omega
      · have es : stepP (pre2 ++ [plan]) rows = stepP pre2 rows ++ (allowedL rows).map fun at_ => plan ++ [at_] := by
          unfold stepP
          rw [List.flatMap_append, List.flatMap_cons, List.flatMap_nil, List.append_nil]
        rw [es, List.map_append]
        exact .same (.same (.same (.same (.any (.any (.any .nil))))))
    · refine sd_freeze 3 rfl ((sd_set (ed_var rfl)).weak ?_)
      exact .same (.same (.any (.any (.any (.any (.any .nil))))))) hsp
theorem pr_all_plans (T : Txt K mg A) : Cal0 P w K mg base 1 "all_plans" (spP K A.c A.ce R_all_plans) := cal_all_plans T (spP_len (by rintro ds r ⟨t, rfl, _⟩; rfl)) pu_all_plans

/-! ### feasible, better -/
def feas (v : Vl) (tg : Rat) : Bool := !decide (tg < v.2)
def betV (a b : Vl) : Bool := decide (a.1 < b.1) || (decide (a.1 = b.1) && decide (a.2 < b.2))
def R_is_feasible (ds : List D) (r : Except Int D) : Prop := ∃ (v : Vl) (tg : Rat), ds = [encV v, rq tg] ∧ Sz 2200 v.2 ∧ Sz 20 tg ∧ r = .ok (.bl (feas v tg))
theorem pu_is_feasible (vs : List V) (H : Hp) (Q : VK) (E : XK) (hsp : spP K A.c A.ce R_is_feasible vs H Q E) :
    t_is_feasible K A (spP K A.c A.ce R_is_less) { nx := fun _ H' => Q .non H', rt := Q } (L2.start ["value", "target"] vs) H :=
  pure_of (k := 0) (by
    rintro ds r ⟨v, tg, rfl, hv, hg, rfl⟩
    refine ⟨rfl, _, fit_outOf _, ?_⟩
    exact sd_ret (ed_notV (ed_less (q := v.2) (ed_var rfl) (ed_op (ed_var (d := encV v) rfl) ed_int (rd_ix_t rfl)) hg hv (by decide)))) hsp
theorem pr_is_feasible (T : Txt K mg A) : Cal0 P w K mg base 2 "is_feasible" (spP K A.c A.ce R_is_feasible) := cal_is_feasible T (pr_is_less T) (spP_len (by rintro ds r ⟨v, tg, rfl, _⟩; rfl)) pu_is_feasible
def R_is_better (ds : List D) (r : Except Int D) : Prop := ∃ (a b : Vl), ds = [encV a, encV b] ∧ Sz 2200 a.2 ∧ Sz 2200 b.2 ∧ r = .ok (.bl (betV a b))
theorem pu_is_better (vs : List V) (H : Hp) (Q : VK) (E : XK) (hsp : spP K A.c A.ce R_is_better vs H Q E) :
    t_is_better K A (spP K A.c A.ce R_is_less) { nx := fun _ H' => Q .non H', rt := Q } (L2.start ["one", "other"] vs) H :=
  pure_of (k := 0) (by
    rintro ds r ⟨a, b, rfl, ha, hb, rfl⟩
    refine ⟨rfl, _, fit_outOf _, ?_⟩
    unfold betV
    rw [← lt_cast, ← eq_cast]
    exact sd_ret (ed_orV (by walk_at "ed") fun _ => ed_andV (by walk_at "ed") fun _ => ed_less (p := a.2) (q := b.2) (by walk_at "ed") (by walk_at "ed") ha hb (by decide))) hsp
theorem pr_is_better (T : Txt K mg A) : Cal0 P w K mg base 2 "is_better" (spP K A.c A.ce R_is_better) := cal_is_better T (pr_is_less T) (spP_len (by rintro ds r ⟨v, tg, rfl, _⟩; rfl)) pu_is_better

/-! ### the best of some plans -/
abbrev Vp := Vl × List Nat
def encVp (x : Vp) : D := .tup [encV x.1, encNs x.2]
def encOp : Option Vp → D
  | none => .non
  | some x => encVp x
def bestS (t : List (List Row)) (tg : Rat) (best : Option Vp) (p : List Nat) : Option Vp := match valO t p with
  | none => best
  | some v => match best with
    | none => if feas v tg = true then some (v, p) else none
    | some b => if feas v tg = true ∧ betV v b.1 = true then some (v, p) else some b
def bestOf (t : List (List Row)) (ps : List (List Nat)) (tg : Rat) : Option Vp := ps.foldl (bestS t tg) none
def Alw (t : List (List Row)) (ps : List (List Nat)) : Prop := ∀ p ∈ ps, PlanIn t p ∧ ∃ v, valO t p = some v
theorem best_sz {t : List (List Row)} {tg : Rat} (ht : TabOk t) : ∀ (ps : List (List Nat)) (b : Option Vp), (∀ x, b = some x → Sz 2200 x.1.2) → ∀ x, ps.foldl (bestS t tg) b = some x → Sz 2200 x.1.2
  | [], b, h, x, e => h x e
  | p :: ps, b, h, x, e => by
    refine best_sz ht ps (bestS t tg b p) ?_ x e
    intro y hy
    unfold bestS at hy
    cases ev : valO t p with
    | none =>
      rw [ev] at hy
      exact h y hy
    | some v =>
      rw [ev] at hy
      have hv := valO_sz ht ev
      cases b with
      | none =>
        dsimp only at hy
        split at hy
        · cases hy
          exact hv
        · cases hy
      | some b =>
        dsimp only at hy
        split at hy
        · cases hy
          exact hv
        · cases hy
          exact h _ rfl
def R_best_of (ds : List D) (r : Except Int D) : Prop := ∃ (t : List (List Row)) (ps : List (List Nat)) (tg : Rat), ds = [encT t, encPs ps, rq tg] ∧ TabOk t ∧ Alw t ps ∧ Sz 20 tg ∧ r = .ok (encOp (bestOf t ps tg))
theorem pu_best_of (vs : List V) (H : Hp) (Q : VK) (E : XK) (hsp : spP K A.c A.ce R_best_of vs H Q E) :
    t_best_of K A (spP K A.c A.ce R_value_of) (spP K A.c A.ce R_is_feasible) (spP K A.c A.ce R_is_better) { nx := fun _ H' => Q .non H', rt := Q } (L2.start ["table", "plans", "target", "best", "plan", "value"] vs) H :=
  pure_of (k := 3) (by
    rintro ds r ⟨t, ps, tg, rfl, ht, ha, hg, rfl⟩
    refine ⟨rfl, _, fit_outOf _, ?_⟩
    refine sd_seq (sd_set ed_non) ?_
    refine sd_seq (sd_forP (ts := [4]) encNs ps (fun pre => [.dat (encT t), .dat (encPs ps), .dat (rq tg), .dat (encOp (pre.foldl (bestS t tg) none)), .any, .any]) (wd_list (ed_var rfl)) (Sle.refl _) ?_) (sd_ret (ed_var rfl))
    rintro pre p ⟨post, e⟩
    obtain ⟨hp, v, hv⟩ := ha p (by rw [e]; simp)
    have zv := valO_sz ht hv
    have hb := best_sz (tg := tg) ht pre none (fun x z => by cases z)
    refine ⟨_, gd_name, ?_⟩
    rw [List.foldl_append]
    generalize pre.foldl (bestS t tg) none = b at *
    refine sd_seq (sd_set (ed_call (d := encV v) (ds := [encT t, encNs p]) (by walk_at "ed") ⟨t, p, rfl, ht, hp, by rw [hv]; rfl⟩)) ?_
    have tf : TD K A.c (tB (tCall (spP K A.c A.ce R_is_feasible) [] E0 (tCons (tVar 5) (tCons (tVar 2) tNil)))) [.dat (encT t), .dat (encPs ps), .dat (rq tg), .dat (encOp b), .dat (encNs p), .dat (encV v)] (feas v tg) :=
      td_B (ed_call (ds := [encV v, rq tg]) (by walk_at "ed") ⟨v, tg, rfl, zv, hg, rfl⟩)
    have hset : SD K A.c A.ce (tAsg (tTup (tCons (tVar 5) (tCons (tVar 4) tNil))) (gName 3)) E [.dat (encT t), .dat (encPs ps), .dat (rq tg), .dat (encOp b), .dat (encNs p), .dat (encV v)] (.nx [.dat (encT t), .dat (encPs ps), .dat (rq tg), .dat (encVp (v, p)), .any, .any]) :=
      (sd_set (ed_tup (ds := [encV v, encNs p]) (by walk_at "ed") (Nat.le_of_ble_eq_true rfl))).weak (.same (.same (.same (.same (.any (.any .nil))))))
    have hnx : SD K A.c A.ce tNext E [.dat (encT t), .dat (encPs ps), .dat (rq tg), .dat (encOp b), .dat (encNs p), .dat (encV v)] (.nx [.dat (encT t), .dat (encPs ps), .dat (rq tg), .dat (encOp b), .any, .any]) :=
      sd_next.weak (.same (.same (.same (.same (.any (.any .nil))))))
    show SD _ _ _ _ _ _ (.nx [_, _, _, .dat (encOp (bestS t tg b p)), _, _])
    cases b with
    | none =>
      have es : bestS t tg none p = if feas v tg = true then some (v, p) else none := by unfold bestS; rw [hv]
      rw [es]
      refine sd_if (b := feas v tg && true) (td_and tf fun _ => (td_or (a := true) (b := false) (td_test (ed_op (ed_var (d := .non) rfl) ed_non rd_isN)) (fun q => Bool.noConfusion q)).is rfl) (fun q => ?_) fun q => ?_
      · rw [Bool.and_true] at q
        rw [if_pos q]
        exact hset
      · rw [Bool.and_true] at q
        rw [if_neg (by rw [q]; decide)]
        exact hnx
    | some b =>
      have es : bestS t tg (some b) p = if feas v tg = true ∧ betV v b.1 = true then some (v, p) else some b := by unfold bestS; rw [hv]
      rw [es]
      refine sd_if (b := feas v tg && (false || betV v b.1)) (td_and tf fun _ => td_or (td_test (ed_op (ed_var (d := encVp b) rfl) ed_non rd_isN)) fun _ => td_B (ed_call (ds := [encV v, encV b.1]) (ad_cons (ed_var rfl) (ad_cons (ed_op (ed_var (d := encVp b) rfl) ed_int (rd_ix_t rfl)) ad_nil)) ⟨v, b.1, rfl, zv, hb b rfl, rfl⟩)) (fun q => ?_) fun q => ?_
      · rw [Bool.false_or, Bool.and_eq_true] at q
        rw [if_pos q]
        exact hset
      · rw [if_neg fun z => by rw [z.1, z.2] at q; cases q]
        exact hnx) hsp
theorem pr_best_of (T : Txt K mg A) : Cal0 P w K mg base 6 "best_of" (spP K A.c A.ce R_best_of) := cal_best_of T (pr_value_of T) (pr_is_feasible T) (pr_is_better T) (spP_len (by rintro ds r ⟨t, ps, tg, rfl, _⟩; rfl)) pu_best_of

/-! ### all plans are allowed -/
theorem zip_snoc {α β : Type} : ∀ (xs : List α) (ys : List β) (x : α) (y : β), xs.length = ys.length → (xs ++ [x]).zip (ys ++ [y]) = xs.zip ys ++ [(x, y)]
  | [], [], _, _, _ => rfl
  | [], _ :: _, _, _, h => by simp at h
  | _ :: _, [], _, _, h => by simp at h
  | a :: xs, b :: ys, x, y, h => congrArg ((a, b) :: ·) (zip_snoc xs ys x y (by simpa using h))
/-- a plan's entries are all there -/
def Full (t : List (List Row)) (p : List Nat) : Prop := p.length = t.length ∧ ∀ q ∈ t.zip p, ∃ v, q.1[q.2]? = some (some v)
theorem full_snoc {t : List (List Row)} {rows : List Row} {p : List Nat} {i : Nat} {v : Vl} (h : Full t p) (e : rows[i]? = some (some v)) : Full (t ++ [rows]) (p ++ [i]) := by
  refine ⟨by rw [List.length_append, List.length_append, h.1]; rfl, fun q hq => ?_⟩
  rw [zip_snoc _ _ _ _ h.1.symm, List.mem_append] at hq
  rcases hq with hq | hq
  · exact h.2 q hq
  · simp at hq
    subst hq
    exact ⟨v, e⟩
theorem plans_full : ∀ (post pre : List (List Row)) (plans : List (List Nat)), (∀ p ∈ plans, Full pre p) → ∀ p ∈ post.foldl stepP plans, Full (pre ++ post) p
  | [], pre, plans, h, p, hp => by
    rw [List.append_nil]
    exact h p hp
  | rows :: post, pre, plans, h, p, hp => by
    have e : pre ++ rows :: post = (pre ++ [rows]) ++ post := by simp
    rw [e]
    refine plans_full post (pre ++ [rows]) (stepP plans rows) (fun q hq => ?_) p hp
    obtain ⟨p0, h0, hq⟩ := List.mem_flatMap.mp hq
    obtain ⟨i, hi, rfl⟩ := List.mem_map.mp hq
    obtain ⟨v, hv⟩ := allowedL_mem hi
    exact full_snoc (h p0 h0) hv
theorem full_val {t : List (List Row)} {p : List Nat} (h : Full t p) : PlanIn t p ∧ ∃ v, valO t p = some v := by
  constructor
  · intro q hq
    obtain ⟨v, hv⟩ := h.2 q hq
    exact (List.getElem?_eq_some_iff.mp hv).1
  · unfold valO
    rw [if_neg]
    · exact ⟨_, rfl⟩
    · intro z
      rw [List.any_eq_true] at z
      obtain ⟨r, hr, hn⟩ := z
      obtain ⟨q, hq, rfl⟩ := List.mem_map.mp hr
      obtain ⟨v, hv⟩ := h.2 q hq
      rw [List.getD_eq_getElem?_getD, hv] at hn
      cases hn
theorem plansP_full (t : List (List Row)) : ∀ p ∈ plansP t, Full t p := plans_full t [] [[]] (fun p hp => by
  simp at hp
  subst hp
  exact ⟨rfl, fun q hq => by simp at hq⟩)
theorem plansP_alw (t : List (List Row)) : Alw t (plansP t) := fun p hp => full_val (plansP_full t p hp)
def R_best_plan (ds : List D) (r : Except Int D) : Prop := ∃ (t : List (List Row)) (tg : Rat), ds = [encT t, rq tg] ∧ TabOk t ∧ Sz 20 tg ∧ r = .ok (encOp (bestOf t (plansP t) tg))
theorem pu_best_plan (vs : List V) (H : Hp) (Q : VK) (E : XK) (hsp : spP K A.c A.ce R_best_plan vs H Q E) :
    t_best_plan K A (spP K A.c A.ce R_best_of) (spP K A.c A.ce R_all_plans) { nx := fun _ H' => Q .non H', rt := Q } (L2.start ["table", "target"] vs) H :=
  pure_of (k := 0) (by
    rintro ds r ⟨t, tg, rfl, ht, hg, rfl⟩
    refine ⟨rfl, _, fit_outOf _, ?_⟩
    exact sd_ret (ed_call (ds := [encT t, encPs (plansP t), rq tg]) (ad_cons (ed_var rfl) (ad_cons (ed_call (ds := [encT t]) (by walk_at "ed") ⟨t, rfl, ht, rfl⟩) (by walk_at "ed"))) ⟨t, plansP t, tg, rfl, ht, plansP_alw t, hg, rfl⟩)) hsp
theorem pr_best_plan (T : Txt K mg A) : Cal0 P w K mg base 7 "best_plan" (spP K A.c A.ce R_best_plan) := cal_best_plan T (pr_best_of T) (pr_all_plans T) (spP_len (by rintro ds r ⟨t, tg, rfl, _⟩; rfl)) pu_best_plan

/-! ### counted -/
def valD (t : List (List Row)) (p : List Nat) : Vl := (valO t p).getD (0, 0)
theorem valD_eq {t : List (List Row)} {p : List Nat} (h : ∃ v, valO t p = some v) : valO t p = some (valD t p) := by
  obtain ⟨v, hv⟩ := h
  unfold valD
  rw [hv]
  rfl
def R_counted (ds : List D) (r : Except Int D) : Prop := ∃ (t : List (List Row)) (tg : Rat), ds = [encT t, rq tg] ∧ TabOk t ∧ Sz 20 tg ∧ r = .ok (encNs [(plansP t).length, ((plansP t).filter fun p => feas (valD t p) tg).length])
theorem pu_counted (vs : List V) (H : Hp) (Q : VK) (E : XK) (hsp : spP K A.c A.ce R_counted vs H Q E) :
    t_counted K A (spP K A.c A.ce R_value_of) (spP K A.c A.ce R_all_plans) (spP K A.c A.ce R_is_feasible) { nx := fun _ H' => Q .non H', rt := Q } (L2.start ["table", "target", "values", "plan", "value"] vs) H :=
  pure_of (k := 3) (by
    rintro ds r ⟨t, tg, rfl, ht, hg, rfl⟩
    refine ⟨rfl, _, fit_outOf _, ?_⟩
    have ha := plansP_alw t
    have hl := plans_len ht
    refine sd_seq (sd_set (ed_lcA (ts := [3]) encNs (plansP t) (fun p => encV (valD t p)) (wd_list (ed_call (d := encPs (plansP t)) (ds := [encT t]) (by walk_at "ed") ⟨t, rfl, ht, rfl⟩)) (by simp) ?_ (by omega))) ?_
    · intro p hp
      obtain ⟨h1, h2⟩ := ha p hp
      exact ⟨_, gd_name, rfl, ed_call (ds := [encT t, encNs p]) (by walk_at "ed") ⟨t, p, rfl, ht, h1, by rw [valD_eq h2]; rfl⟩⟩
    · refine sd_ret (ed_lst (ds := [.int ((plansP t).length : Nat), .int (((plansP t).filter fun p => feas (valD t p) tg).length : Nat)]) (ad_cons (ed_lenM (enc := fun p => encV (valD t p)) (xs := plansP t) (ed_var rfl)) (ad_cons ?_ ad_nil)) (Nat.le_of_ble_eq_true rfl))
      refine ed_lenM (enc := fun p => encV (valD t p)) (xs := (plansP t).filter fun p => feas (valD t p) tg) (ed_lcM (ts := [4]) (fun p => encV (valD t p)) (plansP t) (fun p => feas (valD t p) tg) (fun p => encV (valD t p)) (wd_list (ed_var rfl)) (by simp) ?_ (by omega))
      intro p hp
      obtain ⟨h1, h2⟩ := ha p hp
      exact ⟨_, gd_name, rfl, td_B (ed_call (ds := [encV (valD t p), rq tg]) (by walk_at "ed") ⟨valD t p, tg, rfl, valO_sz ht (valD_eq h2), hg, rfl⟩), fun _ => ed_var rfl⟩) hsp
theorem pr_counted (T : Txt K mg A) : Cal0 P w K mg base 6 "counted" (spP K A.c A.ce R_counted) := cal_counted T (pr_value_of T) (pr_all_plans T) (pr_is_feasible T) (spP_len (by rintro ds r ⟨t, tg, rfl, _⟩; rfl)) pu_counted
end
end Pd

/-! ## Pu5 -/
set_option Elab.async false
set_option linter.all false
set_option maxRecDepth 100000
set_option maxHeartbeats 2000000
set_option autoImplicit false
/-! The defs of changes and of the reserve: what they hand back. -/
namespace Pd
open PySem PySem.Spec PyProof.Rows L2 Mt
local macro_rules | `(tactic| walk_at "ed") => `(tactic| repeat' (first
  | exact ed_var rfl | exact ed_int | exact ed_bl | exact ed_non
  | exact rd_num | exact rd_den | exact rd_addA | exact rd_I0 | exact rd_B0 | exact rd_eqI | exact rd_neI | exact rd_isN | exact rd_notN
  | exact rd_ix_t rfl
  | exact ed_one (by assumption) | exact ed_nought (by assumption)
  | apply rd_I
  | apply ed_op
  | exact ad_nil | apply ad_cons
  | apply td_test | apply td_B | apply td_not
  | apply ed_servers (by assumption) | apply ed_rate (by assumption) | apply ed_cost (by assumption)
  | apply ed_arrival (by assumption) | apply ed_weight (by assumption) | apply ed_options (by assumption)
  | apply ed_stations (by assumption) | apply ed_target (by assumption) | apply ed_limit (by assumption)
  | assumption))
section
variable {K : PySem.W.Frag} {mg : Str → Option Value} {A : Ad} {P : Program} {w : World} {base : Heap} {δ : List Sd} {te : TE} {α : Type}
/-! ### cuts -/
theorem cutD_to (ds : List D) (k : Nat) : cutD ds none (some (k : Int)) = ds.take k := by
  unfold cutD
  rw [HT.sIx_none, show HT.sIx ds.length ds.length (some (k : Int)) = min k ds.length from HT.sIx_nat ds.length ds.length k, List.drop_zero, Nat.sub_zero]
  by_cases h : k ≤ ds.length
  · rw [Nat.min_eq_left h]
  · rw [Nat.min_eq_right (by omega), List.take_length, List.take_of_length_le (by omega)]
theorem cutD_from (ds : List D) (k : Nat) : cutD ds (some (k : Int)) none = ds.drop k := by
  unfold cutD
  rw [HT.sIx_none, show HT.sIx ds.length 0 (some (k : Int)) = min k ds.length from HT.sIx_nat ds.length 0 k]
  by_cases h : k ≤ ds.length
  · rw [Nat.min_eq_left h, List.take_of_length_le (by rw [List.length_drop]; omega)]
  · rw [Nat.min_eq_right (by omega), List.drop_length, List.drop_eq_nil_of_le (by omega), List.take_nil]

/-! ### changed plans -/
def okC (plan : List Nat) (at_ : Nat) (y : Row × Nat) : Bool := !isNon (encR y.1) && !decide (y.2 = plan.getD at_ 0)
def mkC (plan : List Nat) (at_ : Nat) (y : Row × Nat) : List Nat := plan.take at_ ++ [y.2] ++ plan.drop (at_ + 1)
def chgAt (plan : List Nat) (x : List Row × Nat) : List (List Nat) := (x.1.zipIdx.filter (okC plan x.2)).map (mkC plan x.2)
def chgP (t : List (List Row)) (plan : List Nat) : List (List Nat) := t.zipIdx.flatMap (chgAt plan)
def R_changed_plans (ds : List D) (r : Except Int D) : Prop := ∃ (t : List (List Row)) (plan : List Nat), ds = [encT t, encNs plan] ∧ TabOk t ∧ plan.length = t.length ∧ r = .ok (encPs (chgP t plan))
theorem chgAt_len (plan : List Nat) (x : List Row × Nat) : (chgAt plan x).length ≤ x.1.length := by
  unfold chgAt
  rw [List.length_map]
  have := List.length_filter_le (okC plan x.2) x.1.zipIdx
  rwa [List.length_zipIdx] at this
theorem pu_changed_plans (vs : List V) (H : Hp) (Q : VK) (E : XK) (hsp : spP K A.c A.ce R_changed_plans vs H Q E) :
    t_changed_plans K A { nx := fun _ H' => Q .non H', rt := Q } (L2.start ["table", "plan", "found", "at", "rows", "number", "row"] vs) H :=
  pure_of (k := 5) (by
    rintro ds r ⟨t, plan, rfl, ht, hl, rfl⟩
    refine ⟨rfl, _, fit_outOf _, ?_⟩
    refine sd_seq (sd_setO (el_lst ad_nil (by simp))) ?_
    refine sd_seq (sd_forP (ts := [3, 4]) (fun x : List Row × Nat => .tup [.int (x.2 : Nat), encRs x.1]) t.zipIdx (fun pre => [.dat (encT t), .dat (encNs plan), .own ((pre.flatMap (chgAt plan)).map encNs), .any, .any, .any, .any]) (wd_enumM (enc := encRs) (ed_var (d := .lst (t.map encRs)) rfl)) (Sle.refl _) ?_) ?_
    · rintro pre ⟨rows, at_⟩ ⟨post, e⟩
      have hmem : (rows, at_) ∈ t.zipIdx := by rw [e]; simp
      rw [List.mem_zipIdx_iff_getElem?] at hmem
      obtain ⟨hat, hrows⟩ := List.getElem?_eq_some_iff.mp hmem
      have hrm : rows ∈ t := List.mem_of_getElem? hmem
      have h6 := ht.n6 rows hrm
      have h4 := ht.n1
      have hpre : pre.length ≤ 4 := by
        have h1 := congrArg List.length e
        rw [List.length_append, List.length_zipIdx] at h1
        omega
      have lpre := flat_len (f := chgAt plan) (n := 6) pre fun x hx => by
        have h1 := chgAt_len plan x
        have h2 : x ∈ t.zipIdx := by rw [e]; simp [hx]
        obtain ⟨r, i⟩ := x
        rw [List.mem_zipIdx_iff_getElem?] at h2
        have h3 := ht.n6 r (List.mem_of_getElem? h2)
        exact Nat.le_trans h1 h3
      have hatp : plan[at_]? = some (plan.getD at_ 0) := by
        rw [List.getD_eq_getElem?_getD, List.getElem?_eq_getElem (by rw [hl]; exact hat)]
        rfl
      refine ⟨_, gd_pair, ?_⟩
      have hin := sd_forP (K := K) (C := A.c) (CE := A.ce) (E := E) (ts := [5, 6]) (wi := iEnum K (tCons (tVar 4) tNil)) (g := gTup K 2 (gCons (gName 5) (gCons (gName 6) gNil)))
        (δ := [.dat (encT t), .dat (encNs plan), .own ((pre.flatMap (chgAt plan)).map encNs), .dat (encN at_), .dat (encRs rows), .any, .any])
        (tb := tIfS (tAnd (tTest (tOp rNotN1 (tVar 6) (tC .non))) (tTest (tOp (rNeA K) (tVar 5) (tOp (rIx K) (tVar 1) (tVar 3))))) (tDrop (tBM K "list" rAppend (tVar 2) (tCons (tOp rAddA (tOp rAddA (tSl (rSlL K) (tVar 1) tNoPart (tPart (tVar 3))) (tLst (tCons (tVar 5) tNil))) (tSl (rSlL K) (tVar 1) (tPart (tOp rAddA (tVar 3) (tC (.int 1)))) tNoPart)) tNil))) tNext)
        (fun y : Row × Nat => .tup [.int (y.2 : Nat), encR y.1]) rows.zipIdx (fun pre2 => [.dat (encT t), .dat (encNs plan), .own ((pre.flatMap (chgAt plan) ++ (pre2.filter (okC plan at_)).map (mkC plan at_)).map encNs), .dat (encN at_), .dat (encRs rows), .any, .any]) (wd_enumM (enc := encR) (ed_var rfl)) (by
          simp only [List.filter_nil, List.map_nil, List.append_nil]
          exact Sle.refl _) (fun pre2 ⟨row, number⟩ ⟨post2, e2⟩ => by
          have hp2 : pre2.length ≤ 6 := by
            have h1 := congrArg List.length e2
            rw [List.length_append, List.length_zipIdx] at h1
            omega
          have lf := List.length_filter_le (okC plan at_) pre2
          refine ⟨_, gd_pair, ?_⟩
          refine sd_if (b := okC plan at_ (row, number)) ?_ (fun q => ?_) fun q => ?_
          · unfold okC
            rw [← eq_cast]
            refine td_and (by walk_at "ed") fun _ => td_test (ed_op (ed_var rfl) (ed_op (ed_var (d := encNs plan) rfl) (ed_var rfl) (rd_ix_l (d := encN (plan.getD at_ 0)) (atI_nat' (by rw [List.getElem?_map, hatp]; rfl)))) rd_neI)
          · refine (sd_append rfl (d := encNs (mkC plan at_ (row, number))) ?_ ?_).weak ?_
            · have h1 : EL K A.c (tSl (rSlL K) (tVar 1) tNoPart (tPart (tVar 3))) [.dat (encT t), .dat (encNs plan), .own ((pre.flatMap (chgAt plan) ++ (pre2.filter (okC plan at_)).map (mkC plan at_)).map encNs), .dat (encN at_), .dat (encRs rows), .dat (encN number), .dat (encR row)] ((plan.take at_).map encN) :=
                (el_sl (ds := plan.map encN) (ed_var rfl) od_none (od_some (ed_var rfl))).is (by rw [cutD_to, List.map_take])
              have h2 : EL K A.c (tSl (rSlL K) (tVar 1) (tPart (tOp rAddA (tVar 3) (tC (.int 1)))) tNoPart) [.dat (encT t), .dat (encNs plan), .own ((pre.flatMap (chgAt plan) ++ (pre2.filter (okC plan at_)).map (mkC plan at_)).map encNs), .dat (encN at_), .dat (encRs rows), .dat (encN number), .dat (encR row)] ((plan.drop (at_ + 1)).map encN) :=
                (el_sl (ds := plan.map encN) (ed_var rfl) (od_some (i := ((at_ + 1 : Nat) : Int)) (ed_op (ed_var (d := encN at_) rfl) ed_int rd_addA)) od_none).is (by rw [cutD_from, List.map_drop])
              refine (ed_op (ed_op h1.ed (ed_lst (ds := [encN number]) (by walk_at "ed") (by simp)) (rd_catA ?_)) h2.ed (rd_catA ?_)).is ?_
              · simp
                omega
              · simp
                omega
              · unfold mkC encNs
                rw [List.map_append, List.map_append]
                rfl
            · rw [List.length_map, List.length_append, List.length_map]
              omega
            · have ef : ((pre2 ++ [(row, number)]).filter (okC plan at_)).map (mkC plan at_) = (pre2.filter (okC plan at_)).map (mkC plan at_) ++ [mkC plan at_ (row, number)] := by
                rw [List.filter_append, List.map_append, List.filter_cons, if_pos q]
                rfl
              rw [ef, ← List.append_assoc, List.map_append (l₂ := [mkC plan at_ (row, number)])]
              exact .same (.same (.same (.same (.same (.any (.any .nil))))))
          · have ef : ((pre2 ++ [(row, number)]).filter (okC plan at_)).map (mkC plan at_) = (pre2.filter (okC plan at_)).map (mkC plan at_) := by
              rw [List.filter_append, List.filter_cons, if_neg (by rw [q]; decide), List.filter_nil, List.append_nil]
            rw [ef]
            exact sd_next.weak (.same (.same (.same (.same (.same (.any (.any .nil))))))))
      refine hin.weak ?_
      rw [List.flatMap_append, List.flatMap_cons, List.flatMap_nil, List.append_nil]
      exact .same (.same (.same (.any (.any (.any (.any .nil))))))
    · exact sd_freeze 2 rfl (sd_ret (ed_var rfl))) hsp
theorem pr_changed_plans (T : Txt K mg A) : Cal0 P w K mg base 1 "changed_plans" (spP K A.c A.ce R_changed_plans) := cal_changed_plans T (spP_len (by rintro ds r ⟨t, plan, rfl, _⟩; rfl)) pu_changed_plans
/-- a changed plan is full again -/
theorem mkC_set {plan : List Nat} {at_ : Nat} (h : at_ < plan.length) (y : Row × Nat) : mkC plan at_ y = plan.set at_ y.2 := by
  unfold mkC
  rw [List.set_eq_take_append_cons_drop, if_pos h]
  simp
theorem full_set {t : List (List Row)} {plan : List Nat} {rows : List Row} {at_ n : Nat} {v : Vl} (h : Full t plan) (hr : t[at_]? = some rows) (hn : rows[n]? = some (some v)) : Full t (plan.set at_ n) := by
  refine ⟨by rw [List.length_set]; exact h.1, fun q hq => ?_⟩
  obtain ⟨i, hi, rfl⟩ := List.mem_iff_getElem.mp hq
  rw [List.length_zip, List.length_set] at hi
  rw [List.getElem_zip]
  by_cases e : at_ = i
  · subst e
    obtain ⟨hl, er⟩ := List.getElem?_eq_some_iff.mp hr
    refine ⟨v, ?_⟩
    dsimp only
    rw [List.getElem_set_self, er, hn]
  · have h2 := h.2 (t[i], plan[i]'(by omega)) (by
      rw [List.mem_iff_getElem]
      exact ⟨i, by rw [List.length_zip]; exact hi, by rw [List.getElem_zip]⟩)
    dsimp only at h2 ⊢
    rw [List.getElem_set_ne e]
    exact h2
theorem chgP_full {t : List (List Row)} {plan : List Nat} (h : Full t plan) : ∀ p ∈ chgP t plan, Full t p := fun p hp => by
  obtain ⟨⟨rows, at_⟩, hx, hp⟩ := List.mem_flatMap.mp hp
  rw [List.mem_zipIdx_iff_getElem?] at hx
  obtain ⟨⟨row, n⟩, hy, rfl⟩ := List.mem_map.mp hp
  rw [List.mem_filter] at hy
  obtain ⟨hy, hc⟩ := hy
  rw [List.mem_zipIdx_iff_getElem?] at hy
  cases row with
  | none => cases hc
  | some v =>
    rw [mkC_set (by rw [h.1]; exact (List.getElem?_eq_some_iff.mp hx).1)]
    exact full_set h hx hy

/-! ### improved -/
def impP (t : List (List Row)) (plan : List Nat) (tg : Rat) : Option Vp := match bestOf t (chgP t plan) tg with
  | none => none
  | some x => if feas (valD t plan) tg = true ∧ betV x.1 (valD t plan) = false then none else some x
def R_improved (ds : List D) (r : Except Int D) : Prop := ∃ (t : List (List Row)) (plan : List Nat) (tg : Rat), ds = [encT t, encNs plan, rq tg] ∧ TabOk t ∧ Full t plan ∧ Sz 20 tg ∧ r = .ok (encOp (impP t plan tg))
theorem pu_improved (vs : List V) (H : Hp) (Q : VK) (E : XK) (hsp : spP K A.c A.ce R_improved vs H Q E) :
    t_improved K A (spP K A.c A.ce R_value_of) (spP K A.c A.ce R_best_of) (spP K A.c A.ce R_changed_plans) (spP K A.c A.ce R_is_feasible) (spP K A.c A.ce R_is_better) { nx := fun _ H' => Q .non H', rt := Q } (L2.start ["table", "plan", "target", "value", "found"] vs) H :=
  pure_of (k := 2) (by
    rintro ds r ⟨t, plan, tg, rfl, ht, hf, hg, rfl⟩
    refine ⟨rfl, _, fit_outOf _, ?_⟩
    obtain ⟨hp, hv0⟩ := full_val hf
    have hv := valD_eq hv0
    have zv := valO_sz ht hv
    have ha : Alw t (chgP t plan) := fun p hp => full_val (chgP_full hf p hp)
    have hb := best_sz (tg := tg) ht (chgP t plan) none (fun x z => by cases z)
    refine sd_seq (sd_par (x := encV (valD t plan)) (y := encOp (bestOf t (chgP t plan) tg)) (ad_cons (ed_call (ds := [encT t, encNs plan]) (by walk_at "ed") ⟨t, plan, rfl, ht, hp, by rw [hv]; rfl⟩) (ad_cons (ed_call (ds := [encT t, encPs (chgP t plan), rq tg]) (ad_cons (ed_var rfl) (ad_cons (ed_call (ds := [encT t, encNs plan]) (by walk_at "ed") ⟨t, plan, rfl, ht, hf.1, rfl⟩) (by walk_at "ed"))) ⟨t, _, tg, rfl, ht, ha, hg, rfl⟩) ad_nil))) ?_
    unfold impP
    unfold bestOf at hb ⊢
    generalize (chgP t plan).foldl (bestS t tg) none = b at *
    cases b with
    | none => exact sd_seq_rt (sd_if (b := true) ((td_or (a := true) (b := false) (td_test (ed_op (ed_var (d := .non) rfl) ed_non rd_isN)) (fun q => Bool.noConfusion q)).is rfl) (fun _ => sd_ret ed_non) fun q => Bool.noConfusion q)
    | some x =>
      have tst : TD K A.c (tOr (tTest (tOp rIsN1 (tVar 4) (tC .non))) (tAnd (tB (tCall (spP K A.c A.ce R_is_feasible) [] E0 (tCons (tVar 3) (tCons (tVar 2) tNil)))) (tNot (tB (tCall (spP K A.c A.ce R_is_better) [] E0 (tCons (tOp (rIx K) (tVar 4) (tC (.int 0))) (tCons (tVar 3) tNil)))))))
          [.dat (encT t), .dat (encNs plan), .dat (rq tg), .dat (encV (valD t plan)), .dat (encVp x)] (false || (feas (valD t plan) tg && !betV x.1 (valD t plan))) :=
        td_or (td_test (ed_op (ed_var (d := encVp x) rfl) ed_non rd_isN)) fun _ => td_and (td_B (ed_call (ds := [encV (valD t plan), rq tg]) (by walk_at "ed") ⟨_, tg, rfl, zv, hg, rfl⟩)) fun _ => td_not (td_B (ed_call (ds := [encV x.1, encV (valD t plan)]) (ad_cons (ed_op (ed_var (d := encVp x) rfl) ed_int (rd_ix_t rfl)) (by walk_at "ed")) ⟨_, _, rfl, hb x rfl, zv, rfl⟩))
      rw [Bool.false_or] at tst
      show SD _ _ _ _ _ _ (outOf (.ok (encOp (if feas (valD t plan) tg = true ∧ betV x.1 (valD t plan) = false then none else some x))))
      cases e : (feas (valD t plan) tg && !betV x.1 (valD t plan)) with
      | true =>
        rw [e] at tst
        rw [Bool.and_eq_true, Bool.not_eq_true'] at e
        rw [if_pos e]
        exact sd_seq_rt (sd_if tst (fun _ => sd_ret ed_non) fun q => Bool.noConfusion q)
      | false =>
        rw [e] at tst
        rw [if_neg fun z => by rw [z.1, z.2] at e; cases e]
        exact sd_seq (sd_if tst (fun q => Bool.noConfusion q) fun _ => sd_next) (sd_ret (ed_var rfl))) hsp
theorem pr_improved (T : Txt K mg A) : Cal0 P w K mg base 7 "improved" (spP K A.c A.ce R_improved) := cal_improved T (pr_value_of T) (pr_best_of T) (pr_changed_plans T) (pr_is_feasible T) (pr_is_better T) (spP_len (by rintro ds r ⟨t, plan, tg, rfl, _⟩; rfl)) pu_improved

/-! ### what holds at a percentage -/
abbrev Sc := Lrx8.Station × Lrx8.Choice
def chs (m : Lrx8.Model) (plan : List Nat) : List Sc := (m.stations.zip plan).map fun q => (q.1, Lrx8.getChoice q.1 q.2)
def holdsP (m : Lrx8.Model) (plan : List Nat) (p : Nat) : Bool := (chs m plan).all (fun x => okP m x.1 x.2 p) && !decide (tgt m < sumR ((chs m plan).map fun x => wgtP x.1 x.2 p))
theorem isPlanP_in {m : Lrx8.Model} {plan : List Nat} (h : isPlanP m plan = true) : plan.length = m.stations.length ∧ ∀ q ∈ m.stations.zip plan, q.2 < q.1.choices.length := by
  unfold isPlanP at h
  rw [Bool.and_eq_true, decide_eq_true_iff, List.all_eq_true] at h
  refine ⟨h.1, fun q hq => ?_⟩
  have := h.2 q hq
  rw [Bool.not_eq_true', decide_eq_false_iff_not] at this
  omega
theorem choice_at {s : Lrx8.Station} {n : Nat} (h : n < s.choices.length) : s.choices[n]? = some (Lrx8.getChoice s n) := by
  unfold Lrx8.getChoice
  rw [List.getD_eq_getElem?_getD, List.getElem?_eq_getElem h]
  rfl
theorem chs_ok {m : Lrx8.Model} {plan : List Nat} (hm : MOk m) (h : isPlanP m plan = true) : ∀ x ∈ chs m plan, SOk x.1 ∧ COk x.2 := fun x hx => by
  obtain ⟨q, hq, rfl⟩ := List.mem_map.mp hx
  have hs := hm.ss q.1 (List.of_mem_zip hq).1
  exact ⟨hs, hs.cs _ (List.mem_of_getElem? (choice_at ((isPlanP_in h).2 q hq)))⟩
theorem chs_len {m : Lrx8.Model} {plan : List Nat} (hm : MOk m) : (chs m plan).length ≤ 4 := by
  unfold chs
  rw [List.length_map, List.length_zip]
  have := hm.n1
  omega
/-- the option of a plan's number -/
theorem ed_choice {T : Cst K mg A} {ti tj : TE} {s : Lrx8.Station} {n : Nat} (h1 : ED K A.c ti δ (encS s)) (h2 : ED K A.c tj δ (encN n)) (h : n < s.choices.length) : ED K A.c (tOp (rIx K) (tFld K ti "options") tj) δ (encC (Lrx8.getChoice s n)) :=
  ed_op (ed_options T h1) h2 (rd_ix_l (atI_nat' (by rw [List.getElem?_map, choice_at h]; rfl)))
def R_holds_at (ds : List D) (r : Except Int D) : Prop := ∃ (m : Lrx8.Model) (plan : List Nat) (p : Nat), ds = [encM m, encNs plan, .int (p : Nat)] ∧ MOk m ∧ isPlanP m plan = true ∧ 1 ≤ p ∧ p ≤ 300 ∧ r = .ok (.bl (holdsP m plan p))
theorem pu_holds_at (T : Cst K mg A) (vs : List V) (H : Hp) (Q : VK) (E : XK) (hsp : spP K A.c A.ce R_holds_at vs H Q E) :
    t_holds_at K A (spP K A.c A.ce R_is_less) (spP K A.c A.ce R_is_option_allowed) (spP K A.c A.ce R_weighted_number) (spP K A.c A.ce R_sum_of) { nx := fun _ H' => Q .non H', rt := Q }
      (L2.start ["model", "plan", "percent", "numbers", "station", "number", "option"] vs) H :=
  pure_of (k := 4) (by
    rintro ds r ⟨m, plan, p, rfl, hm, hpl, h0, h3, rfl⟩
    refine ⟨rfl, _, fit_outOf _, ?_⟩
    obtain ⟨hlen, hin⟩ := isPlanP_in hpl
    have hok := chs_ok hm hpl
    have hcl := chs_len (plan := plan) hm
    refine sd_seq (sd_setO (el_lst ad_nil (by simp))) ?_
    have hf := sd_forAll (K := K) (C := A.c) (CE := A.ce) (E := E) (δ := [.dat (encM m), .dat (encNs plan), .dat (encN p), .own [], .any, .any, .any]) (wi := iZip K (tCons (tFld K (tVar 0) "stations") (tCons (tVar 1) tNil))) (g := gTup K 2 (gCons (gName 4) (gCons (gName 5) gNil))) (ts := [4, 5])
      (tb := tSeq (tAsg (tOp (rIx K) (tFld K (tVar 4) "options") (tVar 5)) (gName 6)) (tSeq (tIfS (tNot (tB (tCall (spP K A.c A.ce R_is_option_allowed) [] E0 (tCons (tVar 0) (tCons (tVar 4) (tCons (tVar 6) (tCons (tVar 2) tNil))))))) (tRet (tC (.bl false))) tNext) (tDrop (tBM K "list" rAppend (tVar 3) (tCons (tCall (spP K A.c A.ce R_weighted_number) [] E0 (tCons (tVar 4) (tCons (tVar 6) (tCons (tVar 2) tNil)))) tNil)))))
      (fun q : Lrx8.Station × Nat => .tup [encS q.1, encN q.2]) (m.stations.zip plan) (fun q => okP m q.1 (Lrx8.getChoice q.1 q.2) p) (.bl false) (fun pre => [.dat (encM m), .dat (encNs plan), .dat (encN p), .own (pre.map fun q => rq (wgtP q.1 (Lrx8.getChoice q.1 q.2) p)), .any, .any, .any])
      (wd_zipM (ed_stations T (ed_var (d := encM m) rfl)) (ed_var (d := .lst (plan.map encN)) rfl)) (Sle.refl _) (fun pre q ⟨post, e⟩ => by
        have hq : q ∈ m.stations.zip plan := by rw [e]; simp
        have hs := hm.ss q.1 (List.of_mem_zip hq).1
        have hc : COk (Lrx8.getChoice q.1 q.2) := hs.cs _ (List.mem_of_getElem? (choice_at (hin q hq)))
        have hpre : pre.length ≤ 4 := by
          have h1 := congrArg List.length e
          rw [List.length_append, List.length_zip] at h1
          have h2 := hm.n1
          omega
        have tst : TD K A.c (tNot (tB (tCall (spP K A.c A.ce R_is_option_allowed) [] E0 (tCons (tVar 0) (tCons (tVar 4) (tCons (tVar 6) (tCons (tVar 2) tNil))))))) [.dat (encM m), .dat (encNs plan), .dat (encN p), .own (pre.map fun q => rq (wgtP q.1 (Lrx8.getChoice q.1 q.2) p)), .dat (encS q.1), .dat (encN q.2), .dat (encC (Lrx8.getChoice q.1 q.2))] (!okP m q.1 (Lrx8.getChoice q.1 q.2) p) :=
          td_not (td_B (ed_call (ds := [encM m, encS q.1, encC (Lrx8.getChoice q.1 q.2), .int (p : Nat)]) (by walk_at "ed") ⟨m, q.1, _, p, rfl, hm, hs, hc, h3, rfl⟩))
        refine ⟨_, gd_pair, fun h => ?_, fun h => ?_⟩
        · refine sd_seq (sd_set (ed_choice (T := T) (ed_var rfl) (ed_var rfl) (hin q hq))) ?_
          refine sd_seq (sd_if tst (fun z => by rw [h] at z; cases z) fun _ => sd_next) ?_
          refine (sd_append rfl (ed_call (d := rq (wgtP q.1 (Lrx8.getChoice q.1 q.2) p)) (ds := [encS q.1, encC (Lrx8.getChoice q.1 q.2), .int (p : Nat)]) (by walk_at "ed") ⟨q.1, _, p, rfl, hs, hc, h0, h3, okP_lt h, rfl⟩) (by rw [List.length_map]; omega)).weak ?_
          rw [List.map_append]
          exact .same (.same (.same (.same (.any (.any (.any .nil))))))
        · refine sd_seq (sd_set (ed_choice (T := T) (ed_var rfl) (ed_var rfl) (hin q hq))) ?_
          exact sd_seq_rt (sd_if tst (fun _ => sd_ret ed_bl) fun z => by rw [h] at z; cases z))
    have eall : (chs m plan).all (fun x => okP m x.1 x.2 p) = (m.stations.zip plan).all fun q => okP m q.1 (Lrx8.getChoice q.1 q.2) p := by
      unfold chs
      rw [List.all_map]
      rfl
    unfold holdsP
    cases e : (m.stations.zip plan).all fun q => okP m q.1 (Lrx8.getChoice q.1 q.2) p with
    | true =>
      rw [eall, e, Bool.true_and]
      rw [if_pos e] at hf
      refine sd_seq hf ?_
      refine sd_freeze 3 rfl ?_
      have ew : (m.stations.zip plan).map (fun q => rq (wgtP q.1 (Lrx8.getChoice q.1 q.2) p)) = ((chs m plan).map fun x => wgtP x.1 x.2 p).map rq := by
        unfold chs
        rw [List.map_map, List.map_map]
        rfl
      rw [ew]
      have hz : ∀ z ∈ (chs m plan).map (fun x => wgtP x.1 x.2 p), Sz 725 z := fun z hz => by
        obtain ⟨x, hx, rfl⟩ := List.mem_map.mp hz
        obtain ⟨a, b⟩ := hok x hx
        exact sz_wgt a b h0 h3 (okP_lt (List.all_eq_true.mp (eall.trans e) x hx))
      have zs := sz_sum4 (k := 725) (by decide) (by rw [List.length_map]; exact hcl) hz
      have em := encM_eq hm
      exact sd_ret (ed_notV (ed_less (p := tgt m) (ed_target (x := .lst (m.stations.map encS)) (z := rq (lim m)) T (ed_var (by rw [← em]; rfl))) (ed_call (ds := [.lst (((chs m plan).map fun x => wgtP x.1 x.2 p).map rq)]) (by walk_at "ed") ⟨_, 725, rfl, by decide, hz, len4 (by rw [List.length_map]; exact hcl) (by decide), rfl⟩) hm.target.2 zs (by decide)))
    | false =>
      rw [eall, e]
      rw [if_neg (by rw [e]; decide)] at hf
      exact sd_seq_rt hf) hsp
theorem pr_holds_at (T : Txt K mg A) : Cal0 P w K mg base 7 "holds_at" (spP K A.c A.ce R_holds_at) := cal_holds_at T (pr_is_less T) (pr_is_option_allowed T) (pr_weighted_number T) (pr_sum_of T) (spP_len (by rintro ds r ⟨m, plan, p, rfl, _⟩; rfl)) (pu_holds_at T.toCst)
theorem foldl_mono : ∀ (l : List Sc) (f g : Sc → Rat) (a b : Rat), a ≤ b → (∀ x ∈ l, f x ≤ g x) → (l.map f).foldl (· + ·) a ≤ (l.map g).foldl (· + ·) b
  | [], _, _, _, _, h, _ => h
  | x :: l, f, g, a, b, h, hx => foldl_mono l f g (a + f x) (b + g x) (by have := hx x (by simp); grind) fun y hy => hx y (by simp [hy])
/-- what holds at a percentage holds at a smaller one -/
theorem holds_mono {m : Lrx8.Model} {plan : List Nat} {p q : Nat} (hm : MOk m) (hpl : isPlanP m plan = true) (h0 : 1 ≤ p) (h : p ≤ q) (hq : holdsP m plan q = true) : holdsP m plan p = true := by
  unfold holdsP at hq ⊢
  rw [Bool.and_eq_true, List.all_eq_true, Bool.not_eq_true', decide_eq_false_iff_not] at hq ⊢
  have hok := chs_ok hm hpl
  refine ⟨fun x hx => okP_mono (hok x hx).2 h (hq.1 x hx), ?_⟩
  have h2 : sumR ((chs m plan).map fun x => wgtP x.1 x.2 p) ≤ sumR ((chs m plan).map fun x => wgtP x.1 x.2 q) :=
    foldl_mono _ _ _ 0 0 Rat.le_refl fun x hx => wgtP_mono (hok x hx).1 (hok x hx).2 h0 h (okP_lt (hq.1 x hx))
  intro z
  exact hq.2 (by grind)

/-! ### the reserve -/
def resP (m : Lrx8.Model) (plan : List Nat) : Option Nat := (List.range 301).reverse.find? fun p => decide (0 < p) && holdsP m plan p
def encOn : Option Nat → D
  | none => .non
  | some p => .int (p : Nat)
theorem find_greatest {f : Nat → Bool} : ∀ (n k : Nat), k < n → f k = true → (∀ j, k < j → j < n → f j = false) → (List.range n).reverse.find? f = some k
  | 0, k, h, _, _ => absurd h (Nat.not_lt_zero _)
  | n + 1, k, h, hk, hj => by
    rw [List.range_succ, List.reverse_append]
    show (n :: (List.range n).reverse).find? f = some k
    by_cases e : k = n
    · subst e
      rw [List.find?_cons_of_pos hk]
    · rw [List.find?_cons_of_neg (by rw [hj n (by omega) (by omega)]; decide)]
      exact find_greatest n k (by omega) hk fun j h1 h2 => hj j h1 (by omega)
theorem find_no {f : Nat → Bool} (n : Nat) (h : ∀ j, j < n → f j = false) : (List.range n).reverse.find? f = none := by
  rw [List.find?_eq_none]
  intro x hx
  rw [List.mem_reverse, List.mem_range] at hx
  rw [h x hx]
  decide
def R_reserve_of (ds : List D) (r : Except Int D) : Prop := ∃ (m : Lrx8.Model) (plan : List Nat), ds = [encM m, encNs plan] ∧ MOk m ∧ isPlanP m plan = true ∧ r = .ok (encOn (resP m plan))
theorem pu_reserve_of (vs : List V) (H : Hp) (Q : VK) (E : XK) (hsp : spP K A.c A.ce R_reserve_of vs H Q E) :
    t_reserve_of K A (spP K A.c A.ce R_holds_at) { nx := fun _ H' => Q .non H', rt := Q } (L2.start ["model", "plan", "low", "high", "middle"] vs) H :=
  pure_of (k := 3) (by
    rintro ds r ⟨m, plan, rfl, hm, hpl, rfl⟩
    refine ⟨rfl, _, fit_outOf _, ?_⟩
    have t1 : TD K A.c (tNot (tB (tCall (spP K A.c A.ce R_holds_at) [] E0 (tCons (tVar 0) (tCons (tVar 1) (tCons (tC (.int 1)) tNil)))))) [.dat (encM m), .dat (encNs plan), .any, .any, .any] (!holdsP m plan 1) :=
      td_not (td_B (ed_call (ds := [encM m, encNs plan, .int 1]) (by walk_at "ed") ⟨m, plan, 1, rfl, hm, hpl, by decide, by decide, rfl⟩))
    cases e1 : holdsP m plan 1 with
    | false =>
      rw [e1] at t1
      refine sd_seq_rt (sd_if t1 (fun _ => (sd_ret ed_non).is ?_) fun q => Bool.noConfusion q)
      have : resP m plan = none := find_no 301 fun j hj => by
        by_cases z : 0 < j
        · rw [decide_eq_true z, Bool.true_and]
          cases e : holdsP m plan j with
          | false => rfl
          | true =>
            rw [holds_mono hm hpl (Nat.le_refl 1) z e] at e1
            cases e1
        · rw [decide_eq_false z]
          rfl
      rw [this]
      rfl
    | true =>
      rw [e1] at t1
      refine sd_seq (sd_if t1 (fun q => Bool.noConfusion q) fun _ => sd_next) ?_
      refine sd_seq (sd_par (x := encN 1) (y := encN 300) (by walk_at "ed")) ?_
      refine sd_seq (δ1 := [.dat (encM m), .dat (encNs plan), .dat (encOn (resP m plan)), .any, .any]) (sd_while (α := Nat × Nat) (fun s => [.dat (encM m), .dat (encNs plan), .dat (encN s.1), .dat (encN s.2), .any])
        (fun s => 1 ≤ s.1 ∧ s.1 ≤ s.2 ∧ s.2 ≤ 300 ∧ holdsP m plan s.1 = true ∧ ∀ j, s.2 < j → j < 301 → holdsP m plan j = false) (fun s => decide (s.1 < s.2)) (fun s => s.2 - s.1)
        (fun s => if holdsP m plan ((s.1 + s.2 + 1) / 2) = true then ((s.1 + s.2 + 1) / 2, s.2) else (s.1, (s.1 + s.2 + 1) / 2 - 1)) (1, 300) ⟨by decide, by decide, by decide, e1, fun j h1 h2 => absurd h2 (by show ¬ j < 301; omega)⟩ (.same (.same (.same (.same (.any .nil))))) ?_ ?_ ?_) (sd_ret (ed_var rfl))
      · rintro ⟨l, h⟩ _
        dsimp only
        rw [← lt_cast]
        walk_at "ed"
      · rintro ⟨l, h⟩ ⟨i1, i2, i3, i4, i5⟩ hb
        have hlt : l < h := of_decide_eq_true hb
        dsimp only at *
        have em : ((l : Int) + (h : Int) + 1) / 2 = (((l + h + 1) / 2 : Nat) : Int) := by omega
        have hs : SD K A.c A.ce (tAsg (tOp rDivA (tOp rAddA (tOp rAddA (tVar 2) (tVar 3)) (tC (.int 1))) (tC (.int 2))) (gName 4)) E [.dat (encM m), .dat (encNs plan), .dat (encN l), .dat (encN h), .any] (.nx [.dat (encM m), .dat (encNs plan), .dat (encN l), .dat (encN h), .dat (encN ((l + h + 1) / 2))]) := by
          refine sd_set ((?_ : ED K A.c _ _ (.int (((l : Int) + (h : Int) + 1) / 2))).is (by rw [em]))
          walk_at "ed"
          exact ⟨by decide, by decide⟩
        have hmid1 : l < (l + h + 1) / 2 := by omega
        have hmid2 : (l + h + 1) / 2 ≤ h := by omega
        generalize (l + h + 1) / 2 = mid at *
        have t2 : TD K A.c (tB (tCall (spP K A.c A.ce R_holds_at) [] E0 (tCons (tVar 0) (tCons (tVar 1) (tCons (tVar 4) tNil))))) [.dat (encM m), .dat (encNs plan), .dat (encN l), .dat (encN h), .dat (encN mid)] (holdsP m plan mid) :=
          td_B (ed_call (ds := [encM m, encNs plan, .int (mid : Nat)]) (by walk_at "ed") ⟨m, plan, mid, rfl, hm, hpl, by omega, by omega, rfl⟩)
        cases e : holdsP m plan mid with
        | true =>
          rw [e] at t2
          rw [if_pos rfl]
          refine ⟨sd_seq hs ((sd_if t2 (fun _ => sd_set (ed_var rfl)) fun q => Bool.noConfusion q).weak (.same (.same (.same (.same (.any .nil)))))), ⟨by omega, hmid2, i3, e, i5⟩, by dsimp only; omega⟩
        | false =>
          rw [e] at t2
          rw [if_neg (by decide)]
          refine ⟨sd_seq hs ((sd_if t2 (fun q => Bool.noConfusion q) fun _ => sd_set (d := encN (mid - 1)) ((?_ : ED K A.c _ _ (.int ((mid : Int) - 1))).is ?_)).weak (.same (.same (.same (.same (.any .nil)))))), ⟨i1, by show l ≤ mid - 1; omega, by show mid - 1 ≤ 300; omega, i4, fun j h1 h2 => ?_⟩, by dsimp only; omega⟩
          · walk_at "ed"
          · have : ((mid : Int) - 1) = ((mid - 1 : Nat) : Int) := by omega
            rw [this]
          · have h1' : mid - 1 < j := h1
            cases z : holdsP m plan j with
            | false => rfl
            | true =>
              rw [holds_mono hm hpl (show 1 ≤ mid by omega) (show mid ≤ j by omega) z] at e
              cases e
      · rintro ⟨l, h⟩ ⟨i1, i2, i3, i4, i5⟩ hb
        have hlt : ¬ l < h := of_decide_eq_false hb
        dsimp only at *
        have e : l = h := by omega
        subst e
        have : resP m plan = some l := find_greatest 301 l (by omega) (by rw [i4, decide_eq_true (show 0 < l by omega)]; rfl) fun j h1 h2 => by rw [i5 j h1 h2, Bool.and_false]
        rw [this]
        exact .same (.same (.same (.any (.same .nil))))) hsp
theorem pr_reserve_of (T : Txt K mg A) : Cal0 P w K mg base 8 "reserve_of" (spP K A.c A.ce R_reserve_of) := cal_reserve_of T (pr_holds_at T) (spP_len (by rintro ds r ⟨m, plan, rfl, _⟩; rfl)) pu_reserve_of

/-! ### is_allowed_now -/
def nowP (m : Lrx8.Model) (plan : List Nat) : Bool := (m.stations.zip plan).all fun q => okP m q.1 (Lrx8.getChoice q.1 q.2) 100
def R_is_allowed_now (ds : List D) (r : Except Int D) : Prop := ∃ (m : Lrx8.Model) (plan : List Nat), ds = [encM m, encNs plan] ∧ MOk m ∧ isPlanP m plan = true ∧ r = .ok (.bl (nowP m plan))
theorem pu_is_allowed_now (T : Cst K mg A) (vs : List V) (H : Hp) (Q : VK) (E : XK) (hsp : spP K A.c A.ce R_is_allowed_now vs H Q E) :
    t_is_allowed_now K A (spP K A.c A.ce R_is_option_allowed) { nx := fun _ H' => Q .non H', rt := Q } (L2.start ["model", "plan", "station", "number"] vs) H :=
  pure_of (k := 2) (by
    rintro ds r ⟨m, plan, rfl, hm, hpl, rfl⟩
    refine ⟨rfl, _, fit_outOf _, ?_⟩
    obtain ⟨hlen, hin⟩ := isPlanP_in hpl
    have hf := sd_forAll (K := K) (C := A.c) (CE := A.ce) (E := E) (δ := [.dat (encM m), .dat (encNs plan), .any, .any]) (wi := iZip K (tCons (tFld K (tVar 0) "stations") (tCons (tVar 1) tNil))) (g := gTup K 2 (gCons (gName 2) (gCons (gName 3) gNil))) (ts := [2, 3])
      (tb := tIfS (tNot (tB (tCall (spP K A.c A.ce R_is_option_allowed) [] E0 (tCons (tVar 0) (tCons (tVar 2) (tCons (tOp (rIx K) (tFld K (tVar 2) "options") (tVar 3)) (tCons (tC (.int 100)) tNil))))))) (tRet (tC (.bl false))) tNext)
      (fun q : Lrx8.Station × Nat => .tup [encS q.1, encN q.2]) (m.stations.zip plan) (fun q => okP m q.1 (Lrx8.getChoice q.1 q.2) 100) (.bl false) (fun _ => [.dat (encM m), .dat (encNs plan), .any, .any])
      (wd_zipM (ed_stations T (ed_var (d := encM m) rfl)) (ed_var (d := .lst (plan.map encN)) rfl)) (Sle.refl _) (fun pre q ⟨post, e⟩ => by
        have hq : q ∈ m.stations.zip plan := by rw [e]; simp
        have hs := hm.ss q.1 (List.of_mem_zip hq).1
        have hc : COk (Lrx8.getChoice q.1 q.2) := hs.cs _ (List.mem_of_getElem? (choice_at (hin q hq)))
        have tst : TD K A.c (tNot (tB (tCall (spP K A.c A.ce R_is_option_allowed) [] E0 (tCons (tVar 0) (tCons (tVar 2) (tCons (tOp (rIx K) (tFld K (tVar 2) "options") (tVar 3)) (tCons (tC (.int 100)) tNil))))))) [.dat (encM m), .dat (encNs plan), .dat (encS q.1), .dat (encN q.2)] (!okP m q.1 (Lrx8.getChoice q.1 q.2) 100) :=
          td_not (td_B (ed_call (ds := [encM m, encS q.1, encC (Lrx8.getChoice q.1 q.2), .int 100]) (ad_cons (ed_var rfl) (ad_cons (ed_var rfl) (ad_cons (ed_choice (T := T) (ed_var rfl) (ed_var rfl) (hin q hq)) (by walk_at "ed")))) ⟨m, q.1, _, 100, rfl, hm, hs, hc, by decide, rfl⟩))
        refine ⟨_, gd_pair, fun h => ?_, fun h => ?_⟩
        · exact (sd_if tst (fun z => by rw [h] at z; cases z) fun _ => sd_next).weak (.same (.same (.any (.any .nil))))
        · exact sd_if tst (fun _ => sd_ret ed_bl) fun z => by rw [h] at z; cases z)
    unfold nowP
    cases e : (m.stations.zip plan).all fun q => okP m q.1 (Lrx8.getChoice q.1 q.2) 100 with
    | true =>
      rw [if_pos e] at hf
      exact sd_seq hf (sd_ret ed_bl)
    | false =>
      rw [if_neg (by rw [e]; decide)] at hf
      exact sd_seq_rt hf) hsp
theorem pr_is_allowed_now (T : Txt K mg A) : Cal0 P w K mg base 5 "is_allowed_now" (spP K A.c A.ce R_is_allowed_now) := cal_is_allowed_now T (pr_is_option_allowed T) (spP_len (by rintro ds r ⟨m, plan, rfl, _⟩; rfl)) (pu_is_allowed_now T.toCst)
end
end Pd

/-! ## Pu6 -/
set_option Elab.async false
set_option linter.all false
set_option maxRecDepth 100000
set_option maxHeartbeats 2000000
set_option autoImplicit false
/-! The frontier's defs: what they hand back. -/
namespace Pd
open PySem PySem.Spec PyProof.Rows L2 Mt
local macro_rules | `(tactic| walk_at "ed") => `(tactic| repeat' (first
  | exact ed_var rfl | exact ed_int | exact ed_bl | exact ed_non
  | exact rd_num | exact rd_den | exact rd_addA | exact rd_I0 | exact rd_B0 | exact rd_eqI | exact rd_neI | exact rd_isN | exact rd_notN
  | exact rd_ix_t rfl
  | apply rd_I
  | apply ed_op
  | exact ad_nil | apply ad_cons
  | apply td_test | apply td_B | apply td_not
  | assumption))
/-! ### sorted of exact pairs -/
theorem lexB_swo : SrtO.Swo SrtO.lexB := ⟨fun x y h => by
  rw [SrtO.lexB_iff] at h
  rw [SrtO.lexB_no]
  omega, fun x y z h1 h2 => by
  rw [SrtO.lexB_no] at *
  omega⟩
theorem lexB_eqv (x y : Int × Int) : SrtO.eqv SrtO.lexB x y = (y == x) := by
  rw [Bool.eq_iff_iff, SrtO.eqv_iff, SrtO.lexB_no, SrtO.lexB_no, beq_iff_eq]
  constructor
  · intro h
    exact Prod.ext (by omega) (by omega)
  · rintro rfl
    omega
theorem stb_perm {l m : List (Int × Int)} (h : l.Perm m) : SrtO.Stb SrtO.lexB l m := ⟨h, fun x => by
  have e : SrtO.eqv SrtO.lexB x = fun y => y == x := funext fun y => lexB_eqv x y
  rw [e, List.filter_beq, List.filter_beq, h.count_eq]⟩
def keyOf (F : Hp) (v : V) : Int × Int := match v with
  | .ref t => match F t with
    | some (.tup [.int i, .int j]) => (i, j)
    | _ => (0, 0)
  | _ => (0, 0)
section
variable {K : PySem.W.Frag} {mg : Str → Option Value} {A : Ad} {P : Program} {w : World} {base : Heap} {δ : List Sd} {te : TE} {C : Nat → Addr}
theorem keyOf_pr {F : Hp} {v : V} {i j : Int} (h : Is K C F v (.pr i j)) : keyOf F v = (i, j) ∧ ∃ t, v = .ref t ∧ F t = some (.tup [.int i, .int j]) := by
  cases h with
  | pr e =>
    refine ⟨?_, _, rfl, e⟩
    unfold keyOf
    dsimp only
    rw [e]
theorem keys_of {F : Hp} : ∀ {ws : List V} (ps : List (Int × Int)), IsL K C F ws (ps.map fun p => .pr p.1 p.2) → ws.map (keyOf F) = ps
  | _, [], .nil => rfl
  | _, p :: ps, .cons a b => by
    rw [List.map_cons, (keyOf_pr a).1, keys_of ps b]
theorem is_of_keys {F : Hp} : ∀ (ys : List V), (∀ y ∈ ys, Is K C F y (.pr (keyOf F y).1 (keyOf F y).2)) → IsL K C F ys ((ys.map (keyOf F)).map fun p => .pr p.1 p.2)
  | [], _ => .nil
  | y :: ys, h => .cons (h y (by simp)) (is_of_keys ys fun z hz => h z (by simp [hz]))
theorem cd_sorted {ps zs : List (Int × Int)} (hp : zs.Perm ps) (hs : zs.Pairwise fun x y => SrtO.lexB y x = false) : CD K C (rSortedPO K) [.lst (ps.map fun p => .pr p.1 p.2)] (.lst (zs.map fun p => .pr p.1 p.2)) := fun F H vs Q fh hx q => by
  cases hx with
  | cons a b =>
    cases b
    cases a with
    | lst e r =>
      rename_i a ws
      have hk := keys_of ps r
      have hmem : ∀ x ∈ ws, Is K C F x (.pr (keyOf F x).1 (keyOf F x).2) := fun x hx => by
        obtain ⟨i, hi⟩ := List.mem_iff_getElem?.mp hx
        obtain ⟨d, hd, hI⟩ := r.get hi
        obtain ⟨p, _, rfl⟩ := get_map hd
        rw [(keyOf_pr hI).1]
        exact hI
      refine ⟨a, ws, keyOf F, rfl, .of (fh _ _ e), fun x hx => ?_, fun ys p srt stb hfree => ?_⟩
      · obtain ⟨_, t, h1, h2⟩ := keyOf_pr (hmem x hx)
        exact ⟨t, h1, fh _ _ h2⟩
      · have s1 : SrtO.Srtd SrtO.lexB (ys.map (keyOf F)) := SrtO.srtd_map srt
        have s2 : SrtO.Stb SrtO.lexB (ys.map (keyOf F)) zs := stb_perm (((stb.perm.map (keyOf F)).trans (by rw [hk])).trans hp.symm)
        have ez := SrtO.stb_uniq lexB_swo s1 hs s2
        have r2 := is_of_keys (K := K) (C := C) (F := F) ys fun y hy => hmem y (stb.perm.mem_iff.mp hy)
        rw [ez] at r2
        exact q _ _ _ (.lay fh hfree) (.lst upd_same (r2.mono (Ex.new (fh.back hfree))))

/-! ### by_cost -/
def rowsV (t : List (List Row)) : List Vp := (plansP t).map fun p => (valD t p, p)
def bycP (t : List (List Row)) : List Vp := stC (fun x : Vp => x.1.1) (rowsV t)
def encVps (l : List Vp) : D := .lst (l.map encVp)
def zKey (z : Vp × Nat) : Int × Int := ((z.1.1.1 : Nat), (z.2 : Nat))
def R_by_cost (ds : List D) (r : Except Int D) : Prop := ∃ t : List (List Row), ds = [encT t] ∧ TabOk t ∧ r = .ok (encVps (bycP t))
theorem pu_by_cost (vs : List V) (H : Hp) (Q : VK) (E : XK) (hsp : spP K A.c A.ce R_by_cost vs H Q E) :
    t_by_cost K A (spP K A.c A.ce R_value_of) (spP K A.c A.ce R_all_plans) { nx := fun _ H' => Q .non H', rt := Q } (L2.start ["table", "rows", "order", "plan", "cost", "at", "row"] vs) H :=
  pure_of (k := 6) (by
    rintro ds r ⟨t, rfl, ht, rfl⟩
    refine ⟨rfl, _, fit_outOf _, ?_⟩
    have ha := plansP_alw t
    have hl := plans_len ht
    have hlen : (rowsV t).length ≤ 1296 := by
      unfold rowsV
      rw [List.length_map]
      exact hl
    refine sd_seq (sd_set (d := encVps (rowsV t)) ((ed_lcA (ts := [3]) encNs (plansP t) (fun p => encVp (valD t p, p)) (wd_list (ed_call (d := encPs (plansP t)) (ds := [encT t]) (by walk_at "ed") ⟨t, rfl, ht, rfl⟩)) (by simp) ?_ (by omega)).is ?_)) ?_
    · intro p hp
      obtain ⟨h1, h2⟩ := ha p hp
      exact ⟨_, gd_name, rfl, ed_tup (ds := [encV (valD t p), encNs p]) (ad_cons (ed_call (ds := [encT t, encNs p]) (by walk_at "ed") ⟨t, p, rfl, ht, h1, by rw [valD_eq h2]; rfl⟩) (by walk_at "ed")) (Nat.le_of_ble_eq_true rfl)⟩
    · unfold encVps rowsV
      rw [List.map_map]
      rfl
    · generalize hx : rowsV t = xs at *
      have hb : bycP t = stC (fun x : Vp => x.1.1) xs := by unfold bycP; rw [hx]
      rw [hb]
      let zs := stC (fun z : Vp × Nat => z.1.1.1) xs.zipIdx
      have hzp : zs.Perm xs.zipIdx := stC_perm _ _
      have hzs := stC_sorted (fun z : Vp × Nat => z.1.1.1) (fun z => z.2) xs.zipIdx (zipIdx_inc xs)
      have hzl : zs.length ≤ 1296 := by
        rw [hzp.length_eq, List.length_zipIdx]
        exact hlen
      refine sd_seq (sd_set (d := .lst (zs.map fun z => .pr (zKey z).1 (zKey z).2)) ((ed_cb (ds := [.lst ((xs.zipIdx.map zKey).map fun p => .pr p.1 p.2)]) (ad_cons ((ed_lcA (ts := [5, 6]) (fun z : Vp × Nat => .tup [.int (z.2 : Nat), encVp z.1]) xs.zipIdx (fun z => .pr (zKey z).1 (zKey z).2) (wd_enumM (enc := encVp) (ed_var rfl)) (by simp) ?_ (by rw [List.length_zipIdx]; omega)).is (by rw [List.map_map]; rfl)) ad_nil) (cd_sorted (zs := zs.map zKey) (hzp.map zKey) ?_)).is (by rw [List.map_map]; rfl))) ?_
      · intro z hz
        exact ⟨_, gd_pair, rfl, ed_pr (ad_cons (ed_op (ed_op (ed_var (d := encVp z.1) rfl) ed_int (rd_ix_t (d := encV z.1.1) rfl)) ed_int (rd_ix_t rfl)) (by walk_at "ed"))⟩
      · rw [List.pairwise_map]
        refine hzs.imp fun {a b} h => ?_
        rw [SrtO.lexB_no]
        unfold zKey
        have h' : a.1.1.1 < b.1.1.1 ∨ (a.1.1.1 = b.1.1.1 ∧ a.2 < b.2) := h
        dsimp only
        omega
      · refine sd_ret ((ed_lcA (ts := [4, 5]) (fun z : Vp × Nat => .pr (zKey z).1 (zKey z).2) zs (fun z => encVp z.1) (wd_list (ed_var rfl)) (by simp) ?_ (by omega)).is ?_)
        · intro z hz
          have hz' := hzp.mem_iff.mp hz
          obtain ⟨x, i⟩ := z
          rw [List.mem_zipIdx_iff_getElem?] at hz'
          exact ⟨_, gd_pr, rfl, ed_op (ed_var (d := encVps xs) rfl) (ed_var rfl) (rd_ix_l (atI_nat' (by rw [List.getElem?_map, hz']; rfl)))⟩
        · unfold encVps
          rw [← stC_zip, List.map_map]
          rfl) hsp
theorem pr_by_cost (T : Txt K mg A) : Cal0 P w K mg base 6 "by_cost" (spP K A.c A.ce R_by_cost) := cal_by_cost T (pr_value_of T) (pr_all_plans T) (spP_len (by rintro ds r ⟨t, rfl, _⟩; rfl)) pu_by_cost

/-! ### the frontier -/
def frS (found : List Vp) (x : Vp) : List Vp := match found.getLast? with
  | none => [x]
  | some l => if x.1.2 < l.1.2 then (if l.1.1 = x.1.1 then found.dropLast else found) ++ [x] else found
def frP (t : List (List Row)) : List Vp := (bycP t).foldl frS []
theorem fl_encNs (p : List Nat) : Fl 1 (encNs p) := .lst fun d hd => by
  obtain ⟨n, _, rfl⟩ := List.mem_map.mp hd
  exact .int
theorem fl_encVp (x : Vp) : Fl 3 (encVp x) := .tup fun d hd => by
  simp at hd
  rcases hd with rfl | rfl
  · exact fl_encV _
  · exact .lst fun d hd => by
      obtain ⟨n, _, rfl⟩ := List.mem_map.mp hd
      exact .int
theorem fl_encVps (l : List Vp) : Fl 4 (.lst (l.map encVp)) := .lst fun d hd => by
  obtain ⟨v, _, rfl⟩ := List.mem_map.mp hd
  exact fl_encVp v
theorem ed_eqOA {k n : Nat} {ds : List D} {tb : TE} (h : δ[k]? = some (Sd.own ds)) (hf : Fl n (.lst ds)) (hn : n ≤ 64) (hb : ED K C tb δ (.lst [])) : ED K C (tOp (rEqA K) (tVar k) tb) δ (.bl ds.isEmpty) := fun F σ H Q o q => by
  obtain ⟨p, vs, h1, h2, h3, h4⟩ := o.own k ds h
  refine ⟨_, h1, ?_⟩
  refine hb F σ H _ o fun v F1 H1 g1 i1 => ?_
  refine .inr ⟨_, _, own_dp g1.fh hf (g1.h _ _ h2) (h4.mono g1.f), i1.dp g1.fh (n := 1) (.lst (by simp)), hf.shaped hn, Fl.shaped (n := 1) (.lst (by simp)) (by omega), ?_⟩
  rw [eqv_nil]
  exact q _ F1 H1 g1 (.bl _)
theorem ed_neOA {k n : Nat} {ds : List D} {tb : TE} (h : δ[k]? = some (Sd.own ds)) (hf : Fl n (.lst ds)) (hn : n ≤ 64) (hb : ED K C tb δ (.lst [])) : ED K C (tOp (rNeA K) (tVar k) tb) δ (.bl (!ds.isEmpty)) := fun F σ H Q o q => by
  obtain ⟨p, vs, h1, h2, h3, h4⟩ := o.own k ds h
  refine ⟨_, h1, ?_⟩
  refine hb F σ H _ o fun v F1 H1 g1 i1 => ?_
  refine .inr ⟨_, _, own_dp g1.fh hf (g1.h _ _ h2) (h4.mono g1.f), i1.dp g1.fh (n := 1) (.lst (by simp)), hf.shaped hn, Fl.shaped (n := 1) (.lst (by simp)) (by omega), ?_⟩
  rw [eqv_nil]
  exact q _ F1 H1 g1 (.bl _)
theorem rd_eqAI {i j : Int} : RD K C (rEqA K) (.int i) (.int j) (.bl (decide (i = j))) := rd_eqI
theorem fl_vps (l : List Vp) : Fl 4 (.lst (l.map encVp)) := fl_encVps l
theorem atI_last {l : List D} {x : D} (h : l.getLast? = some x) : atI l (-1) = some x := by
  rcases List.eq_nil_or_concat l with rfl | ⟨r, y, rfl⟩
  · cases h
  · simp at h
    subst h
    unfold atI ixN
    rw [List.concat_eq_append, List.length_append, List.length_singleton]
    rw [if_neg (by omega), if_pos (by omega)]
    show (r ++ [y])[(-1 + ((r.length + 1 : Nat) : Int)).toNat]? = some y
    have h2 : (-1 + ((r.length + 1 : Nat) : Int)).toNat = r.length := by omega
    rw [h2]
    simp
theorem frS_mem {l : List Vp} {x y : Vp} (h : y ∈ frS l x) : y ∈ l ∨ y = x := by
  unfold frS at h
  split at h
  · simp at h
    exact .inr h
  · split at h
    · rw [List.mem_append] at h
      rcases h with h | h
      · split at h
        · exact .inl ((List.dropLast_sublist l).subset h)
        · exact .inl h
      · simp at h
        exact .inr h
    · exact .inl h
theorem frP_mem (xs : List Vp) : ∀ y ∈ xs.foldl frS [], y ∈ xs := by
  suffices h : ∀ (l acc : List Vp), ∀ y ∈ l.foldl frS acc, y ∈ acc ∨ y ∈ l by
    intro y hy
    rcases h xs [] y hy with z | z
    · simp at z
    · exact z
  intro l
  induction l with
  | nil => intro acc y hy; exact .inl hy
  | cons x l ih =>
    intro acc y hy
    rcases ih _ y hy with z | z
    · rcases frS_mem z with z | z
      · exact .inl z
      · exact .inr (by rw [z]; simp)
    · exact .inr (by simp [z])
theorem rowsV_sz {t : List (List Row)} (ht : TabOk t) : ∀ x ∈ rowsV t, Sz 2200 x.1.2 := fun x hx => by
  obtain ⟨p, hp, rfl⟩ := List.mem_map.mp hx
  exact valO_sz ht (valD_eq (plansP_alw t p hp).2)
theorem bycP_sz {t : List (List Row)} (ht : TabOk t) : ∀ x ∈ bycP t, Sz 2200 x.1.2 := fun x hx => rowsV_sz ht x ((stC_perm _ _).mem_iff.mp hx)
theorem frS_len (l : List Vp) (x : Vp) : (frS l x).length ≤ l.length + 1 := by
  unfold frS
  split
  · simp
  · split
    · split <;> simp
    · omega
theorem frP_len (xs : List Vp) : (xs.foldl frS []).length ≤ xs.length := by
  suffices h : ∀ (l acc : List Vp), (l.foldl frS acc).length ≤ acc.length + l.length by simpa using h xs []
  intro l
  induction l with
  | nil => intro acc; simp
  | cons x l ih =>
    intro acc
    have h1 := ih (frS acc x)
    have h2 := frS_len acc x
    simp only [List.foldl_cons, List.length_cons]
    omega
theorem bycP_len {t : List (List Row)} (ht : TabOk t) : (bycP t).length ≤ 1296 := by
  unfold bycP
  rw [(stC_perm _ _).length_eq]
  unfold rowsV
  rw [List.length_map]
  exact plans_len ht
def R_frontier (ds : List D) (r : Except Int D) : Prop := ∃ t : List (List Row), ds = [encT t] ∧ TabOk t ∧ r = .ok (encVps (frP t))
theorem pu_frontier (vs : List V) (H : Hp) (Q : VK) (E : XK) (hsp : spP K A.c A.ce R_frontier vs H Q E) :
    t_frontier K A (spP K A.c A.ce R_by_cost) (spP K A.c A.ce R_is_less) { nx := fun _ H' => Q .non H', rt := Q } (L2.start ["table", "found", "value", "plan"] vs) H :=
  pure_of (k := 3) (by
    rintro ds r ⟨t, rfl, ht, rfl⟩
    refine ⟨rfl, _, fit_outOf _, ?_⟩
    have hl := bycP_len ht
    refine sd_seq (sd_setO (el_lst ad_nil (by simp))) ?_
    refine sd_seq (sd_forP (ts := [2, 3]) encVp (bycP t) (fun pre => [.dat (encT t), .own ((pre.foldl frS []).map encVp), .any, .any]) (wd_list (ed_call (d := encVps (bycP t)) (ds := [encT t]) (by walk_at "ed") ⟨t, rfl, ht, rfl⟩)) (Sle.refl _) ?_) ?_
    · rintro pre x ⟨post, e⟩
      refine ⟨_, gd_pair, ?_⟩
      rw [List.foldl_append]
      have hfl := frP_len pre
      have hpl : pre.length ≤ 1296 := by
        rw [e, List.length_append] at hl
        omega
      have hxs : Sz 2200 x.1.2 := bycP_sz ht x (by rw [e]; simp)
      have hz : ∀ y ∈ pre.foldl frS [], Sz 2200 y.1.2 := fun y hy => bycP_sz ht y (by rw [e]; exact List.mem_append_left _ (frP_mem pre y hy))
      generalize pre.foldl frS [] = fo at *
      have hdl : ∀ l : Vp, (if l.1.1 = x.1.1 then fo.dropLast else fo).length ≤ 1296 := fun l => by
        split
        · rw [List.length_dropLast]
          omega
        · omega
      show SD _ _ _ _ _ _ (.nx [_, .own ((frS fo x).map encVp), _, _])
      have happ : ∀ l : List Vp, l.length ≤ 1296 → SD K A.c A.ce (tDrop (tBM K "list" rAppend (tVar 1) (tCons (tTup (tCons (tVar 2) (tCons (tVar 3) tNil))) tNil))) E [.dat (encT t), .own (l.map encVp), .dat (encV x.1), .dat (encNs x.2)] (.nx [.dat (encT t), .own ((l ++ [x]).map encVp), .any, .any]) := fun l h => by
        rw [List.map_append]
        exact (sd_append rfl (ed_tup (ds := [encV x.1, encNs x.2]) (by walk_at "ed") (Nat.le_of_ble_eq_true rfl)) (by rw [List.length_map]; omega)).weak (.same (.same (.any (.any .nil))))
      cases hg : fo.getLast? with
      | none =>
        have e0 : fo = [] := by simpa using hg
        subst e0
        have es : frS [] x = [] ++ [x] := rfl
        rw [es]
        refine sd_if (b := true) ((td_or (a := true) (b := false) (td_test (ed_eqOA rfl (fl_encVps []) (by decide) (ed_lst ad_nil (by simp)))) (fun q => Bool.noConfusion q)).is rfl) (fun _ => ?_) fun q => Bool.noConfusion q
        refine sd_seq (sd_if (b := false) ((td_and (a := false) (b := false) (td_test (ed_neOA rfl (fl_encVps []) (by decide) (ed_lst ad_nil (by simp)))) (fun q => Bool.noConfusion q)).is rfl) (fun q => Bool.noConfusion q) fun _ => sd_next) (happ [] (by simp))
      | some l =>
        have hl0 : (fo.map encVp).getLast? = some (encVp l) := by rw [List.getLast?_map, hg]; rfl
        have hne : fo ≠ [] := fun z => by subst z; cases hg
        have hemp : (fo.map encVp).isEmpty = false := by cases fo with | nil => exact absurd rfl hne | cons a b => rfl
        have es : frS fo x = if x.1.2 < l.1.2 then (if l.1.1 = x.1.1 then fo.dropLast else fo) ++ [x] else fo := by unfold frS; rw [hg]
        rw [es]
        have hzl := hz l (List.mem_of_getLast? hg)
        have hlast : ED K A.c (tOp (rIx K) (tVar 1) (tUn rNegA (tC (.int 1)))) [.dat (encT t), .own (fo.map encVp), .dat (encV x.1), .dat (encNs x.2)] (encVp l) := ed_ixO rfl (ed_un ed_int rfl) (atI_last hl0)
        have tE : TD K A.c (tTest (tOp (rEqA K) (tVar 1) (tLst tNil))) [.dat (encT t), .own (fo.map encVp), .dat (encV x.1), .dat (encNs x.2)] false := (td_test (ed_eqOA rfl (fl_encVps fo) (by decide) (ed_lst ad_nil (by simp)))).is hemp
        have tN : TD K A.c (tTest (tOp (rNeA K) (tVar 1) (tLst tNil))) [.dat (encT t), .own (fo.map encVp), .dat (encV x.1), .dat (encNs x.2)] true := (td_test (ed_neOA rfl (fl_encVps fo) (by decide) (ed_lst ad_nil (by simp)))).is (by rw [hemp]; rfl)
        refine sd_if (b := false || decide (x.1.2 < l.1.2)) (td_or tE fun _ => td_B (ed_less (p := x.1.2) (q := l.1.2) (ed_op (ed_var (d := encV x.1) rfl) ed_int (rd_ix_t rfl)) (ed_op (ed_op hlast ed_int (rd_ix_t (d := encV l.1) rfl)) ed_int (rd_ix_t rfl)) hxs hzl (by decide))) (fun q => ?_) fun q => ?_
        · rw [Bool.false_or, decide_eq_true_iff] at q
          rw [if_pos q]
          have tq : TD K A.c (tAnd (tTest (tOp (rNeA K) (tVar 1) (tLst tNil))) (tTest (tOp (rEqA K) (tOp (rIx K) (tOp (rIx K) (tOp (rIx K) (tVar 1) (tUn rNegA (tC (.int 1)))) (tC (.int 0))) (tC (.int 0))) (tOp (rIx K) (tVar 2) (tC (.int 0)))))) [.dat (encT t), .own (fo.map encVp), .dat (encV x.1), .dat (encNs x.2)] (true && decide (l.1.1 = x.1.1)) :=
            td_and tN fun _ => td_test ((ed_op (ed_op (ed_op hlast ed_int (rd_ix_t (d := encV l.1) rfl)) ed_int (rd_ix_t (d := .int l.1.1) rfl)) (ed_op (ed_var (d := encV x.1) rfl) ed_int (rd_ix_t (d := .int x.1.1) rfl)) rd_eqAI).is (by congr 1; rw [decide_eq_decide]; omega))
          refine sd_seq (sd_if tq (o := .nx [.dat (encT t), .own ((if l.1.1 = x.1.1 then fo.dropLast else fo).map encVp), .dat (encV x.1), .dat (encNs x.2)]) (fun q2 => ?_) fun q2 => ?_) (happ _ (hdl l))
          · rw [Bool.true_and, decide_eq_true_iff] at q2
            rw [if_pos q2]
            exact (sd_pop rfl (by simpa using hne)).is (by rw [List.map_dropLast]; rfl)
          · rw [Bool.true_and, decide_eq_false_iff_not] at q2
            rw [if_neg q2]
            exact sd_next
        · rw [Bool.false_or, decide_eq_false_iff_not] at q
          rw [if_neg q]
          exact sd_next.weak (.same (.same (.any (.any .nil))))
    · exact sd_freeze 1 rfl (sd_ret (ed_var rfl))) hsp
theorem pr_frontier (T : Txt K mg A) : Cal0 P w K mg base 7 "frontier" (spP K A.c A.ce R_frontier) := cal_frontier T (pr_by_cost T) (pr_is_less T) (spP_len (by rintro ds r ⟨t, rfl, _⟩; rfl)) pu_frontier
end
end Pd

/-! ## Pu7 -/
set_option Elab.async false
set_option linter.all false
set_option maxRecDepth 100000
set_option maxHeartbeats 2000000
set_option autoImplicit false
/-! The operations that only ask: what they hand back. -/
namespace Pd
open PySem PySem.Spec PyProof.Rows L2 Mt
local macro_rules | `(tactic| walk_at "ed") => `(tactic| repeat' (first
  | exact ed_var rfl | exact ed_int | exact ed_bl | exact ed_non
  | exact rd_num | exact rd_den | exact rd_addA | exact rd_I0 | exact rd_B0 | exact rd_eqI | exact rd_neI | exact rd_isN | exact rd_notN
  | exact rd_ix_t rfl
  | apply rd_I
  | apply ed_op
  | exact ad_nil | apply ad_cons
  | apply td_test | apply td_B | apply td_not
  | assumption))
section
variable {K : PySem.W.Frag} {C : Nat → Addr} {CE : Addr} {mg : Str → Option Value} {A : Ad} {P : Program} {w : World} {base : Heap} {δ : List Sd} {te tb : TE} {E : XK} {d : D} {ds : List D} {c : Int}
/-! ### results that may be errors -/
def EX (K : PySem.W.Frag) (C : Nat → Addr) (CE : Addr) (te : TE) (E : XK) (δ : List Sd) (r : Except Int D) : Prop := match r with
  | .ok d => ED K C te δ d
  | .error c => ER K C CE te E δ c
theorem EX.is {r r' : Except Int D} (h : EX K C CE te E δ r) (e : r = r') : EX K C CE te E δ r' := e ▸ h
theorem ex_call {R : List D → Except Int D → Prop} {t : TA} {r : Except Int D} (h : AD K C t δ ds) (hR : R ds r) : EX K C CE (tCall (spP K C CE R) [] E t) E δ r := by
  cases r with
  | ok d => exact ed_call h hR
  | error c => exact er_call h hR
theorem ED.forget {p : Addr} (h : ED K C te δ (.at_ p d)) : ED K C te δ d := fun F σ H Q o q => h F σ H Q o fun v F' H' g i => by
  cases i with
  | at_ i => exact q _ F' H' g i
theorem sd_asgX {g : TG} {u : TS} {r : Except Int D} {f : D → Except Int D} (h : EX K C CE te E δ r) (hu : ∀ d, r = .ok d → ∃ δ' ts, GD K C g ts δ d δ' ∧ SD K C CE u E δ' (outOf (f d))) : SD K C CE (tSeq (tAsg te g) u) E δ (outOf (r.bind f)) := by
  cases r with
  | ok d =>
    obtain ⟨δ', ts, hg, hs⟩ := hu d rfl
    exact sd_seq (sd_asg h hg) hs
  | error c => exact sd_seq_rs (sd_asg_e h)
theorem sd_dropX {u : TS} {r : Except Int D} {f : Except Int D} (h : EX K C CE te E δ r) (hu : ∀ d, r = .ok d → SD K C CE u E δ (outOf f)) : SD K C CE (tSeq (tDrop te) u) E δ (outOf (r.bind fun _ => f)) := by
  cases r with
  | ok d => exact sd_seq (sd_drop h) (hu d rfl)
  | error c => exact sd_seq_rs (sd_drop_e h)
theorem sd_retX {r : Except Int D} (h : EX K C CE te E δ r) : SD K C CE (tRet te) E δ (outOf r) := by
  cases r with
  | ok d => exact sd_ret h
  | error c => exact sd_ret_e h
theorem SD.out {ts : TS} {r r' : Except Int D} (h : SD K C CE ts E δ (outOf r)) (e : r = r') : SD K C CE ts E δ (outOf r') := e ▸ h

/-! ### need -/
def R_need (ds : List D) (r : Except Int D) : Prop := ∃ (b : Bool) (c : Int), ds = [.bl b, .int c] ∧ r = if b = true then .ok .non else .error c
theorem pu_need (vs : List V) (H : Hp) (Q : VK) (E : XK) (hsp : spP K A.c A.ce R_need vs H Q E) : t_need K A E { nx := fun _ H' => Q .non H', rt := Q } (L2.start ["is_so", "code"] vs) H :=
  pure_of (k := 0) (by
    rintro ds r ⟨b, c, rfl, rfl⟩
    refine ⟨rfl, ?_⟩
    cases b with
    | true => exact ⟨.nx [.dat (.bl true), .dat (.int c)], .inr ⟨rfl, _, rfl⟩, sd_if (b := false) ((td_not (td_B (ed_var (d := .bl true) rfl))).is rfl) (fun q => Bool.noConfusion q) fun _ => sd_next⟩
    | false => exact ⟨.rs c, rfl, sd_if (b := true) ((td_not (td_B (ed_var (d := .bl false) rfl))).is rfl) (fun _ => sd_raise (ad_cons (ed_var (d := .int c) rfl) ad_nil)) fun q => Bool.noConfusion q⟩) hsp
theorem pr_need (T : Txt K mg A) : CalX P w K mg base 3 "need" (spP K A.c A.ce R_need) := cal_need T (spP_len (by rintro ds r ⟨b, c, rfl, _⟩; rfl)) pu_need
theorem sd_need {u : TS} {b : Bool} {r : Except Int D} (h : ED K C tb δ (.bl b)) (hu : b = true → SD K C CE u E δ (outOf r)) :
    SD K C CE (tSeq (tDrop (tCall (spP K C CE R_need) [] E (tCons tb (tCons (tC (.int c)) tNil)))) u) E δ (outOf (if b = true then r else .error c)) := by
  have k : EX K C CE (tCall (spP K C CE R_need) [] E (tCons tb (tCons (tC (.int c)) tNil))) E δ (if b = true then .ok .non else .error c) := ex_call (ad_cons h (ad_cons ed_int ad_nil)) ⟨b, c, rfl, rfl⟩
  cases b with
  | true => exact sd_seq (sd_drop k) (hu rfl)
  | false => exact sd_seq_rs (sd_drop_e k)

/-! ### stations and options by their numbers -/
def stR (es : List D) (i : Nat) : Except Int D := match es[i]? with
  | some e => .ok e
  | none => .error (-2)
def R_station_at (ds : List D) (r : Except Int D) : Prop := ∃ (es : List D) (t l : D) (i : Nat), ds = [.obj 2 (.lst es) t l, encN i] ∧ r = stR es i
theorem pu_station_at (T : Cst K mg A) (vs : List V) (H : Hp) (Q : VK) (E : XK) (hsp : spP K A.c A.ce R_station_at vs H Q E) :
    t_station_at K A (spP K A.c A.ce R_need) E { nx := fun _ H' => Q .non H', rt := Q } (L2.start ["model", "number"] vs) H :=
  pure_of (k := 0) (by
    rintro ds r ⟨es, t, l, i, rfl, rfl⟩
    refine ⟨rfl, _, fit_outOf _, ?_⟩
    refine (sd_need (r := stR es i) (ed_op (ed_var (d := encN i) rfl) (ed_cb (ds := [.lst es]) (ad_cons (ed_stations T (ed_var rfl)) ad_nil) cd_len) rd_B0) fun q => ?_).out ?_
    · have q' : i < es.length := by
        have := of_decide_eq_true q
        omega
      unfold stR
      rw [List.getElem?_eq_getElem q']
      exact sd_ret (ed_op (ed_stations T (ed_var rfl)) (ed_var (d := encN i) rfl) (rd_ix_l (atI_nat' (List.getElem?_eq_getElem q'))))
    · unfold stR
      by_cases q : i < es.length
      · rw [if_pos (decide_eq_true (by omega))]
      · rw [if_neg (by simpa using q), List.getElem?_eq_none (by omega)]) hsp
theorem pr_station_at (T : Txt K mg A) : CalX P w K mg base 4 "station_at" (spP K A.c A.ce R_station_at) := cal_station_at T (pr_need T) (spP_len (by rintro ds r ⟨es, t, l, i, rfl, _⟩; rfl)) (pu_station_at T.toCst)
/-- a station with these options -/
inductive StD : D → List D → Prop
  | ob {a b : D} {os : List D} : StD (.obj 1 a b (.lst os)) os
  | at_ {p q : Addr} {a b : D} {os : List D} : StD (.at_ p (.obj 1 a b (.at_ q (.lst os)))) os
def optD : D → List D
  | .obj _ _ _ (.lst os) => os
  | .at_ _ (.obj _ _ _ (.at_ _ (.lst os))) => os
  | _ => []
theorem StD.eq {e : D} {os : List D} (h : StD e os) : optD e = os := by cases h <;> rfl
theorem ed_optD (T : Cst K mg A) {e : D} {os : List D} (h : StD e os) (k : ED K A.c te δ e) : ED K A.c (tFld K te "options") δ (.lst os) := by
  cases h with
  | ob => exact ed_options T k
  | at_ => exact (ed_options T k.forget).forget
def optR (es : List D) (i k : Nat) : Except Int D := match es[i]? with
  | none => .error (-2)
  | some e => match (optD e)[k]? with
    | none => .error (-2)
    | some o => .ok (.tup [e, o])
def R_option_at (ds : List D) (r : Except Int D) : Prop := ∃ (es : List D) (t l : D) (i k : Nat), ds = [.obj 2 (.lst es) t l, encN i, encN k] ∧ (∀ e ∈ es, ∃ os, StD e os) ∧ r = optR es i k
theorem pu_option_at (T : Cst K mg A) (vs : List V) (H : Hp) (Q : VK) (E : XK) (hsp : spP K A.c A.ce R_option_at vs H Q E) :
    t_option_at K A (spP K A.c A.ce R_station_at) (spP K A.c A.ce R_need) E { nx := fun _ H' => Q .non H', rt := Q } (L2.start ["model", "number", "option", "station"] vs) H :=
  pure_of (k := 1) (by
    rintro ds r ⟨es, t, l, i, k, rfl, hes, rfl⟩
    refine ⟨rfl, _, fit_outOf _, ?_⟩
    refine (sd_asgX (r := stR es i) (f := fun e => match (optD e)[k]? with | none => .error (-2) | some o => .ok (.tup [e, o])) (ex_call (ds := [.obj 2 (.lst es) t l, encN i]) (by walk_at "ed") ⟨es, t, l, i, rfl, rfl⟩) fun e he => ⟨_, _, gd_name, ?_⟩).out ?_
    · have hm : es[i]? = some e := by
        unfold stR at he
        split at he
        · rename_i x hx
          cases he
          exact hx
        · cases he
      obtain ⟨os, ho⟩ := hes e (List.mem_of_getElem? hm)
      rw [ho.eq]
      refine (sd_need (r := match os[k]? with | none => .error (-2) | some o => .ok (.tup [e, o])) (ed_op (ed_var (d := encN k) rfl) (ed_cb (ds := [.lst os]) (ad_cons (ed_optD T ho (ed_var rfl)) ad_nil) cd_len) rd_B0) fun q => ?_).out ?_
      · have q' : k < os.length := by
          have := of_decide_eq_true q
          omega
        rw [List.getElem?_eq_getElem q']
        exact sd_ret (ed_tup (ad_cons (ed_var rfl) (ad_cons (ed_op (ed_optD T ho (ed_var rfl)) (ed_var (d := encN k) rfl) (rd_ix_l (atI_nat' (List.getElem?_eq_getElem q')))) ad_nil)) (Nat.le_of_ble_eq_true rfl))
      · by_cases q : k < os.length
        · rw [if_pos (decide_eq_true (by omega))]
        · rw [if_neg (by simpa using q), List.getElem?_eq_none (by omega)]
    · unfold stR optR
      cases es[i]? <;> rfl) hsp
theorem pr_option_at (T : Txt K mg A) : CalX P w K mg base 5 "option_at" (spP K A.c A.ce R_option_at) := cal_option_at T (pr_station_at T) (pr_need T) (spP_len (by rintro ds r ⟨es, t, l, i, k, rfl, _⟩; rfl)) (pu_option_at T.toCst)
end
end Pd

/-! ## Pu8 -/
set_option Elab.async false
set_option linter.all false
set_option maxRecDepth 100000
set_option maxHeartbeats 2000000
set_option autoImplicit false
/-! The operations that only ask: what they hand back. -/
namespace Pd
open PySem PySem.Spec PyProof.Rows L2 Mt
local macro_rules | `(tactic| walk_at "ed") => `(tactic| repeat' (first
  | exact ed_var rfl | exact ed_int | exact ed_bl | exact ed_non
  | exact rd_num | exact rd_den | exact rd_addA | exact rd_I0 | exact rd_B0 | exact rd_eqI | exact rd_neI | exact rd_isN | exact rd_notN
  | exact rd_ix_t rfl
  | apply rd_I
  | apply ed_op
  | exact ad_nil | apply ad_cons
  | apply td_test | apply td_B | apply td_not
  | assumption))
section
variable {K : PySem.W.Frag} {C : Nat → Addr} {CE : Addr} {mg : Str → Option Value} {A : Ad} {P : Program} {w : World} {base : Heap} {δ : List Sd} {te tb : TE} {E : XK} {d : D} {ds : List D} {c : Int}
/-! ### what is handed in, what is handed back -/
def encIs (l : List Int) : D := .lst (l.map .int)
def given (ns : List Nat) (ls : List (List Nat)) : D := .lst (ns.map encN ++ ls.map encNs)
def exI (r : Except Int (List Int)) : Except Int D := r.map encIs
/-- a query -/
def R_q (f : Lrx8.Model → List Nat → List (List Nat) → Except Int (List Int)) (a b : Nat) (ds : List D) (r : Except Int D) : Prop :=
  ∃ (m : Lrx8.Model) (ns : List Nat) (ls : List (List Nat)), ds = [encM m, given ns ls] ∧ MOk m ∧ ns.length = a ∧ ls.length = b ∧ (∀ l ∈ ls, l.length ≤ 1000000) ∧ r = exI (f m ns ls)
theorem q_len {f : Lrx8.Model → List Nat → List (List Nat) → Except Int (List Int)} {a b : Nat} (ds : List D) (r : Except Int D) (h : R_q f a b ds r) : ds.length = 2 := by
  obtain ⟨m, ns, ls, rfl, _⟩ := h
  rfl
theorem len1 {α : Type} {l : List α} (h : l.length = 1) : ∃ a, l = [a] := List.length_eq_one_iff.mp h
theorem len2 {α : Type} {l : List α} (h : l.length = 2) : ∃ a b, l = [a, b] := by
  match l, h with
  | [a, b], _ => exact ⟨a, b, rfl⟩
theorem len0 {α : Type} {l : List α} (h : l.length = 0) : l = [] := List.length_eq_zero_iff.mp h

/-! ### fraction_in -/
def frR (n d : Nat) : Except Int Rat := if Lrx8.isFraction n d = true then .ok (mkRat n d) else .error (-22)
def R_fraction_in (ds : List D) (r : Except Int D) : Prop := ∃ n d : Nat, ds = [encN n, encN d] ∧ r = (frR n d).map rq
theorem pu_fraction_in (vs : List V) (H : Hp) (Q : VK) (E : XK) (hsp : spP K A.c A.ce R_fraction_in vs H Q E) :
    t_fraction_in K A (spP K A.c A.ce R_need) (spP K A.c A.ce R_fraction) E { nx := fun _ H' => Q .non H', rt := Q } (L2.start ["num", "den"] vs) H :=
  pure_of (k := 0) (by
    rintro ds r ⟨n, d, rfl, rfl⟩
    refine ⟨rfl, _, fit_outOf _, ?_⟩
    refine (sd_need (r := .ok (rq (mkRat n d))) (ed_andV (ed_op (ed_var (d := encN n) rfl) ed_int rd_B0) fun _ => ed_chain ed_int (ed_var (d := encN d) rfl) rd_B0 (fun _ => ed_int) fun _ => rd_B0) fun q => ?_).out ?_
    · simp only [Bool.and_eq_true, decide_eq_true_eq] at q
      exact sd_ret (ed_call (ds := [encN n, encN d]) (by walk_at "ed") ⟨n, d, d, rfl, rfl, by omega, Nat.lt_of_lt_of_le (by omega : d < 2 ^ 20) (Nat.pow_le_pow_right (by decide) (by decide)), rfl⟩)
    · have e : (decide ((n : Int) ≤ 1000000) && (decide ((1 : Int) ≤ (d : Nat)) && decide ((d : Int) ≤ 1000000))) = Lrx8.isFraction n d := by
        unfold Lrx8.isFraction
        rw [Bool.eq_iff_iff]
        simp only [Bool.and_eq_true, decide_eq_true_eq]
        omega
      rw [e]
      unfold frR
      split <;> rfl) hsp
theorem pr_fraction_in (T : Txt K mg A) : CalX P w K mg base 4 "fraction_in" (spP K A.c A.ce R_fraction_in) := cal_fraction_in T (pr_need T) (pr_fraction T) (spP_len (by rintro ds r ⟨n, d, rfl, _⟩; rfl)) pu_fraction_in
theorem frR_sz {n d : Nat} {q : Rat} (h : frR n d = .ok q) : q = mkRat n d ∧ Sz 20 q := by
  unfold frR at h
  split at h
  · rename_i k
    unfold Lrx8.isFraction at k
    have k := of_decide_eq_true k
    cases h
    exact ⟨rfl, Sz.mk (by omega) (by omega) (by omega)⟩
  · cases h

/-! ### the stations and options of a model -/
theorem encM_ob (m : Lrx8.Model) : encM m = .obj 2 (.lst (m.stations.map encS)) (fr m.target) (fr m.limit) := rfl
def stQ (m : Lrx8.Model) (i : Nat) : Except Int D := if i < m.stations.length then .ok (encS (Lrx8.getStation m i)) else .error (-2)
theorem stR_eq (m : Lrx8.Model) (i : Nat) : stR (m.stations.map encS) i = stQ m i := by
  unfold stR stQ Lrx8.getStation
  by_cases h : i < m.stations.length
  · rw [if_pos h, List.getElem?_map, List.getElem?_eq_getElem h, List.getD_eq_getElem?_getD, List.getElem?_eq_getElem h]
    rfl
  · rw [if_neg h, List.getElem?_map, List.getElem?_eq_none (by omega)]
    rfl
def opQ (m : Lrx8.Model) (i k : Nat) : Except Int D := if Lrx8.isOption m i k = true then .ok (.tup [encS (Lrx8.getStation m i), encC (Lrx8.getChoice (Lrx8.getStation m i) k)]) else .error (-2)
theorem encS_st (s : Lrx8.Station) : StD (encS s) (s.choices.map encC) := .ob
theorem optR_eq (m : Lrx8.Model) (i k : Nat) : optR (m.stations.map encS) i k = opQ m i k := by
  unfold optR opQ Lrx8.isOption Lrx8.getStation Lrx8.getChoice
  by_cases h : i < m.stations.length
  · rw [List.getElem?_map, List.getElem?_eq_getElem h, List.getD_eq_getElem?_getD, List.getElem?_eq_getElem h]
    simp only [Option.map_some, Option.getD_some, decide_eq_true h, Bool.true_and]
    rw [(encS_st m.stations[i]).eq]
    by_cases h2 : k < m.stations[i].choices.length
    · rw [List.getElem?_map, List.getElem?_eq_getElem h2, List.getD_eq_getElem?_getD, List.getElem?_eq_getElem h2, if_pos (decide_eq_true h2)]
      rfl
    · rw [List.getElem?_map, List.getElem?_eq_none (by omega), if_neg (by simpa using h2)]
      rfl
  · rw [List.getElem?_map, List.getElem?_eq_none (by omega)]
    simp only [decide_eq_false h, Bool.false_and]
    rfl
theorem stQ_ok {m : Lrx8.Model} {i : Nat} {d : D} (hm : MOk m) (h : stQ m i = .ok d) : d = encS (Lrx8.getStation m i) ∧ SOk (Lrx8.getStation m i) ∧ i < m.stations.length := by
  unfold stQ at h
  split at h
  · rename_i q
    cases h
    refine ⟨rfl, hm.ss _ ?_, q⟩
    unfold Lrx8.getStation
    rw [List.getD_eq_getElem?_getD, List.getElem?_eq_getElem q]
    exact List.getElem_mem q
  · cases h
theorem opQ_ok {m : Lrx8.Model} {i k : Nat} {d : D} (hm : MOk m) (h : opQ m i k = .ok d) : d = .tup [encS (Lrx8.getStation m i), encC (Lrx8.getChoice (Lrx8.getStation m i) k)] ∧ SOk (Lrx8.getStation m i) ∧ COk (Lrx8.getChoice (Lrx8.getStation m i) k) := by
  unfold opQ at h
  split at h
  · rename_i q
    unfold Lrx8.isOption at q
    rw [Bool.and_eq_true, decide_eq_true_eq, decide_eq_true_eq] at q
    obtain ⟨q1, q2⟩ := q
    cases h
    have hs := (stQ_ok hm (show stQ m i = .ok (encS (Lrx8.getStation m i)) by unfold stQ; rw [if_pos q1])).2.1
    exact ⟨rfl, hs, hs.cs _ (List.mem_of_getElem? (choice_at q2))⟩
  · cases h
theorem ex_station {ti tj : TE} {m : Lrx8.Model} {i : Nat} (h1 : ED K A.c ti δ (encM m)) (h2 : ED K A.c tj δ (encN i)) : EX K A.c A.ce (tCall (spP K A.c A.ce R_station_at) [] E (tCons ti (tCons tj tNil))) E δ (stQ m i) :=
  ex_call (ds := [encM m, encN i]) (ad_cons h1 (ad_cons h2 ad_nil)) ⟨m.stations.map encS, _, _, i, rfl, (stR_eq m i).symm⟩
theorem ex_option {ti tj tk : TE} {m : Lrx8.Model} {i k : Nat} (h1 : ED K A.c ti δ (encM m)) (h2 : ED K A.c tj δ (encN i)) (h3 : ED K A.c tk δ (encN k)) : EX K A.c A.ce (tCall (spP K A.c A.ce R_option_at) [] E (tCons ti (tCons tj (tCons tk tNil)))) E δ (opQ m i k) :=
  ex_call (ds := [encM m, encN i, encN k]) (ad_cons h1 (ad_cons h2 (ad_cons h3 ad_nil))) ⟨m.stations.map encS, _, _, i, k, rfl, fun e he => by
    obtain ⟨s, _, rfl⟩ := List.mem_map.mp he
    exact ⟨_, encS_st s⟩, (optR_eq m i k).symm⟩

/-! ### option_info -/
def q8 (m : Lrx8.Model) (ns : List Nat) (ls : List (List Nat)) : Except Int (List Int) := match ns with
  | [i, k] => if Lrx8.isOption m i k = true then
      let s := Lrx8.getStation m i
      let c := Lrx8.getChoice s k
      .ok [(c.servers : Int), (c.rate : Int), (c.cost : Int), (utilP s c 100).num, ((utilP s c 100).den : Int)] else .error (-2)
  | _ => .ok []
theorem pu_option_info (T : Cst K mg A) (vs : List V) (H : Hp) (Q : VK) (E : XK) (hsp : spP K A.c A.ce (R_q q8 2 0) vs H Q E) :
    t_option_info K A (spP K A.c A.ce R_option_at) (spP K A.c A.ce R_utilization) E { nx := fun _ H' => Q .non H', rt := Q } (L2.start ["model", "given", "station", "option"] vs) H :=
  pure_of (k := 2) (by
    rintro ds r ⟨m, ns, ls, rfl, hm, h1, h2, _, rfl⟩
    obtain ⟨i, k, rfl⟩ := len2 h1
    obtain rfl := len0 h2
    refine ⟨rfl, _, fit_outOf _, ?_⟩
    refine (sd_asgX (r := opQ m i k) (f := fun _ => exI (q8 m [i, k] [])) (ex_option (ed_var rfl) (ed_op (ed_var (d := given [i, k] []) rfl) ed_int (rd_ix_l rfl)) (ed_op (ed_var (d := given [i, k] []) rfl) ed_int (rd_ix_l rfl))) fun d hd => ?_).out ?_
    · have hq : Lrx8.isOption m i k = true := by
        unfold opQ at hd
        split at hd
        · assumption
        · cases hd
      obtain ⟨rfl, hs, hc⟩ := opQ_ok hm hd
      refine ⟨_, _, gd_pair, ?_⟩
      have e : q8 m [i, k] [] = .ok [((Lrx8.getChoice (Lrx8.getStation m i) k).servers : Int), ((Lrx8.getChoice (Lrx8.getStation m i) k).rate : Int), ((Lrx8.getChoice (Lrx8.getStation m i) k).cost : Int), (utilP (Lrx8.getStation m i) (Lrx8.getChoice (Lrx8.getStation m i) k) 100).num, ((utilP (Lrx8.getStation m i) (Lrx8.getChoice (Lrx8.getStation m i) k) 100).den : Int)] := by
        unfold q8
        exact if_pos hq
      rw [e]
      generalize Lrx8.getStation m i = s at *
      generalize Lrx8.getChoice s k = c at *
      exact sd_ret (ed_op (ed_lst (ds := [.int c.servers, .int c.rate, .int c.cost]) (ad_cons (ed_servers T (ed_var (d := encC c) rfl)) (ad_cons (ed_rate T (ed_var (d := encC c) rfl)) (ad_cons (ed_cost T (ed_var (d := encC c) rfl)) ad_nil))) (Nat.le_of_ble_eq_true rfl)) (ed_cb (ds := [rq (utilP s c 100)]) (ad_cons (ed_call (ds := [encS s, encC c, .int 100]) (by walk_at "ed") ⟨s, c, 100, rfl, hs, hc, by decide, rfl⟩) ad_nil) cd_list) (rd_catA (Nat.le_of_ble_eq_true rfl)))
    · unfold opQ
      by_cases q : Lrx8.isOption m i k = true
      · rw [if_pos q]
        rfl
      · rw [if_neg q]
        show _ = exI (q8 m [i, k] [])
        unfold q8
        dsimp only
        rw [if_neg q]
        rfl) hsp
theorem pr_option_info (T : Txt K mg A) : CalX P w K mg base 6 "option_info" (spP K A.c A.ce (R_q q8 2 0)) := cal_option_info T (pr_option_at T) (pr_utilization T) (spP_len q_len) (pu_option_info T.toCst)

/-! ### option_number -/
def rI (q : Rat) : List Int := [q.num, (q.den : Int)]
def q9 (m : Lrx8.Model) (ns : List Nat) (ls : List (List Nat)) : Except Int (List Int) := match ns with
  | [i, k] => if Lrx8.isOption m i k = true then
      let s := Lrx8.getStation m i
      let c := Lrx8.getChoice s k
      if okP m s c 100 = true then .ok ([0] ++ rI (numP s c 100) ++ rI (wgtP s c 100)) else .error (-33) else .error (-2)
  | _ => .ok []
theorem pu_option_number (T : Cst K mg A) (vs : List V) (H : Hp) (Q : VK) (E : XK) (hsp : spP K A.c A.ce (R_q q9 2 0) vs H Q E) :
    t_option_number K A (spP K A.c A.ce R_option_at) (spP K A.c A.ce R_need) (spP K A.c A.ce R_is_option_allowed) (spP K A.c A.ce R_weighted_number) (spP K A.c A.ce R_number_of) E { nx := fun _ H' => Q .non H', rt := Q } (L2.start ["model", "given", "station", "option"] vs) H :=
  pure_of (k := 2) (by
    rintro ds r ⟨m, ns, ls, rfl, hm, h1, h2, _, rfl⟩
    obtain ⟨i, k, rfl⟩ := len2 h1
    obtain rfl := len0 h2
    refine ⟨rfl, _, fit_outOf _, ?_⟩
    refine (sd_asgX (r := opQ m i k) (f := fun _ => exI (q9 m [i, k] [])) (ex_option (ed_var rfl) (ed_op (ed_var (d := given [i, k] []) rfl) ed_int (rd_ix_l rfl)) (ed_op (ed_var (d := given [i, k] []) rfl) ed_int (rd_ix_l rfl))) fun d hd => ?_).out ?_
    · have hq : Lrx8.isOption m i k = true := by
        unfold opQ at hd
        split at hd
        · assumption
        · cases hd
      obtain ⟨rfl, hs, hc⟩ := opQ_ok hm hd
      refine ⟨_, _, gd_pair, ?_⟩
      have e : q9 m [i, k] [] = if okP m (Lrx8.getStation m i) (Lrx8.getChoice (Lrx8.getStation m i) k) 100 = true then .ok ([0] ++ rI (numP (Lrx8.getStation m i) (Lrx8.getChoice (Lrx8.getStation m i) k) 100) ++ rI (wgtP (Lrx8.getStation m i) (Lrx8.getChoice (Lrx8.getStation m i) k) 100)) else .error (-33) := by
        unfold q9
        exact if_pos hq
      rw [e]
      generalize Lrx8.getStation m i = s at *
      generalize Lrx8.getChoice s k = c at *
      refine (sd_need (r := .ok (encIs ([0] ++ rI (numP s c 100) ++ rI (wgtP s c 100)))) (ed_call (d := .bl (okP m s c 100)) (ds := [encM m, encS s, encC c, .int 100]) (by walk_at "ed") ⟨m, s, c, 100, rfl, hm, hs, hc, by decide, rfl⟩) fun q => ?_).out (by split <;> rfl)
      have h1 := okP_lt q
      exact sd_ret (ed_op (ed_op (ed_lst (ds := [.int 0]) (by walk_at "ed") (Nat.le_of_ble_eq_true rfl)) (ed_cb (ds := [rq (numP s c 100)]) (ad_cons (ed_call (ds := [encS s, encC c, .int 100]) (by walk_at "ed") ⟨s, c, 100, rfl, hs, hc, by decide, by decide, h1, rfl⟩) ad_nil) cd_list) (rd_catA (Nat.le_of_ble_eq_true rfl))) (ed_cb (ds := [rq (wgtP s c 100)]) (ad_cons (ed_call (ds := [encS s, encC c, .int 100]) (by walk_at "ed") ⟨s, c, 100, rfl, hs, hc, by decide, by decide, h1, rfl⟩) ad_nil) cd_list) (rd_catA (Nat.le_of_ble_eq_true rfl)))
    · unfold opQ
      by_cases q : Lrx8.isOption m i k = true
      · rw [if_pos q]
        rfl
      · rw [if_neg q]
        show _ = exI (q9 m [i, k] [])
        unfold q9
        dsimp only
        rw [if_neg q]
        rfl) hsp
theorem pr_option_number (T : Txt K mg A) : CalX P w K mg base 7 "option_number" (spP K A.c A.ce (R_q q9 2 0)) := cal_option_number T (pr_option_at T) (pr_need T) (pr_is_option_allowed T) (pr_weighted_number T) (pr_number_of T) (spP_len q_len) (pu_option_number T.toCst)

/-! ### lists of options -/
def R_listed (ds : List D) (r : Except Int D) : Prop := ∃ l : List Nat, ds = [encNs l] ∧ l.length ≤ 1000 ∧ r = .ok (encIs ((l.length : Int) :: l.map fun n : Nat => (n : Int)))
theorem encNs_is (l : List Nat) : encNs l = encIs (l.map fun n : Nat => (n : Int)) := by
  unfold encNs encIs
  rw [List.map_map]
  rfl
theorem pu_listed (vs : List V) (H : Hp) (Q : VK) (E : XK) (hsp : spP K A.c A.ce R_listed vs H Q E) : t_listed K A { nx := fun _ H' => Q .non H', rt := Q } (L2.start ["numbers"] vs) H :=
  pure_of (k := 0) (by
    rintro ds r ⟨l, rfl, hl, rfl⟩
    refine ⟨rfl, _, fit_outOf _, ?_⟩
    refine sd_ret ((ed_op (ed_lst (ds := [.int l.length]) (ad_cons (ed_lenM (enc := fun n : Nat => .int (n : Nat)) (ed_var rfl)) ad_nil) (Nat.le_of_ble_eq_true rfl)) (ed_var (d := encNs l) rfl) (rd_catA ?_)).is ?_)
    · rw [List.length_map]
      show 1 + _ ≤ _
      omega
    · unfold encIs
      rw [List.map_cons, List.map_map]
      rfl) hsp
theorem pr_listed (T : Txt K mg A) : Cal0 P w K mg base 1 "listed" (spP K A.c A.ce R_listed) := cal_listed T (spP_len (by rintro ds r ⟨l, rfl, _⟩; rfl)) pu_listed
end
end Pd

/-! ## Pu9 -/
set_option Elab.async false
set_option linter.all false
set_option maxRecDepth 100000
set_option maxHeartbeats 2000000
set_option autoImplicit false
/-! The operations that only ask, second part. -/
namespace Pd
open PySem PySem.Spec PyProof.Rows L2 Mt
local macro_rules | `(tactic| walk_at "ed") => `(tactic| repeat' (first
  | exact ed_var rfl | exact ed_int | exact ed_bl | exact ed_non
  | exact rd_num | exact rd_den | exact rd_addA | exact rd_I0 | exact rd_B0 | exact rd_eqI | exact rd_neI | exact rd_isN | exact rd_notN
  | exact rd_ix_t rfl
  | apply rd_I
  | apply ed_op
  | exact ad_nil | apply ad_cons
  | apply td_test | apply td_B | apply td_not
  | assumption))
section
variable {K : PySem.W.Frag} {C : Nat → Addr} {CE : Addr} {mg : Str → Option Value} {A : Ad} {P : Program} {w : World} {base : Heap} {δ : List Sd} {te tb : TE} {E : XK} {d : D} {ds : List D} {c : Int}
theorem ed_tgt (T : Cst K mg A) {m : Lrx8.Model} (hm : MOk m) (h : ED K A.c te δ (encM m)) : ED K A.c (tFld K te "target") δ (rq (tgt m)) := by
  rw [encM_eq hm] at h
  exact ed_target T h
theorem ed_lim (T : Cst K mg A) {m : Lrx8.Model} (hm : MOk m) (h : ED K A.c te δ (encM m)) : ED K A.c (tFld K te "limit") δ (rq (lim m)) := by
  rw [encM_eq hm] at h
  exact ed_limit T h
theorem ed_table {m : Lrx8.Model} (hm : MOk m) (h : ED K A.c te δ (encM m)) : ED K A.c (tCall (spP K A.c A.ce R_table_of) [] E (tCons te tNil)) δ (encT (tabP m)) :=
  ed_call (ds := [encM m]) (ad_cons h ad_nil) ⟨m, rfl, hm, rfl⟩
theorem ints_nat (l : List Nat) : (l.map fun n : Nat => D.int (n : Nat)) = (l.map fun n : Nat => (n : Int)).map D.int := by
  rw [List.map_map]
  rfl

/-! ### ask_allowed, ask_dominated -/
def lenL (l : List Nat) : List Int := (l.length : Int) :: l.map fun n : Nat => (n : Int)
def q10 (m : Lrx8.Model) (ns : List Nat) (ls : List (List Nat)) : Except Int (List Int) := match ns with
  | [i] => if i < m.stations.length then .ok (lenL (allowedL (rowsP m (Lrx8.getStation m i)))) else .error (-2)
  | _ => .ok []
def q11 (m : Lrx8.Model) (ns : List Nat) (ls : List (List Nat)) : Except Int (List Int) := match ns with
  | [i] => if i < m.stations.length then .ok (lenL (domL (rowsP m (Lrx8.getStation m i)))) else .error (-2)
  | _ => .ok []
theorem pu_ask_allowed (T : Cst K mg A) (vs : List V) (H : Hp) (Q : VK) (E : XK) (hsp : spP K A.c A.ce (R_q q10 1 0) vs H Q E) :
    t_ask_allowed K A (spP K A.c A.ce R_listed) (spP K A.c A.ce R_allowed_options) (spP K A.c A.ce R_rows_of) (spP K A.c A.ce R_station_at) E { nx := fun _ H' => Q .non H', rt := Q } (L2.start ["model", "given"] vs) H :=
  pure_of (k := 0) (by
    rintro ds r ⟨m, ns, ls, rfl, hm, h1, h2, _, rfl⟩
    obtain ⟨i, rfl⟩ := len1 h1
    obtain rfl := len0 h2
    refine ⟨rfl, _, fit_outOf _, ?_⟩
    have hx : EX K A.c A.ce (tCall (spP K A.c A.ce R_station_at) [] E (tCons (tVar 0) (tCons (tOp (rIx K) (tVar 1) (tC (.int 0))) tNil))) E [.dat (encM m), .dat (given [i] [])] (stQ m i) := ex_station (ed_var rfl) (ed_op (ed_var (d := given [i] []) rfl) ed_int (rd_ix_l rfl))
    by_cases q : i < m.stations.length
    · have e1 : stQ m i = .ok (encS (Lrx8.getStation m i)) := if_pos q
      have hs := (stQ_ok hm e1).2.1
      have e2 : exI (q10 m [i] []) = .ok (encIs (lenL (allowedL (rowsP m (Lrx8.getStation m i))))) := by
        unfold q10
        dsimp only
        rw [if_pos q]
        rfl
      rw [e1] at hx
      rw [e2]
      have hr := rowsP_ok (m := m) hs
      exact sd_ret (ed_call (ds := [encNs (allowedL (rowsP m (Lrx8.getStation m i)))]) (ad_cons (ed_call (ds := [encRs (rowsP m (Lrx8.getStation m i))]) (ad_cons (ed_call (ds := [encM m, encS (Lrx8.getStation m i), .int 100]) (ad_cons (ed_var rfl) (ad_cons hx (by walk_at "ed"))) ⟨m, _, rfl, hm, hs, rfl⟩) ad_nil) ⟨_, rfl, hr.1, rfl⟩) ad_nil) ⟨_, rfl, by have := allowedL_len (rowsP m (Lrx8.getStation m i)); omega, rfl⟩)
    · have e1 : stQ m i = .error (-2) := if_neg q
      have e2 : exI (q10 m [i] []) = .error (-2) := by
        unfold q10
        dsimp only
        rw [if_neg q]
        rfl
      rw [e1] at hx
      rw [e2]
      exact sd_ret_e (er_args (ar_head (er_args (ar_head (er_args (ar_tail (ed_var rfl) (ar_head hx)))))))) hsp
theorem pr_ask_allowed (T : Txt K mg A) : CalX P w K mg base 8 "ask_allowed" (spP K A.c A.ce (R_q q10 1 0)) := cal_ask_allowed T (pr_listed T) (pr_allowed_options T) (pr_rows_of T) (pr_station_at T) (spP_len q_len) (pu_ask_allowed T.toCst)
theorem pu_ask_dominated (T : Cst K mg A) (vs : List V) (H : Hp) (Q : VK) (E : XK) (hsp : spP K A.c A.ce (R_q q11 1 0) vs H Q E) :
    t_ask_dominated K A (spP K A.c A.ce R_listed) (spP K A.c A.ce R_dominated_options) (spP K A.c A.ce R_rows_of) (spP K A.c A.ce R_station_at) E { nx := fun _ H' => Q .non H', rt := Q } (L2.start ["model", "given"] vs) H :=
  pure_of (k := 0) (by
    rintro ds r ⟨m, ns, ls, rfl, hm, h1, h2, _, rfl⟩
    obtain ⟨i, rfl⟩ := len1 h1
    obtain rfl := len0 h2
    refine ⟨rfl, _, fit_outOf _, ?_⟩
    have hx : EX K A.c A.ce (tCall (spP K A.c A.ce R_station_at) [] E (tCons (tVar 0) (tCons (tOp (rIx K) (tVar 1) (tC (.int 0))) tNil))) E [.dat (encM m), .dat (given [i] [])] (stQ m i) := ex_station (ed_var rfl) (ed_op (ed_var (d := given [i] []) rfl) ed_int (rd_ix_l rfl))
    by_cases q : i < m.stations.length
    · have e1 : stQ m i = .ok (encS (Lrx8.getStation m i)) := if_pos q
      have hs := (stQ_ok hm e1).2.1
      have e2 : exI (q11 m [i] []) = .ok (encIs (lenL (domL (rowsP m (Lrx8.getStation m i))))) := by
        unfold q11
        dsimp only
        rw [if_pos q]
        rfl
      rw [e1] at hx
      rw [e2]
      have hr := rowsP_ok (m := m) hs
      exact sd_ret (ed_call (ds := [encNs (domL (rowsP m (Lrx8.getStation m i)))]) (ad_cons (ed_call (ds := [encRs (rowsP m (Lrx8.getStation m i))]) (ad_cons (ed_call (ds := [encM m, encS (Lrx8.getStation m i), .int 100]) (ad_cons (ed_var rfl) (ad_cons hx (by walk_at "ed"))) ⟨m, _, rfl, hm, hs, rfl⟩) ad_nil) ⟨_, rfl, hr.1, hr.2, rfl⟩) ad_nil) ⟨_, rfl, by
        have k1 := allowedL_len (rowsP m (Lrx8.getStation m i))
        have k2 : (domL (rowsP m (Lrx8.getStation m i))).length ≤ (allowedL (rowsP m (Lrx8.getStation m i))).length := List.length_filter_le _ _
        omega, rfl⟩)
    · have e1 : stQ m i = .error (-2) := if_neg q
      have e2 : exI (q11 m [i] []) = .error (-2) := by
        unfold q11
        dsimp only
        rw [if_neg q]
        rfl
      rw [e1] at hx
      rw [e2]
      exact sd_ret_e (er_args (ar_head (er_args (ar_head (er_args (ar_tail (ed_var rfl) (ar_head hx)))))))) hsp
theorem pr_ask_dominated (T : Txt K mg A) : CalX P w K mg base 8 "ask_dominated" (spP K A.c A.ce (R_q q11 1 0)) := cal_ask_dominated T (pr_listed T) (pr_dominated_options T) (pr_rows_of T) (pr_station_at T) (spP_len q_len) (pu_ask_dominated T.toCst)

/-! ### plan_value -/
def pvO (m : Lrx8.Model) (plan : List Nat) : Except Int Vl := if isPlanP m plan = true then (match valO (tabP m) plan with | none => .error (-33) | some v => .ok v) else .error (-22)
theorem isPlan_planIn {m : Lrx8.Model} {plan : List Nat} (h : isPlanP m plan = true) : PlanIn (tabP m) plan := fun q hq => by
  obtain ⟨h1, h2⟩ := isPlanP_in h
  unfold tabP at hq
  rw [List.zip_map_left] at hq
  obtain ⟨⟨s, n⟩, hx, rfl⟩ := List.mem_map.mp hq
  have := h2 _ hx
  unfold rowsP
  simp only [Prod.map, List.length_map]
  exact this
def R_plan_value (ds : List D) (r : Except Int D) : Prop := ∃ (m : Lrx8.Model) (plan : List Nat), ds = [encM m, encT (tabP m), encNs plan] ∧ MOk m ∧ r = (pvO m plan).map encV
theorem pu_plan_value (vs : List V) (H : Hp) (Q : VK) (E : XK) (hsp : spP K A.c A.ce R_plan_value vs H Q E) :
    t_plan_value K A (spP K A.c A.ce R_need) (spP K A.c A.ce R_value_of) (spP K A.c A.ce R_is_plan) E { nx := fun _ H' => Q .non H', rt := Q } (L2.start ["model", "table", "plan", "value"] vs) H :=
  pure_of (k := 1) (by
    rintro ds r ⟨m, plan, rfl, hm, rfl⟩
    refine ⟨rfl, _, fit_outOf _, ?_⟩
    refine (sd_need (r := match valO (tabP m) plan with | none => .error (-33) | some v => .ok (encV v)) (ed_call (d := .bl (isPlanP m plan)) (ds := [encM m, encNs plan]) (by walk_at "ed") ⟨m, plan, rfl, hm, rfl⟩) fun q => ?_).out ?_
    · refine sd_seq (sd_set (ed_call (d := encVO (valO (tabP m) plan)) (ds := [encT (tabP m), encNs plan]) (by walk_at "ed") ⟨_, plan, rfl, tabP_ok hm, isPlan_planIn q, rfl⟩)) ?_
      refine (sd_need (b := !isNon (encVO (valO (tabP m) plan))) (r := .ok (encVO (valO (tabP m) plan))) (ed_op (ed_var (d := encVO (valO (tabP m) plan)) rfl) ed_non rd_notN) fun q2 => sd_ret (ed_var rfl)).out ?_
      cases valO (tabP m) plan <;> rfl
    · unfold pvO
      by_cases q : isPlanP m plan = true
      · rw [if_pos q, if_pos q]
        cases valO (tabP m) plan <;> rfl
      · rw [if_neg q, if_neg q]
        rfl) hsp
theorem pr_plan_value (T : Txt K mg A) : CalX P w K mg base 6 "plan_value" (spP K A.c A.ce R_plan_value) := cal_plan_value T (pr_need T) (pr_value_of T) (pr_is_plan T) (spP_len (by rintro ds r ⟨m, plan, rfl, _⟩; rfl)) pu_plan_value
theorem ex_plan_value {t1 t2 t3 : TE} {m : Lrx8.Model} {plan : List Nat} (hm : MOk m) (h1 : ED K A.c t1 δ (encM m)) (h2 : ED K A.c t2 δ (encT (tabP m))) (h3 : ED K A.c t3 δ (encNs plan)) :
    EX K A.c A.ce (tCall (spP K A.c A.ce R_plan_value) [] E (tCons t1 (tCons t2 (tCons t3 tNil)))) E δ ((pvO m plan).map encV) :=
  ex_call (ds := [encM m, encT (tabP m), encNs plan]) (ad_cons h1 (ad_cons h2 (ad_cons h3 ad_nil))) ⟨m, plan, rfl, hm, rfl⟩
theorem pvO_ok {m : Lrx8.Model} {plan : List Nat} {v : Vl} (hm : MOk m) (h : pvO m plan = .ok v) : isPlanP m plan = true ∧ valO (tabP m) plan = some v ∧ Sz 2200 v.2 ∧ Full (tabP m) plan := by
  unfold pvO at h
  by_cases q : isPlanP m plan = true
  · rw [if_pos q] at h
    cases e : valO (tabP m) plan with
    | none =>
      rw [e] at h
      cases h
    | some u =>
      rw [e] at h
      cases h
      refine ⟨q, rfl, valO_sz (tabP_ok hm) e, ?_, fun z hz => ?_⟩
      · unfold tabP
        rw [List.length_map]
        exact (isPlanP_in q).1
      · have hlt := isPlan_planIn q z hz
        cases e2 : z.1[z.2]? with
        | none => rw [List.getElem?_eq_none_iff] at e2; omega
        | some r =>
          cases r with
          | some v => exact ⟨v, rfl⟩
          | none =>
            unfold valO at e
            rw [if_pos] at e
            · cases e
            · rw [List.any_eq_true]
              refine ⟨none, ?_, rfl⟩
              unfold ents
              refine List.mem_map.mpr ⟨z, hz, ?_⟩
              rw [List.getD_eq_getElem?_getD, e2]
              rfl
  · rw [if_neg q] at h
    cases h

/-! ### evaluate -/
def q12 (m : Lrx8.Model) (ns : List Nat) (ls : List (List Nat)) : Except Int (List Int) := match ls with
  | [plan] => (pvO m plan).map fun v => [(v.1 : Int)] ++ rI v.2 ++ [if feas v (tgt m) = true then 1 else 0]
  | _ => .ok []
theorem map_bind {α β γ : Type} (r : Except Int α) (f : α → β) (g : α → γ) (k : β → Except Int γ) (h : ∀ a, r = .ok a → k (f a) = .ok (g a)) : (r.map f).bind k = r.map g := by
  cases r with
  | ok a => exact h a rfl
  | error c => rfl
theorem pu_evaluate (T : Cst K mg A) (vs : List V) (H : Hp) (Q : VK) (E : XK) (hsp : spP K A.c A.ce (R_q q12 0 1) vs H Q E) :
    t_evaluate K A (spP K A.c A.ce R_plan_value) (spP K A.c A.ce R_table_of) (spP K A.c A.ce R_is_feasible) E { nx := fun _ H' => Q .non H', rt := Q } (L2.start ["model", "given", "value"] vs) H :=
  pure_of (k := 1) (by
    rintro ds r ⟨m, ns, ls, rfl, hm, h1, h2, _, rfl⟩
    obtain ⟨plan, rfl⟩ := len1 h2
    obtain rfl := len0 h1
    refine ⟨rfl, _, fit_outOf _, ?_⟩
    refine (sd_asgX (r := (pvO m plan).map encV) (f := fun _ => exI (q12 m [] [plan])) (ex_plan_value hm (ed_var rfl) (ed_table hm (ed_var rfl)) (ed_op (ed_var (d := given [] [plan]) rfl) ed_int (rd_ix_l rfl))) fun d hd => ?_).out ?_
    · cases e : pvO m plan with
      | error c =>
        rw [e] at hd
        cases hd
      | ok v =>
        rw [e] at hd
        cases hd
        obtain ⟨_, _, zv, _⟩ := pvO_ok hm e
        refine ⟨_, _, gd_name, ?_⟩
        have e2 : exI (q12 m [] [plan]) = .ok (encIs ([(v.1 : Int)] ++ rI v.2 ++ [if feas v (tgt m) = true then 1 else 0])) := by
          unfold q12
          dsimp only
          rw [e]
          rfl
        rw [e2]
        exact sd_ret (ed_op (ed_op (ed_lst (ds := [.int v.1]) (ad_cons (ed_op (ed_var (d := encV v) rfl) ed_int (rd_ix_t rfl)) ad_nil) (Nat.le_of_ble_eq_true rfl)) (ed_cb (ds := [rq v.2]) (ad_cons (ed_op (ed_var (d := encV v) rfl) ed_int (rd_ix_t rfl)) ad_nil) cd_list) (rd_catA (Nat.le_of_ble_eq_true rfl)))
          (ed_lst (ds := [.int (if feas v (tgt m) = true then 1 else 0)]) (ad_cons (ed_cb (ds := [.bl (feas v (tgt m))]) (ad_cons (ed_call (ds := [encV v, rq (tgt m)]) (ad_cons (ed_var rfl) (ad_cons (ed_tgt T hm (ed_var rfl)) ad_nil)) ⟨v, _, rfl, zv, hm.target.2, rfl⟩) ad_nil) cd_intB) ad_nil) (Nat.le_of_ble_eq_true rfl)) (rd_catA (Nat.le_of_ble_eq_true rfl)))
    · show _ = exI (q12 m [] [plan])
      unfold q12
      dsimp only
      cases pvO m plan <;> rfl) hsp
theorem pr_evaluate (T : Txt K mg A) : CalX P w K mg base 9 "evaluate" (spP K A.c A.ce (R_q q12 0 1)) := cal_evaluate T (pr_plan_value T) (pr_table_of T) (pr_is_feasible T) (spP_len q_len) (pu_evaluate T.toCst)

/-! ### shown -/
def shL (x : Vp) : List Int := [(x.1.1 : Int)] ++ rI x.1.2 ++ x.2.map fun n : Nat => (n : Int)
def shE (o : Option Vp) : Except Int (List Int) := match o with
  | none => .error (-33)
  | some x => .ok (shL x)
def R_shown (ds : List D) (r : Except Int D) : Prop := ∃ o : Option Vp, ds = [encOp o] ∧ (∀ x, o = some x → x.2.length ≤ 1000) ∧ r = exI (shE o)
theorem pu_shown (vs : List V) (H : Hp) (Q : VK) (E : XK) (hsp : spP K A.c A.ce R_shown vs H Q E) :
    t_shown K A (spP K A.c A.ce R_need) E { nx := fun _ H' => Q .non H', rt := Q } (L2.start ["found", "value", "plan"] vs) H :=
  pure_of (k := 2) (by
    rintro ds r ⟨o, rfl, hl, rfl⟩
    refine ⟨rfl, _, fit_outOf _, ?_⟩
    refine (sd_need (b := !isNon (encOp o)) (r := exI (shE o)) (ed_op (ed_var (d := encOp o) rfl) ed_non rd_notN) fun q => ?_).out ?_
    · cases o with
      | none => cases q
      | some x =>
        have hl := hl x rfl
        refine sd_seq (sd_asg (ed_var (d := encVp x) rfl) gd_pair) ?_
        refine (sd_ret ((ed_op (ed_op (ed_lst (ds := [.int x.1.1]) (ad_cons (ed_op (ed_var (d := encV x.1) rfl) ed_int (rd_ix_t rfl)) ad_nil) (Nat.le_of_ble_eq_true rfl)) (ed_cb (ds := [rq x.1.2]) (ad_cons (ed_op (ed_var (d := encV x.1) rfl) ed_int (rd_ix_t rfl)) ad_nil) cd_list) (rd_catA (Nat.le_of_ble_eq_true rfl))) (ed_var (d := encNs x.2) rfl) (rd_catA ?_)).is (d' := encIs (shL x)) ?_))
        · rw [List.length_map]
          show 3 + _ ≤ _
          omega
        · unfold encIs shL
          rw [List.map_append, ints_nat]
          rfl
    · cases o <;> rfl) hsp
theorem pr_shown (T : Txt K mg A) : CalX P w K mg base 4 "shown" (spP K A.c A.ce R_shown) := cal_shown T (pr_need T) (spP_len (by rintro ds r ⟨o, rfl, _⟩; rfl)) pu_shown
theorem best_mem {t : List (List Row)} {tg : Rat} : ∀ (ps : List (List Nat)) (b : Option Vp) (x : Vp), ps.foldl (bestS t tg) b = some x → b = some x ∨ x.2 ∈ ps
  | [], b, x, e => .inl e
  | p :: ps, b, x, e => by
    rcases best_mem ps _ x e with h | h
    · unfold bestS at h
      split at h
      · exact .inl h
      · split at h
        · split at h
          · cases h
            exact .inr (by simp)
          · exact .inl h
        · split at h
          · cases h
            exact .inr (by simp)
          · exact .inl h
    · exact .inr (by simp [h])
theorem bestOf_mem {t : List (List Row)} {tg : Rat} {ps : List (List Nat)} {x : Vp} (h : bestOf t ps tg = some x) : x.2 ∈ ps := (best_mem ps none x h).elim (fun z => by cases z) id
theorem full_short {t : List (List Row)} (ht : TabOk t) {p : List Nat} (h : Full t p) : p.length ≤ 1000 := by
  have := ht.1
  have := h.1
  omega
def qBest (m : Lrx8.Model) (tg : Rat) : Except Int (List Int) := shE (bestOf (tabP m) (plansP (tabP m)) tg)
def q13 (m : Lrx8.Model) (ns : List Nat) (ls : List (List Nat)) : Except Int (List Int) := qBest m (tgt m)
theorem ex_best {t1 t2 : TE} {m : Lrx8.Model} {tg : Rat} (hm : MOk m) (hg : Sz 20 tg) (h1 : ED K A.c t1 δ (encT (tabP m))) (h2 : ED K A.c t2 δ (rq tg)) :
    EX K A.c A.ce (tCall (spP K A.c A.ce R_shown) [] E (tCons (tCall (spP K A.c A.ce R_best_plan) [] E0 (tCons t1 (tCons t2 tNil))) tNil)) E δ (exI (qBest m tg)) :=
  ex_call (ds := [encOp (bestOf (tabP m) (plansP (tabP m)) tg)]) (ad_cons (ed_call (ds := [encT (tabP m), rq tg]) (ad_cons h1 (ad_cons h2 ad_nil)) ⟨_, tg, rfl, tabP_ok hm, hg, rfl⟩) ad_nil) ⟨_, rfl, fun x hx => full_short (tabP_ok hm) (plansP_full _ _ (bestOf_mem hx)), rfl⟩
theorem pu_ask_best (T : Cst K mg A) (vs : List V) (H : Hp) (Q : VK) (E : XK) (hsp : spP K A.c A.ce (R_q q13 0 0) vs H Q E) :
    t_ask_best K A (spP K A.c A.ce R_shown) (spP K A.c A.ce R_best_plan) (spP K A.c A.ce R_table_of) E { nx := fun _ H' => Q .non H', rt := Q } (L2.start ["model", "given"] vs) H :=
  pure_of (k := 0) (by
    rintro ds r ⟨m, ns, ls, rfl, hm, h1, h2, _, rfl⟩
    obtain rfl := len0 h1
    obtain rfl := len0 h2
    refine ⟨rfl, _, fit_outOf _, ?_⟩
    exact sd_retX (ex_best hm hm.target.2 (ed_table hm (ed_var rfl)) (ed_tgt T hm (ed_var rfl)))) hsp
theorem pr_ask_best (T : Txt K mg A) : CalX P w K mg base 9 "ask_best" (spP K A.c A.ce (R_q q13 0 0)) := cal_ask_best T (pr_shown T) (pr_best_plan T) (pr_table_of T) (spP_len q_len) (pu_ask_best T.toCst)
def q14 (m : Lrx8.Model) (ns : List Nat) (ls : List (List Nat)) : Except Int (List Int) := match ns with
  | [n, d] => (frR n d).bind (qBest m)
  | _ => .ok []
theorem ex_fraction {t1 t2 : TE} {n d : Nat} (h1 : ED K A.c t1 δ (encN n)) (h2 : ED K A.c t2 δ (encN d)) : EX K A.c A.ce (tCall (spP K A.c A.ce R_fraction_in) [] E (tCons t1 (tCons t2 tNil))) E δ ((frR n d).map rq) :=
  ex_call (ds := [encN n, encN d]) (ad_cons h1 (ad_cons h2 ad_nil)) ⟨n, d, rfl, rfl⟩
theorem pu_best_for (T : Cst K mg A) (vs : List V) (H : Hp) (Q : VK) (E : XK) (hsp : spP K A.c A.ce (R_q q14 2 0) vs H Q E) :
    t_best_for K A (spP K A.c A.ce R_fraction_in) (spP K A.c A.ce R_shown) (spP K A.c A.ce R_best_plan) (spP K A.c A.ce R_table_of) E { nx := fun _ H' => Q .non H', rt := Q } (L2.start ["model", "given", "target"] vs) H :=
  pure_of (k := 1) (by
    rintro ds r ⟨m, ns, ls, rfl, hm, h1, h2, _, rfl⟩
    obtain ⟨n, d, rfl⟩ := len2 h1
    obtain rfl := len0 h2
    refine ⟨rfl, _, fit_outOf _, ?_⟩
    refine (sd_asgX (r := (frR n d).map rq) (f := fun _ => exI (q14 m [n, d] [])) (ex_fraction (ed_op (ed_var (d := given [n, d] []) rfl) ed_int (rd_ix_l rfl)) (ed_op (ed_var (d := given [n, d] []) rfl) ed_int (rd_ix_l rfl))) fun x hx => ?_).out ?_
    · cases e : frR n d with
      | error c =>
        rw [e] at hx
        cases hx
      | ok tg =>
        rw [e] at hx
        cases hx
        refine ⟨_, _, gd_name, ?_⟩
        have e2 : exI (q14 m [n, d] []) = exI (qBest m tg) := by
          unfold q14
          dsimp only
          rw [e]
          rfl
        rw [e2]
        exact sd_retX (ex_best hm (frR_sz e).2 (ed_table hm (ed_var rfl)) (ed_var rfl))
    · show _ = exI (q14 m [n, d] [])
      unfold q14
      dsimp only
      cases frR n d <;> rfl) hsp
theorem pr_best_for (T : Txt K mg A) : CalX P w K mg base 9 "best_for" (spP K A.c A.ce (R_q q14 2 0)) := cal_best_for T (pr_fraction_in T) (pr_shown T) (pr_best_plan T) (pr_table_of T) (spP_len q_len) (pu_best_for T.toCst)
end
end Pd

/-! ## Pu10 -/
set_option Elab.async false
set_option linter.all false
set_option maxRecDepth 100000
set_option maxHeartbeats 2000000
set_option autoImplicit false
/-! The operations that only ask, third part. -/
namespace Pd
open PySem PySem.Spec PyProof.Rows L2 Mt
local macro_rules | `(tactic| walk_at "ed") => `(tactic| repeat' (first
  | exact ed_var rfl | exact ed_int | exact ed_bl | exact ed_non
  | exact rd_num | exact rd_den | exact rd_addA | exact rd_I0 | exact rd_B0 | exact rd_eqI | exact rd_neI | exact rd_isN | exact rd_notN
  | exact rd_ix_t rfl
  | apply rd_I
  | apply ed_op
  | exact ad_nil | apply ad_cons
  | apply td_test | apply td_B | apply td_not
  | assumption))
section
variable {K : PySem.W.Frag} {C : Nat → Addr} {CE : Addr} {mg : Str → Option Value} {A : Ad} {P : Program} {w : World} {base : Heap} {δ : List Sd} {te tb : TE} {E : XK} {d : D} {ds : List D} {c : Int}
/-! ### ask_frontier -/
def frL (l : List Vp) : List Int := (l.length : Int) :: l.flatMap shL
def q15 (m : Lrx8.Model) (ns : List Nat) (ls : List (List Nat)) : Except Int (List Int) := .ok (frL (frP (tabP m)))
theorem frP_plan {t : List (List Row)} {x : Vp} (h : x ∈ frP t) : x.2 ∈ plansP t := by
  have h1 := frP_mem _ x h
  have h2 := (stC_perm (fun x : Vp => x.1.1) (rowsV t)).mem_iff.mp h1
  obtain ⟨p, hp, rfl⟩ := List.mem_map.mp h2
  exact hp
theorem shL_len (x : Vp) : (shL x).length = 3 + x.2.length := by
  unfold shL rI
  simp
  omega
theorem flat_shL_len : ∀ (l : List Vp), (∀ x ∈ l, x.2.length ≤ 4) → (l.flatMap shL).length ≤ l.length * 7 := fun l h => flat_len l fun x hx => by
  rw [shL_len]
  have := h x hx
  omega
theorem pu_ask_frontier (T : Cst K mg A) (vs : List V) (H : Hp) (Q : VK) (E : XK) (hsp : spP K A.c A.ce (R_q q15 0 0) vs H Q E) :
    t_ask_frontier K A (spP K A.c A.ce R_frontier) (spP K A.c A.ce R_table_of) (spP K A.c A.ce R_shown) { nx := fun _ H' => Q .non H', rt := Q } (L2.start ["model", "given", "rows", "found", "row"] vs) H :=
  pure_of (k := 3) (by
    rintro ds r ⟨m, ns, ls, rfl, hm, h1, h2, _, rfl⟩
    obtain rfl := len0 h1
    obtain rfl := len0 h2
    refine ⟨rfl, _, fit_outOf _, ?_⟩
    have ht := tabP_ok hm
    have hfl : (frP (tabP m)).length ≤ 1296 := by
      have k1 := frP_len (bycP (tabP m))
      have k2 := bycP_len ht
      unfold frP
      omega
    have hsh : ∀ x ∈ frP (tabP m), x.2.length ≤ 4 := fun x hx => by
      have k1 := (plansP_full _ _ (frP_plan hx)).1
      have k2 := ht.1
      omega
    refine sd_seq (sd_set (ed_call (d := encVps (frP (tabP m))) (ds := [encT (tabP m)]) (ad_cons (ed_table hm (ed_var rfl)) ad_nil) ⟨_, rfl, ht, rfl⟩)) ?_
    unfold q15 frL
    generalize frP (tabP m) = l at *
    refine sd_seq (sd_setO (el_lst (ds := [.int l.length]) (ad_cons (ed_lenM (enc := encVp) (ed_var rfl)) ad_nil) (Nat.le_of_ble_eq_true rfl))) ?_
    refine sd_seq (sd_forP (ts := [4]) encVp l (fun pre => [.dat (encM m), .dat (given [] []), .dat (encVps l), .own (((l.length : Int) :: pre.flatMap shL).map .int), .any]) (wd_list (ed_var rfl)) (Sle.refl _) ?_) (sd_freeze 3 rfl (sd_ret (ed_var rfl)))
    rintro pre x ⟨post, e⟩
    refine ⟨_, gd_name, ?_⟩
    have hx : x.2.length ≤ 4 := hsh x (by rw [e]; simp)
    have hp : (pre.flatMap shL).length ≤ pre.length * 7 := flat_shL_len pre fun y hy => hsh y (by rw [e]; exact List.mem_append_left _ hy)
    have hpl : pre.length ≤ 1296 := by
      rw [e, List.length_append] at hfl
      omega
    refine ((sd_extend rfl (ed_call (d := encIs (shL x)) (ds := [encOp (some x)]) (ad_cons (ed_var (d := encVp x) rfl) ad_nil) ⟨some x, rfl, fun y hy => by cases hy; omega, rfl⟩) ?_).is (by
      rw [← List.map_append, List.flatMap_append, List.flatMap_singleton]
      rfl)).weak (.same (.same (.same (.same (.any .nil)))))
    rw [List.length_map, List.length_map, List.length_cons, shL_len]
    omega) hsp
theorem pr_ask_frontier (T : Txt K mg A) : Cal0 P w K mg base 9 "ask_frontier" (spP K A.c A.ce (R_q q15 0 0)) := cal_ask_frontier T (pr_frontier T) (pr_table_of T) (pr_shown T) (spP_len q_len) (pu_ask_frontier T.toCst)

/-! ### ask_counts -/
def q16 (m : Lrx8.Model) (ns : List Nat) (ls : List (List Nat)) : Except Int (List Int) :=
  .ok [((plansP (tabP m)).length : Int), (((plansP (tabP m)).filter fun p => feas (valD (tabP m) p) (tgt m)).length : Int)]
theorem pu_ask_counts (T : Cst K mg A) (vs : List V) (H : Hp) (Q : VK) (E : XK) (hsp : spP K A.c A.ce (R_q q16 0 0) vs H Q E) :
    t_ask_counts K A (spP K A.c A.ce R_counted) (spP K A.c A.ce R_table_of) { nx := fun _ H' => Q .non H', rt := Q } (L2.start ["model", "given"] vs) H :=
  pure_of (k := 0) (by
    rintro ds r ⟨m, ns, ls, rfl, hm, h1, h2, _, rfl⟩
    obtain rfl := len0 h1
    obtain rfl := len0 h2
    refine ⟨rfl, _, fit_outOf _, ?_⟩
    exact sd_ret (ed_call (ds := [encT (tabP m), rq (tgt m)]) (ad_cons (ed_table hm (ed_var rfl)) (ad_cons (ed_tgt T hm (ed_var rfl)) ad_nil)) ⟨_, _, rfl, tabP_ok hm, hm.target.2, rfl⟩)) hsp
theorem pr_ask_counts (T : Txt K mg A) : Cal0 P w K mg base 9 "ask_counts" (spP K A.c A.ce (R_q q16 0 0)) := cal_ask_counts T (pr_counted T) (pr_table_of T) (spP_len q_len) (pu_ask_counts T.toCst)

/-! ### ask_bound -/
def q17 (m : Lrx8.Model) (ns : List Nat) (ls : List (List Nat)) : Except Int (List Int) := match ns with
  | [n, d] => (frR n d).bind fun μ => if hasAll (tabP m) = true then .ok ([0] ++ rI (boundR (tabP m) (tgt m) μ)) else .error (-33)
  | _ => .ok []
theorem pu_ask_bound (T : Cst K mg A) (vs : List V) (H : Hp) (Q : VK) (E : XK) (hsp : spP K A.c A.ce (R_q q17 2 0) vs H Q E) :
    t_ask_bound K A (spP K A.c A.ce R_need) (spP K A.c A.ce R_fraction_in) (spP K A.c A.ce R_table_of) (spP K A.c A.ce R_has_all) (spP K A.c A.ce R_bound_for) E { nx := fun _ H' => Q .non H', rt := Q } (L2.start ["model", "given", "multiplier", "table"] vs) H :=
  pure_of (k := 2) (by
    rintro ds r ⟨m, ns, ls, rfl, hm, h1, h2, _, rfl⟩
    obtain ⟨n, d, rfl⟩ := len2 h1
    obtain rfl := len0 h2
    refine ⟨rfl, _, fit_outOf _, ?_⟩
    have hx : EX K A.c A.ce (tCall (spP K A.c A.ce R_fraction_in) [] E (tCons (tOp (rIx K) (tVar 1) (tC (.int 0))) (tCons (tOp (rIx K) (tVar 1) (tC (.int 1))) tNil))) E [.dat (encM m), .dat (given [n, d] []), .any, .any] ((frR n d).map rq) := ex_fraction (ed_op (ed_var (d := given [n, d] []) rfl) ed_int (rd_ix_l rfl)) (ed_op (ed_var (d := given [n, d] []) rfl) ed_int (rd_ix_l rfl))
    have e2 : exI (q17 m [n, d] []) = exI ((frR n d).bind fun μ => if hasAll (tabP m) = true then .ok ([0] ++ rI (boundR (tabP m) (tgt m) μ)) else .error (-33)) := rfl
    rw [e2]
    cases e : frR n d with
    | error c =>
      rw [e] at hx
      exact sd_seq_rs (sd_par_e (ar_head hx))
    | ok μ =>
      rw [e] at hx
      refine sd_seq (sd_par (x := rq μ) (y := encT (tabP m)) (ad_cons hx (ad_cons (ed_table hm (ed_var rfl)) ad_nil))) ?_
      refine (sd_need (b := hasAll (tabP m)) (r := .ok (encIs ([0] ++ rI (boundR (tabP m) (tgt m) μ)))) (ed_call (ds := [encT (tabP m)]) (ad_cons (ed_var rfl) ad_nil) ⟨_, rfl, tabP_ok hm, rfl⟩) fun q => ?_).out ?_
      · exact sd_ret (ed_op (ed_lst (ds := [.int 0]) (by walk_at "ed") (Nat.le_of_ble_eq_true rfl)) (ed_cb (ds := [rq (boundR (tabP m) (tgt m) μ)]) (ad_cons (ed_call (ds := [encT (tabP m), rq (tgt m), rq μ]) (ad_cons (ed_var rfl) (ad_cons (ed_tgt T hm (ed_var rfl)) (ad_cons (ed_var rfl) ad_nil))) ⟨_, _, μ, rfl, tabP_ok hm, hm.target.2, (frR_sz e).2.mono (by decide), q, rfl⟩) ad_nil) cd_list) (rd_catA (Nat.le_of_ble_eq_true rfl)))
      · show _ = exI (if hasAll (tabP m) = true then .ok ([0] ++ rI (boundR (tabP m) (tgt m) μ)) else .error (-33))
        split <;> rfl) hsp
theorem pr_ask_bound (T : Txt K mg A) : CalX P w K mg base 9 "ask_bound" (spP K A.c A.ce (R_q q17 2 0)) := cal_ask_bound T (pr_need T) (pr_fraction_in T) (pr_table_of T) (pr_has_all T) (pr_bound_for T) (spP_len q_len) (pu_ask_bound T.toCst)

/-! ### ask_best_bound -/
theorem bb_some (t : List (List Row)) (tg : Rat) : ∀ (l : List Rat) (b : Rat × Rat), ∃ x, l.foldl (bbS t tg) (some b) = some x
  | [], b => ⟨b, rfl⟩
  | μ :: l, b => by
    show ∃ x, l.foldl (bbS t tg) (bbS t tg (some b) μ) = some x
    unfold bbS
    dsimp only
    split <;> exact bb_some t tg l _
theorem bestB_some (t : List (List Row)) (tg : Rat) : ∃ x, bestB t tg = some x := bb_some t tg (t.flatMap bpts) _
def bbL (x : Rat × Rat) : List Int := [0] ++ rI x.1 ++ rI x.2
def q18 (m : Lrx8.Model) (ns : List Nat) (ls : List (List Nat)) : Except Int (List Int) :=
  if hasAll (tabP m) = true then .ok (bbL ((bestB (tabP m) (tgt m)).getD (0, 0))) else .error (-33)
theorem pu_ask_best_bound (T : Cst K mg A) (vs : List V) (H : Hp) (Q : VK) (E : XK) (hsp : spP K A.c A.ce (R_q q18 0 0) vs H Q E) :
    t_ask_best_bound K A (spP K A.c A.ce R_table_of) (spP K A.c A.ce R_need) (spP K A.c A.ce R_best_bound) (spP K A.c A.ce R_has_all) E { nx := fun _ H' => Q .non H', rt := Q } (L2.start ["model", "given", "table", "point", "bound"] vs) H :=
  pure_of (k := 3) (by
    rintro ds r ⟨m, ns, ls, rfl, hm, h1, h2, _, rfl⟩
    obtain rfl := len0 h1
    obtain rfl := len0 h2
    refine ⟨rfl, _, fit_outOf _, ?_⟩
    refine sd_seq (sd_set (ed_table hm (ed_var rfl))) ?_
    obtain ⟨x, hx⟩ := bestB_some (tabP m) (tgt m)
    refine (sd_need (b := hasAll (tabP m)) (r := .ok (encIs (bbL x))) (ed_call (ds := [encT (tabP m)]) (ad_cons (ed_var rfl) ad_nil) ⟨_, rfl, tabP_ok hm, rfl⟩) fun q => ?_).out ?_
    · refine sd_seq (sd_asg (ed_call (d := encP (some x)) (ds := [encT (tabP m), rq (tgt m)]) (ad_cons (ed_var rfl) (ad_cons (ed_tgt T hm (ed_var rfl)) ad_nil)) ⟨_, _, rfl, tabP_ok hm, hm.target.2, q, by rw [hx]⟩) gd_pair) ?_
      exact sd_ret (ed_op (ed_op (ed_lst (ds := [.int 0]) (by walk_at "ed") (Nat.le_of_ble_eq_true rfl)) (ed_cb (ds := [rq x.1]) (ad_cons (ed_var rfl) ad_nil) cd_list) (rd_catA (Nat.le_of_ble_eq_true rfl))) (ed_cb (ds := [rq x.2]) (ad_cons (ed_var rfl) ad_nil) cd_list) (rd_catA (Nat.le_of_ble_eq_true rfl)))
    · unfold q18
      rw [hx]
      split <;> rfl) hsp
theorem pr_ask_best_bound (T : Txt K mg A) : CalX P w K mg base 9 "ask_best_bound" (spP K A.c A.ce (R_q q18 0 0)) := cal_ask_best_bound T (pr_table_of T) (pr_need T) (pr_best_bound T) (pr_has_all T) (spP_len q_len) (pu_ask_best_bound T.toCst)

/-! ### improvement -/
def q19 (m : Lrx8.Model) (ns : List Nat) (ls : List (List Nat)) : Except Int (List Int) := match ls with
  | [plan] => (pvO m plan).bind fun _ => shE (impP (tabP m) plan (tgt m))
  | _ => .ok []
theorem impP_mem {t : List (List Row)} {plan : List Nat} {tg : Rat} {x : Vp} (h : impP t plan tg = some x) : x.2 ∈ chgP t plan := by
  unfold impP at h
  split at h
  · cases h
  · rename_i y hy
    split at h
    · cases h
    · cases h
      exact bestOf_mem hy
theorem pu_improvement (T : Cst K mg A) (vs : List V) (H : Hp) (Q : VK) (E : XK) (hsp : spP K A.c A.ce (R_q q19 0 1) vs H Q E) :
    t_improvement K A (spP K A.c A.ce R_table_of) (spP K A.c A.ce R_plan_value) (spP K A.c A.ce R_shown) (spP K A.c A.ce R_improved) E { nx := fun _ H' => Q .non H', rt := Q } (L2.start ["model", "given", "table"] vs) H :=
  pure_of (k := 1) (by
    rintro ds r ⟨m, ns, ls, rfl, hm, h1, h2, _, rfl⟩
    obtain ⟨plan, rfl⟩ := len1 h2
    obtain rfl := len0 h1
    refine ⟨rfl, _, fit_outOf _, ?_⟩
    refine sd_seq (sd_set (ed_table hm (ed_var rfl))) ?_
    refine (sd_dropX (r := (pvO m plan).map encV) (f := exI (shE (impP (tabP m) plan (tgt m)))) (ex_plan_value hm (ed_var rfl) (ed_var rfl) (ed_op (ed_var (d := given [] [plan]) rfl) ed_int (rd_ix_l rfl))) fun d hd => ?_).out ?_
    · cases e : pvO m plan with
      | error c =>
        rw [e] at hd
        cases hd
      | ok v =>
        obtain ⟨_, _, _, hF⟩ := pvO_ok hm e
        exact sd_retX (ex_call (ds := [encOp (impP (tabP m) plan (tgt m))]) (ad_cons (ed_call (ds := [encT (tabP m), encNs plan, rq (tgt m)]) (ad_cons (ed_var rfl) (ad_cons (ed_op (ed_var (d := given [] [plan]) rfl) ed_int (rd_ix_l rfl)) (ad_cons (ed_tgt T hm (ed_var rfl)) ad_nil))) ⟨_, plan, _, rfl, tabP_ok hm, hF, hm.target.2, rfl⟩) ad_nil) ⟨_, rfl, fun x hx => full_short (tabP_ok hm) (chgP_full hF _ (impP_mem hx)), rfl⟩)
    · show _ = exI ((pvO m plan).bind fun _ => shE (impP (tabP m) plan (tgt m)))
      cases pvO m plan <;> rfl) hsp
theorem pr_improvement (T : Txt K mg A) : CalX P w K mg base 9 "improvement" (spP K A.c A.ce (R_q q19 0 1)) := cal_improvement T (pr_table_of T) (pr_plan_value T) (pr_shown T) (pr_improved T) (spP_len q_len) (pu_improvement T.toCst)

/-! ### reserve -/
def q20 (m : Lrx8.Model) (ns : List Nat) (ls : List (List Nat)) : Except Int (List Int) := match ls with
  | [plan] => if isPlanP m plan = true then if nowP m plan = true then match resP m plan with
      | none => .error (-33)
      | some p => .ok [(p : Int)] else .error (-33) else .error (-22)
  | _ => .ok []
theorem pu_reserve (T : Cst K mg A) (vs : List V) (H : Hp) (Q : VK) (E : XK) (hsp : spP K A.c A.ce (R_q q20 0 1) vs H Q E) :
    t_reserve K A (spP K A.c A.ce R_need) (spP K A.c A.ce R_reserve_of) (spP K A.c A.ce R_is_plan) (spP K A.c A.ce R_is_allowed_now) E { nx := fun _ H' => Q .non H', rt := Q } (L2.start ["model", "given", "percent"] vs) H :=
  pure_of (k := 1) (by
    rintro ds r ⟨m, ns, ls, rfl, hm, h1, h2, _, rfl⟩
    obtain ⟨plan, rfl⟩ := len1 h2
    obtain rfl := len0 h1
    refine ⟨rfl, _, fit_outOf _, ?_⟩
    refine (sd_need (b := isPlanP m plan) (r := exI (if nowP m plan = true then (match resP m plan with | none => .error (-33) | some p => .ok [(p : Int)]) else .error (-33))) (ed_call (ds := [encM m, encNs plan]) (ad_cons (ed_var rfl) (ad_cons (ed_op (ed_var (d := given [] [plan]) rfl) ed_int (rd_ix_l rfl)) ad_nil)) ⟨m, plan, rfl, hm, rfl⟩) fun q => ?_).out ?_
    · refine (sd_need (b := nowP m plan) (r := exI (match resP m plan with | none => .error (-33) | some p => .ok [(p : Int)])) (ed_call (ds := [encM m, encNs plan]) (ad_cons (ed_var rfl) (ad_cons (ed_op (ed_var (d := given [] [plan]) rfl) ed_int (rd_ix_l rfl)) ad_nil)) ⟨m, plan, rfl, hm, q, rfl⟩) fun q2 => ?_).out ?_
      · refine sd_seq (sd_set (ed_call (d := encOn (resP m plan)) (ds := [encM m, encNs plan]) (ad_cons (ed_var rfl) (ad_cons (ed_op (ed_var (d := given [] [plan]) rfl) ed_int (rd_ix_l rfl)) ad_nil)) ⟨m, plan, rfl, hm, q, rfl⟩)) ?_
        refine (sd_need (b := !isNon (encOn (resP m plan))) (r := .ok (.lst [encOn (resP m plan)])) (ed_op (ed_var (d := encOn (resP m plan)) rfl) ed_non rd_notN) fun q3 => sd_ret (ed_lst (ad_cons (ed_var rfl) ad_nil) (Nat.le_of_ble_eq_true rfl))).out ?_
        cases resP m plan <;> rfl
      · split <;> rfl
    · show _ = exI (if isPlanP m plan = true then _ else _)
      split <;> rfl) hsp
theorem pr_reserve (T : Txt K mg A) : CalX P w K mg base 9 "reserve" (spP K A.c A.ce (R_q q20 0 1)) := cal_reserve T (pr_need T) (pr_reserve_of T) (pr_is_plan T) (pr_is_allowed_now T) (spP_len q_len) (pu_reserve T.toCst)

/-! ### compare_plans -/
def cmpL (a b : Vl) : List Int := [if domV a b = true then 1 else if domV b a = true then 2 else 0, (b.1 : Int) - (a.1 : Int)] ++ rI (b.2 - a.2)
def q21 (m : Lrx8.Model) (ns : List Nat) (ls : List (List Nat)) : Except Int (List Int) := match ls with
  | [a, b] => if (isPlanP m a && isPlanP m b) = true then (pvO m a).bind fun x => (pvO m b).map (cmpL x) else .error (-22)
  | _ => .ok []
theorem pu_compare_plans (T : Cst K mg A) (vs : List V) (H : Hp) (Q : VK) (E : XK) (hsp : spP K A.c A.ce (R_q q21 0 2) vs H Q E) :
    t_compare_plans K A (spP K A.c A.ce R_need) (spP K A.c A.ce R_table_of) (spP K A.c A.ce R_plan_value) (spP K A.c A.ce R_dominates) (spP K A.c A.ce R_is_plan) (spP K A.c A.ce R_minus) E { nx := fun _ H' => Q .non H', rt := Q } (L2.start ["model", "given", "table", "first", "second", "result"] vs) H :=
  pure_of (k := 4) (by
    rintro ds r ⟨m, ns, ls, rfl, hm, h1, h2, _, rfl⟩
    obtain ⟨a, b, rfl⟩ := len2 h2
    obtain rfl := len0 h1
    refine ⟨rfl, _, fit_outOf _, ?_⟩
    refine (sd_need (b := isPlanP m a && isPlanP m b) (r := exI ((pvO m a).bind fun x => (pvO m b).map (cmpL x))) (ed_andV (ed_call (ds := [encM m, encNs a]) (ad_cons (ed_var rfl) (ad_cons (ed_op (ed_var (d := given [] [a, b]) rfl) ed_int (rd_ix_l rfl)) ad_nil)) ⟨m, a, rfl, hm, rfl⟩) fun _ => ed_call (ds := [encM m, encNs b]) (ad_cons (ed_var rfl) (ad_cons (ed_op (ed_var (d := given [] [a, b]) rfl) ed_int (rd_ix_l rfl)) ad_nil)) ⟨m, b, rfl, hm, rfl⟩) fun q => ?_).out ?_
    · refine sd_seq (sd_set (ed_table hm (ed_var rfl))) ?_
      have xa : EX K A.c A.ce (tCall (spP K A.c A.ce R_plan_value) [] E (tCons (tVar 0) (tCons (tVar 2) (tCons (tOp (rIx K) (tVar 1) (tC (.int 0))) tNil)))) E [.dat (encM m), .dat (given [] [a, b]), .dat (encT (tabP m)), .any, .any, .any] ((pvO m a).map encV) := ex_plan_value hm (ed_var rfl) (ed_var rfl) (ed_op (ed_var (d := given [] [a, b]) rfl) ed_int (rd_ix_l rfl))
      have xb : EX K A.c A.ce (tCall (spP K A.c A.ce R_plan_value) [] E (tCons (tVar 0) (tCons (tVar 2) (tCons (tOp (rIx K) (tVar 1) (tC (.int 1))) tNil)))) E [.dat (encM m), .dat (given [] [a, b]), .dat (encT (tabP m)), .any, .any, .any] ((pvO m b).map encV) := ex_plan_value hm (ed_var rfl) (ed_var rfl) (ed_op (ed_var (d := given [] [a, b]) rfl) ed_int (rd_ix_l rfl))
      cases ea : pvO m a with
      | error c =>
        rw [ea] at xa
        exact sd_seq_rs (sd_par_e (ar_head xa))
      | ok va =>
        rw [ea] at xa
        obtain ⟨_, _, za, _⟩ := pvO_ok hm ea
        cases eb : pvO m b with
        | error c =>
          rw [eb] at xb
          exact sd_seq_rs (sd_par_e (ar_tail (d := encV va) xa (ar_head xb)))
        | ok vb =>
          rw [eb] at xb
          obtain ⟨_, _, zb, _⟩ := pvO_ok hm eb
          refine sd_seq (sd_par (x := encV va) (y := encV vb) (ad_cons xa (ad_cons xb ad_nil))) ?_
          refine sd_seq (sd_set (d := .int (if domV va vb = true then 1 else if domV vb va = true then 2 else 0)) (ed_if (b := domV va vb) (td_B (ed_call (ds := [encV va, encV vb]) (by walk_at "ed") ⟨va, vb, _, _, rfl, za, zb, by decide, rfl⟩)) (fun q => ?_) fun q => ed_if (b := domV vb va) (td_B (ed_call (ds := [encV vb, encV va]) (by walk_at "ed") ⟨vb, va, _, _, rfl, zb, za, by decide, rfl⟩)) (fun q2 => ?_) fun q2 => ?_)) ?_
          · rw [if_pos q]
            exact ed_int
          · rw [if_neg (by rw [q]; decide), if_pos q2]
            exact ed_int
          · rw [if_neg (by rw [q]; decide), if_neg (by rw [q2]; decide)]
            exact ed_int
          · exact sd_ret (ed_op (ed_lst (ds := [.int (if domV va vb = true then 1 else if domV vb va = true then 2 else 0), .int ((vb.1 : Int) - (va.1 : Int))]) (ad_cons (ed_var rfl) (ad_cons (ed_op (ed_op (ed_var (d := encV vb) rfl) ed_int (rd_ix_t rfl)) (ed_op (ed_var (d := encV va) rfl) ed_int (rd_ix_t rfl)) rd_I0) ad_nil)) (Nat.le_of_ble_eq_true rfl)) (ed_cb (ds := [rq (vb.2 - va.2)]) (ad_cons (ed_minus (ed_op (ed_var (d := encV vb) rfl) ed_int (rd_ix_t rfl)) (ed_op (ed_var (d := encV va) rfl) ed_int (rd_ix_t rfl)) zb za (by decide)) ad_nil) cd_list) (rd_catA (Nat.le_of_ble_eq_true rfl)))
    · show _ = exI (if (isPlanP m a && isPlanP m b) = true then _ else _)
      split <;> rfl) hsp
theorem pr_compare_plans (T : Txt K mg A) : CalX P w K mg base 9 "compare_plans" (spP K A.c A.ce (R_q q21 0 2)) := cal_compare_plans T (pr_need T) (pr_table_of T) (pr_plan_value T) (pr_dominates T) (pr_is_plan T) (pr_minus T) (spP_len q_len) (pu_compare_plans T.toCst)

/-! ### summary -/
def q22 (m : Lrx8.Model) (ns : List Nat) (ls : List (List Nat)) : Except Int (List Int) :=
  .ok ([(m.stations.length : Int)] ++ rI (tgt m) ++ rI (lim m) ++ m.stations.map fun s => (s.choices.length : Int))
theorem pu_summary (T : Cst K mg A) (vs : List V) (H : Hp) (Q : VK) (E : XK) (hsp : spP K A.c A.ce (R_q q22 0 0) vs H Q E) :
    t_summary K A { nx := fun _ H' => Q .non H', rt := Q } (L2.start ["model", "given", "found", "station"] vs) H :=
  pure_of (k := 2) (by
    rintro ds r ⟨m, ns, ls, rfl, hm, h1, h2, _, rfl⟩
    obtain rfl := len0 h1
    obtain rfl := len0 h2
    refine ⟨rfl, _, fit_outOf _, ?_⟩
    refine sd_seq (sd_set (d := .lst ([.int m.stations.length, .int (tgt m).num, .int (tgt m).den, .int (lim m).num, .int (lim m).den])) (ed_op (ed_op (ed_lst (ds := [.int m.stations.length]) (ad_cons (ed_lenM (enc := encS) (ed_stations T (ed_var (d := encM m) rfl))) ad_nil) (Nat.le_of_ble_eq_true rfl)) (ed_cb (ds := [rq (tgt m)]) (ad_cons (ed_tgt T hm (ed_var rfl)) ad_nil) cd_list) (rd_catA (Nat.le_of_ble_eq_true rfl))) (ed_cb (ds := [rq (lim m)]) (ad_cons (ed_lim T hm (ed_var rfl)) ad_nil) cd_list) (rd_catA (Nat.le_of_ble_eq_true rfl)))) ?_
    have hn := hm.n1
    refine sd_ret ((ed_op (ed_var rfl) (ed_lcA (ts := [3]) encS m.stations (fun s => .int s.choices.length) (wd_list (ed_stations T (ed_var (d := encM m) rfl))) (by simp) ?_ (by omega)) (rd_catA ?_)).is ?_)
    · intro s hs
      exact ⟨_, gd_name, rfl, ed_lenM (enc := encC) (ed_options T (ed_var (d := encS s) rfl))⟩
    · rw [List.length_map]
      show 5 + _ ≤ _
      omega
    · unfold encIs rI
      rw [List.map_append, List.map_map]
      rfl) hsp
theorem pr_summary (T : Txt K mg A) : Cal0 P w K mg base 1 "summary" (spP K A.c A.ce (R_q q22 0 0)) := cal_summary T (spP_len q_len) (pu_summary T.toCst)
end
end Pd

/-! ## Hp1 -/
set_option Elab.async false
set_option linter.all false
set_option maxRecDepth 100000
set_option maxHeartbeats 2000000
set_option autoImplicit false
/-! How the model lies in the heap, and how it changes. -/
namespace Pd
open PySem PySem.Spec PyProof.Rows L2 Mt
section
variable {K : PySem.W.Frag} {A : Ad} {C : Nat → Addr}
def stO (C : Nat → Addr) (dx : Addr) (s : Lrx8.Station) (oa : Addr) : HO := .ins (C 1) dx [("arrival", .int s.arrival), ("weight", .int s.weight), ("options", .ref oa)]
def chO (C : Nat → Addr) (dx : Addr) (c : Lrx8.Choice) : HO := .ins (C 0) dx [("servers", .int c.servers), ("rate", .int c.rate), ("cost", .int c.cost)]
def moO (C : Nat → Addr) (dx ls : Addr) (vt vl : V) : HO := .ins (C 2) dx [("stations", .ref ls), ("target", vt), ("limit", vl)]
def refs (n : Nat) (f : Nat → Addr) : List V := (List.range n).map fun i => .ref (f i)
theorem refs_len (n : Nat) (f : Nat → Addr) : (refs n f).length = n := by unfold refs; simp
theorem refs_get {n : Nat} {f : Nat → Addr} {i : Nat} (h : i < n) : (refs n f)[i]? = some (.ref (f i)) := by
  unfold refs
  rw [List.getElem?_map, List.getElem?_range h]
  rfl
theorem refs_succ (n : Nat) (f : Nat → Addr) : refs (n + 1) f = refs n f ++ [.ref (f n)] := by
  unfold refs
  rw [List.range_succ, List.map_append]
  rfl
theorem refs_congr {n : Nat} {f g : Nat → Addr} (h : ∀ i, i < n → f i = g i) : refs n f = refs n g := by
  unfold refs
  refine List.map_congr_left fun i hi => ?_
  rw [h i (List.mem_range.mp hi)]
/-- the model at ma: ls its list of stations, sa, oa, ca: where the stations, their lists of options, the options stand; ft: all of them and perhaps more -/
structure TrC (K : PySem.W.Frag) (C : Nat → Addr) (H : Hp) (ma ls : Addr) (vt vl : V) (sa oa : Nat → Addr) (ca : Nat → Nat → Addr) (ft : Addr → Prop) (m : Lrx8.Model) : Prop where
  mo : ∃ dx, H ma = some (moO C dx ls vt vl)
  tg : Is K C H vt (fr m.target)
  lm : Is K C H vl (fr m.limit)
  li : H ls = some (.lst (refs m.stations.length sa))
  st : ∀ i s, m.stations[i]? = some s → ∃ dx, H (sa i) = some (stO C dx s (oa i))
  op : ∀ i s, m.stations[i]? = some s → H (oa i) = some (.lst (refs s.choices.length (ca i)))
  ch : ∀ i s k c, m.stations[i]? = some s → s.choices[k]? = some c → ∃ dx, H (ca i k) = some (chO C dx c)
  js : ∀ i j, i < m.stations.length → j < m.stations.length → sa i = sa j → i = j
  jo : ∀ i j, i < m.stations.length → j < m.stations.length → oa i = oa j → i = j
  jc : ∀ i j s u k l, m.stations[i]? = some s → m.stations[j]? = some u → k < s.choices.length → l < u.choices.length → ca i k = ca j l → i = j ∧ k = l
  ol : ∀ i, i < m.stations.length → oa i ≠ ls
  fm : ft ma
  fl : ft ls
  fs : ∀ i, i < m.stations.length → ft (sa i) ∧ ft (oa i)
  fc : ∀ i s k, m.stations[i]? = some s → k < s.choices.length → ft (ca i k)
def Tr (K : PySem.W.Frag) (C : Nat → Addr) (H : Hp) (ma : Addr) (ft : Addr → Prop) (m : Lrx8.Model) : Prop := ∃ ls vt vl sa oa ca, TrC K C H ma ls vt vl sa oa ca ft m

theorem lt_of_some {α : Type} {l : List α} {i : Nat} {x : α} (h : l[i]? = some x) : i < l.length := (List.getElem?_eq_some_iff.mp h).1
theorem isL_of {F : Hp} : ∀ (vs : List V) (ds : List D), vs.length = ds.length → (∀ (i : Nat) (d : D), ds[i]? = some d → ∃ v, vs[i]? = some v ∧ Is K C F v d) → IsL K C F vs ds
  | [], [], _, _ => .nil
  | v :: vs, d :: ds, hl, h => .cons (by
      obtain ⟨u, h1, h2⟩ := h 0 d rfl
      cases h1
      exact h2) (isL_of vs ds (by simpa using hl) fun i e he => h (i + 1) e he)
  | [], _ :: _, hl, _ => by simp at hl
  | _ :: _, [], hl, _ => by simp at hl
/-! ### reading it as data -/
def chA (C : Nat → Addr) (ca : Nat → Addr) (l : List Lrx8.Choice) : List D := l.mapIdx fun k c => .at_ (ca k) (encC c)
def stA (s : Lrx8.Station) (sa oa : Addr) (ca : Nat → Addr) : D := .at_ sa (.obj 1 (.int s.arrival) (.int s.weight) (.at_ oa (.lst (chA (fun _ => 0) ca s.choices))))
def stsA (m : Lrx8.Model) (sa oa : Nat → Addr) (ca : Nat → Nat → Addr) : List D := m.stations.mapIdx fun i s => stA s (sa i) (oa i) (ca i)
def moA (m : Lrx8.Model) (sa oa : Nat → Addr) (ca : Nat → Nat → Addr) : D := .obj 2 (.lst (stsA m sa oa ca)) (fr m.target) (fr m.limit)
variable {H H' : Hp} {ma ls : Addr} {vt vl : V} {sa oa : Nat → Addr} {ca : Nat → Nat → Addr} {ft ft' : Addr → Prop} {m : Lrx8.Model}
theorem TrC.isCh (t : TrC K C H ma ls vt vl sa oa ca ft m) {i k : Nat} {s : Lrx8.Station} {c : Lrx8.Choice} (h : m.stations[i]? = some s) (h2 : s.choices[k]? = some c) : Is K C H (.ref (ca i k)) (encC c) := by
  obtain ⟨dx, e⟩ := t.ch i s k c h h2
  exact .obj e (.int _) (.int _) (.int _)
theorem TrC.isA (t : TrC K C H ma ls vt vl sa oa ca ft m) : Is K C H (.ref ma) (moA m sa oa ca) := by
  obtain ⟨dx, e⟩ := t.mo
  refine .obj (k := 2) e (.lst t.li (isL_of _ _ ?_ fun i d hd => ?_)) t.tg t.lm
  · rw [refs_len]
    unfold stsA
    simp
  · unfold stsA at hd
    rw [List.getElem?_mapIdx] at hd
    cases hs : m.stations[i]? with
    | none =>
      rw [hs] at hd
      cases hd
    | some s =>
      rw [hs] at hd
      cases hd
      refine ⟨_, refs_get (lt_of_some hs), .at_ ?_⟩
      obtain ⟨dx, e⟩ := t.st i s hs
      refine .obj (k := 1) e (.int _) (.int _) (.at_ (.lst (t.op i s hs) (isL_of _ _ ?_ fun k d hd => ?_)))
      · rw [refs_len]
        unfold chA
        simp
      · unfold chA at hd
        rw [List.getElem?_mapIdx] at hd
        cases hc : s.choices[k]? with
        | none =>
          rw [hc] at hd
          cases hd
        | some c =>
          rw [hc] at hd
          cases hd
          exact ⟨_, refs_get (lt_of_some hc), .at_ (t.isCh hs hc)⟩
theorem TrC.is (t : TrC K C H ma ls vt vl sa oa ca ft m) : Is K C H (.ref ma) (encM m) := by
  obtain ⟨dx, e⟩ := t.mo
  refine .obj (k := 2) e (.lst t.li (isL_of _ _ (by rw [refs_len, List.length_map]) fun i d hd => ?_)) t.tg t.lm
  obtain ⟨s, hs, rfl⟩ := get_map hd
  refine ⟨_, refs_get (lt_of_some hs), ?_⟩
  obtain ⟨dx, e⟩ := t.st i s hs
  refine .obj (k := 1) e (.int _) (.int _) (.lst (t.op i s hs) (isL_of _ _ (by rw [refs_len, List.length_map]) fun k d hd => ?_))
  obtain ⟨c, hc, rfl⟩ := get_map hd
  exact ⟨_, refs_get (lt_of_some hc), t.isCh hs hc⟩
theorem Tr.is (t : Tr K C H ma ft m) : Is K C H (.ref ma) (encM m) := by
  obtain ⟨_, _, _, _, _, _, t⟩ := t
  exact t.is
/-! ### tuples stay -/
/-- an object that is written at times -/
def Wr (o : HO) : Prop := (∃ C dx fs, o = .ins C dx fs) ∨ ∃ xs, o = .lst xs
theorem is_fr_keep {v : V} {f : Lrx1.Fraction} (h : Is K C H v (fr f)) (k : ∀ a o, H a = some o → ¬ Wr o → H' a = some o) : Is K C H' v (fr f) := by
  unfold fr at h ⊢
  cases h with
  | tup s r =>
    have e := r.ints [f.num, f.den]
    subst e
    refine .tup ?_ (.of_ints [f.num, f.den])
    rcases s with s | s
    · rcases s with s | ⟨o, s⟩
      · exact .inl (.inl (k _ _ s fun z => by rcases z with ⟨_, _, _, z⟩ | ⟨_, z⟩ <;> cases z))
      · exact .inl (.inr ⟨o, k _ _ s fun z => by rcases z with ⟨_, _, _, z⟩ | ⟨_, z⟩ <;> cases z⟩)
    · exact .inr s
/-- nothing of it is written -/
theorem TrC.keep (t : TrC K C H ma ls vt vl sa oa ca ft m) (k : ∀ a o, H a = some o → ft a ∨ ¬ Wr o → H' a = some o) : TrC K C H' ma ls vt vl sa oa ca ft m where
  mo := t.mo.imp fun dx e => k _ _ e (.inl t.fm)
  tg := is_fr_keep t.tg fun a o e w => k a o e (.inr w)
  lm := is_fr_keep t.lm fun a o e w => k a o e (.inr w)
  li := k _ _ t.li (.inl t.fl)
  st := fun i s h => (t.st i s h).imp fun dx e => k _ _ e (.inl (t.fs i (lt_of_some h)).1)
  op := fun i s h => k _ _ (t.op i s h) (.inl (t.fs i (lt_of_some h)).2)
  ch := fun i s j c h h2 => (t.ch i s j c h h2).imp fun dx e => k _ _ e (.inl (t.fc i s j h (lt_of_some h2)))
  js := t.js
  jo := t.jo
  jc := t.jc
  ol := t.ol
  fm := t.fm
  fl := t.fl
  fs := t.fs
  fc := t.fc
theorem Tr.keep (t : Tr K C H ma ft m) (k : ∀ a o, H a = some o → ft a ∨ ¬ Wr o → H' a = some o) : Tr K C H' ma ft m := by
  obtain ⟨ls, vt, vl, sa, oa, ca, t⟩ := t
  exact ⟨ls, vt, vl, sa, oa, ca, t.keep k⟩
theorem Tr.ex (t : Tr K C H ma ft m) (k : Ex H H') : Tr K C H' ma ft m := t.keep fun a o e _ => k a o e
theorem TrC.ex (t : TrC K C H ma ls vt vl sa oa ca ft m) (k : Ex H H') : TrC K C H' ma ls vt vl sa oa ca ft m := t.keep fun a o e _ => k a o e

/-! ### writing -/
/-- all but p stays -/
def Kp (H H' : Hp) (p : Addr) : Prop := ∀ a o, H a = some o → a ≠ p → H' a = some o
theorem upd_kp {p : Addr} {o : HO} : Kp H (upd H p o) p := fun a u e n => by rw [upd_ne n]; exact e
theorem Kp.ex {H2 : Hp} {p : Addr} (k : Kp H H' p) (e : Ex H' H2) : Kp H H2 p := fun a o h n => e _ _ (k a o h n)
theorem Kp.pre {H2 : Hp} {p : Addr} (e : Ex H H') (k : Kp H' H2 p) : Kp H H2 p := fun a o h n => k _ _ (e a o h) n
theorem Kp.fr {p : Addr} (k : Kp H H' p) {o : HO} (hp : H p = some o) (hw : Wr o) {v : V} {f : Lrx1.Fraction} (h : Is K C H v (fr f)) : Is K C H' v (fr f) :=
  is_fr_keep h fun a u e w => k a u e fun z => by
    subst z
    rw [hp] at e
    cases e
    exact w hw
theorem set_get {l : List Lrx8.Station} {i j : Nat} {s u : Lrx8.Station} (h : (l.set i s)[j]? = some u) : (j = i ∧ u = s) ∨ (j ≠ i ∧ l[j]? = some u) := by
  by_cases q : j = i
  · subst q
    left
    refine ⟨rfl, ?_⟩
    have hl := lt_of_some h
    rw [List.length_set] at hl
    rw [List.getElem?_set_self hl] at h
    cases h
    rfl
  · rw [List.getElem?_set_ne (by omega)] at h
    exact .inr ⟨q, h⟩
theorem stO_ins {dx : Addr} {s : Lrx8.Station} {o : Addr} : Wr (stO C dx s o) := .inl ⟨_, _, _, rfl⟩
theorem chO_ins {dx : Addr} {c : Lrx8.Choice} : Wr (chO C dx c) := .inl ⟨_, _, _, rfl⟩
theorem moO_ins {dx : Addr} {o : Addr} : Wr (moO C dx o vt vl) := .inl ⟨_, _, _, rfl⟩
theorem ne_st_ch {dx dy : Addr} {s : Lrx8.Station} {o : Addr} {c : Lrx8.Choice} : stO C dx s o ≠ chO C dy c := fun z => by
  unfold stO chO at z
  injection z with _ _ z
  injection z with z
  injection z with z
  revert z
  decide
theorem ne_st_mo {dx dy : Addr} {s : Lrx8.Station} {o : Addr} : stO C dx s o ≠ moO C dy ls vt vl := fun z => by
  unfold stO moO at z
  injection z with _ _ z
  injection z with z
  injection z with z
  revert z
  decide
theorem ne_ch_mo {dx dy : Addr} {c : Lrx8.Choice} : chO C dx c ≠ moO C dy ls vt vl := fun z => by
  unfold chO moO at z
  injection z with _ _ z
  injection z with z
  injection z with z
  revert z
  decide
theorem ne_ins_lst {o : HO} (h : ∃ C dx fs, o = .ins C dx fs) {xs : List V} : o ≠ .lst xs := fun z => by
  obtain ⟨_, _, _, rfl⟩ := h
  cases z
/-- an attribute of a station -/
theorem TrC.setS (t : TrC K C H ma ls vt vl sa oa ca ft m) {i : Nat} {s s' : Lrx8.Station} (h : m.stations[i]? = some s) (hc : s'.choices = s.choices) (k : Kp H H' (sa i)) (e : ∃ dx, H' (sa i) = some (stO C dx s' (oa i))) :
    TrC K C H' ma ls vt vl sa oa ca ft { m with stations := m.stations.set i s' } := by
  obtain ⟨dx0, e0⟩ := t.st i s h
  refine ⟨?_, k.fr e0 stO_ins t.tg, k.fr e0 stO_ins t.lm, ?_, ?_, ?_, ?_, ?_, ?_, ?_, ?_, t.fm, t.fl, ?_, ?_⟩
  · obtain ⟨dx, e1⟩ := t.mo
    exact ⟨dx, k _ _ e1 (ne_of e1 e0 (Ne.symm ne_st_mo))⟩
  · rw [List.length_set]
    exact k _ _ t.li (ne_of t.li e0 (Ne.symm (ne_ins_lst ⟨_, _, _, rfl⟩)))
  · intro j u hu
    rcases set_get hu with ⟨rfl, rfl⟩ | ⟨q, hu⟩
    · exact e
    · obtain ⟨dx, e1⟩ := t.st j u hu
      exact ⟨dx, k _ _ e1 fun z => q (t.js _ _ (lt_of_some hu) (lt_of_some h) z)⟩
  · intro j u hu
    rcases set_get hu with ⟨rfl, rfl⟩ | ⟨q, hu⟩
    · rw [hc]
      have e1 := t.op j s h
      exact k _ _ e1 (ne_of e1 e0 (Ne.symm (ne_ins_lst ⟨_, _, _, rfl⟩)))
    · have e1 := t.op j u hu
      exact k _ _ e1 (ne_of e1 e0 (Ne.symm (ne_ins_lst ⟨_, _, _, rfl⟩)))
  · intro j u l c hu hl
    have hh : ∃ dx, H (ca j l) = some (chO C dx c) := by
      rcases set_get hu with ⟨rfl, rfl⟩ | ⟨q, hu⟩
      · rw [hc] at hl
        exact t.ch j s l c h hl
      · exact t.ch j u l c hu hl
    obtain ⟨dx, e1⟩ := hh
    exact ⟨dx, k _ _ e1 (ne_of e1 e0 (Ne.symm ne_st_ch))⟩
  · intro a b ha hb
    rw [List.length_set] at ha hb
    exact t.js a b ha hb
  · intro a b ha hb
    rw [List.length_set] at ha hb
    exact t.jo a b ha hb
  · intro a b u v p q hu hv hp hq
    have hh : ∀ (a : Nat) (u : Lrx8.Station) (p : Nat), (m.stations.set i s')[a]? = some u → p < u.choices.length → ∃ u' : Lrx8.Station, m.stations[a]? = some u' ∧ p < u'.choices.length := fun a u p hu hp => by
      rcases set_get hu with ⟨q1, q2⟩ | ⟨_, hu⟩
      · exact ⟨s, by rw [q1]; exact h, by rw [← hc, ← q2]; exact hp⟩
      · exact ⟨_, hu, hp⟩
    obtain ⟨u', hu', hp'⟩ := hh _ _ _ hu hp
    obtain ⟨v', hv', hq'⟩ := hh _ _ _ hv hq
    exact t.jc a b u' v' p q hu' hv' hp' hq'
  · intro a ha
    rw [List.length_set] at ha
    exact t.ol a ha
  · intro a ha
    rw [List.length_set] at ha
    exact t.fs a ha
  · intro a u p hu hp
    rcases set_get hu with ⟨rfl, rfl⟩ | ⟨_, hu⟩
    · exact t.fc a s p h (by rw [← hc]; exact hp)
    · exact t.fc a u p hu hp
/-- the target, the limit -/
theorem TrC.setM (t : TrC K C H ma ls vt vl sa oa ca ft m) {vt' vl' : V} {tg lm : Lrx1.Fraction} (k : Kp H H' ma) (e : ∃ dx, H' ma = some (moO C dx ls vt' vl')) (h1 : Is K C H' vt' (fr tg)) (h2 : Is K C H' vl' (fr lm)) :
    TrC K C H' ma ls vt' vl' sa oa ca ft { m with target := tg, limit := lm } := by
  obtain ⟨dx0, e0⟩ := t.mo
  refine ⟨e, h1, h2, ?_, ?_, ?_, ?_, t.js, t.jo, t.jc, t.ol, t.fm, t.fl, t.fs, t.fc⟩
  · exact k _ _ t.li (ne_of t.li e0 (Ne.symm (ne_ins_lst ⟨_, _, _, rfl⟩)))
  · intro i s h
    obtain ⟨dx, e1⟩ := t.st i s h
    exact ⟨dx, k _ _ e1 (ne_of e1 e0 ne_st_mo)⟩
  · intro i s h
    exact k _ _ (t.op i s h) (ne_of (t.op i s h) e0 (Ne.symm (ne_ins_lst ⟨_, _, _, rfl⟩)))
  · intro i s l c h hl
    obtain ⟨dx, e1⟩ := t.ch i s l c h hl
    exact ⟨dx, k _ _ e1 (ne_of e1 e0 ne_ch_mo)⟩
/-- a station's options: their list is written, options may have come (nu), the rest stays; an option is written at most where the list says so -/
theorem TrC.setO (t : TrC K C H ma ls vt vl sa oa ca ft m) {i : Nat} {s : Lrx8.Station} {cs : List Lrx8.Choice} {cn : Nat → Addr} (h : m.stations[i]? = some s) {p : Addr} {op : HO} (hp : H p = some op) (hw : op = .lst (refs s.choices.length (ca i)) ∧ p = oa i ∨ (∃ dx c, op = chO C dx c) ∧ ∃ l, l < s.choices.length ∧ p = ca i l)
    (k : Kp H H' p) (e : H' (oa i) = some (.lst (refs cs.length cn))) (hch : ∀ l c, cs[l]? = some c → ∃ dx, H' (cn l) = some (chO C dx c))
    (hj : ∀ a b, a < cs.length → b < cs.length → cn a = cn b → a = b) (hd : ∀ a, a < cs.length → (∃ l, l < s.choices.length ∧ cn a = ca i l) ∨ ∀ j u x, m.stations[j]? = some u → x < u.choices.length → ca j x ≠ cn a) (hf : ∀ a, ft a → ft' a) (hn : ∀ a, a < cs.length → ft' (cn a)) :
    TrC K C H' ma ls vt vl sa oa (fun j l => if j = i then cn l else ca j l) ft' { m with stations := m.stations.set i { s with choices := cs } } := by
  have hwr : Wr op := by
    rcases hw with ⟨rfl, _⟩ | ⟨⟨dx, c, rfl⟩, _⟩
    · exact .inr ⟨_, rfl⟩
    · exact chO_ins
  have n_mo : ∀ {a dx}, H a = some (moO C dx ls vt vl) → a ≠ p := fun e1 => ne_of e1 hp (by
    rcases hw with ⟨rfl, _⟩ | ⟨⟨dx, c, rfl⟩, _⟩
    · exact ne_ins_lst ⟨_, _, _, rfl⟩
    · exact Ne.symm ne_ch_mo)
  have n_st : ∀ {a dx u o}, H a = some (stO C dx u o) → a ≠ p := fun e1 => ne_of e1 hp (by
    rcases hw with ⟨rfl, _⟩ | ⟨⟨dx, c, rfl⟩, _⟩
    · exact ne_ins_lst ⟨_, _, _, rfl⟩
    · exact ne_st_ch)
  have hi := lt_of_some h
  have n_ls : ls ≠ p := by
    rcases hw with ⟨_, rfl⟩ | ⟨⟨dx, c, rfl⟩, _⟩
    · exact Ne.symm (t.ol i hi)
    · exact ne_of t.li hp (Ne.symm (ne_ins_lst ⟨_, _, _, rfl⟩))
  refine ⟨?_, k.fr hp hwr t.tg, k.fr hp hwr t.lm, ?_, ?_, ?_, ?_, ?_, ?_, ?_, ?_, hf _ t.fm, hf _ t.fl, ?_, ?_⟩
  · obtain ⟨dx, e1⟩ := t.mo
    exact ⟨dx, k _ _ e1 (n_mo e1)⟩
  · rw [List.length_set]
    exact k _ _ t.li n_ls
  · intro j u hu
    rcases set_get hu with ⟨rfl, rfl⟩ | ⟨q, hu⟩
    · obtain ⟨dx, e1⟩ := t.st j s h
      exact ⟨dx, k _ _ e1 (n_st e1)⟩
    · obtain ⟨dx, e1⟩ := t.st j u hu
      exact ⟨dx, k _ _ e1 (n_st e1)⟩
  · intro j u hu
    rcases set_get hu with ⟨rfl, rfl⟩ | ⟨q, hu⟩
    · rw [e]
      simp
    · have e1 := t.op j u hu
      have n1 : oa j ≠ p := by
        rcases hw with ⟨_, rfl⟩ | ⟨⟨dx, c, rfl⟩, _⟩
        · exact fun z => q (t.jo _ _ (lt_of_some hu) hi z)
        · exact ne_of e1 hp (Ne.symm (ne_ins_lst ⟨_, _, _, rfl⟩))
      rw [k _ _ e1 n1]
      simp [q]
  · intro j u l c hu hl
    rcases set_get hu with ⟨rfl, rfl⟩ | ⟨q, hu⟩
    · obtain ⟨dx, e1⟩ := hch l c hl
      exact ⟨dx, by simpa using e1⟩
    · obtain ⟨dx, e1⟩ := t.ch j u l c hu hl
      have n1 : ca j l ≠ p := by
        rcases hw with ⟨rfl, rfl⟩ | ⟨_, l', hl', rfl⟩
        · exact ne_of e1 hp (ne_ins_lst ⟨_, _, _, rfl⟩)
        · exact fun z => q (t.jc _ _ _ _ _ _ hu h (lt_of_some hl) hl' z).1
      exact ⟨dx, by simpa [q] using k _ _ e1 n1⟩
  · intro a b ha hb
    rw [List.length_set] at ha hb
    exact t.js a b ha hb
  · intro a b ha hb
    rw [List.length_set] at ha hb
    exact t.jo a b ha hb
  · intro a b u v x y hu hv hx hy z
    have cross : ∀ {j u x y}, j ≠ i → m.stations[j]? = some u → x < u.choices.length → y < cs.length → ca j x ≠ cn y := fun {j u x y} q hu hx hy z => by
      have e1 := t.ch j u x _ hu (List.getElem?_eq_getElem hx)
      rcases hd y hy with ⟨l, hl, e2⟩ | e2
      · rw [e2] at z
        exact q (t.jc _ _ _ _ _ _ hu h hx hl z).1
      · exact e2 j u x hu hx z
    rcases set_get hu with ⟨a1, a2⟩ | ⟨q, hu'⟩
    · rcases set_get hv with ⟨b1, b2⟩ | ⟨q2, hv'⟩
      · subst a2 b2
        rw [if_pos a1, if_pos b1] at z
        exact ⟨a1.trans b1.symm, hj _ _ hx hy z⟩
      · subst a2
        rw [if_pos a1, if_neg q2] at z
        exact absurd z.symm (cross q2 hv' hy hx)
    · rcases set_get hv with ⟨b1, b2⟩ | ⟨q2, hv'⟩
      · subst b2
        rw [if_neg q, if_pos b1] at z
        exact absurd z (cross q hu' hx hy)
      · rw [if_neg q, if_neg q2] at z
        exact t.jc a b u v x y hu' hv' hx hy z
  · intro a ha
    rw [List.length_set] at ha
    exact t.ol a ha
  · intro a ha
    rw [List.length_set] at ha
    exact ⟨hf _ (t.fs a ha).1, hf _ (t.fs a ha).2⟩
  · intro a u x hu hx
    rcases set_get hu with ⟨rfl, rfl⟩ | ⟨q, hu⟩
    · simpa using hn x hx
    · simpa [q] using hf _ (t.fc a u x hu hx)
end
end Pd

/-! ## Hp2 -/
set_option Elab.async false
set_option linter.all false
set_option maxRecDepth 100000
set_option maxHeartbeats 2000000
set_option autoImplicit false
/-! New options, stations, models. -/
namespace Pd
open PySem PySem.Spec PyProof.Rows L2 Mt
section
variable {K : PySem.W.Frag} {mg : Str → Option Value} {A : Ad} {P : Program} {w : World} {base : Heap}
/-! ### the three inits -/
def sp_Option (K : PySem.W.Frag) (C : Nat → Addr) : Sp := fun vs H Q E => ∃ (a dx : Addr) (c : Lrx8.Choice), vs = [.ref a, .int c.servers, .int c.rate, .int c.cost] ∧ H a = some (.ins (C 0) dx []) ∧
  ∀ H', H' a = some (chO C dx c) → (∀ b, b ≠ a → H' b = H b) → Q .non H'
theorem pu_Option_init (T : Cst K mg A) (vs : List V) (H : Hp) (Q : VK) (E : XK) (h : sp_Option K A.c vs H Q E) : t_Option_init K A { nx := fun _ H' => Q .non H', rt := Q } (L2.start ["self", "servers", "rate", "cost"] vs) H := by
  obtain ⟨a, dx, c, rfl, e, q⟩ := h
  refine ⟨_, rfl, _, rfl, a, A.c 0, dx, _, rfl, e, T.cls0, T.a_servers, Nat.le_of_ble_eq_true rfl, ?_⟩
  refine ⟨_, rfl, _, rfl, a, A.c 0, dx, _, rfl, upd_same, T.cls0, T.a_rate, Nat.le_of_ble_eq_true rfl, ?_⟩
  refine ⟨_, rfl, _, rfl, a, A.c 0, dx, _, rfl, upd_same, T.cls0, T.a_cost, Nat.le_of_ble_eq_true rfl, ?_⟩
  refine q _ upd_same fun b hb => ?_
  rw [upd_ne hb, upd_ne hb, upd_ne hb]
def sp_Station (K : PySem.W.Frag) (C : Nat → Addr) : Sp := fun vs H Q E => ∃ (a dx : Addr), vs = [.ref a] ∧ H a = some (.ins (C 1) dx []) ∧
  ∀ H' o, H o = none → H' a = some (stO C dx ⟨1, 1, []⟩ o) → H' o = some (.lst []) → (∀ b, b ≠ a → b ≠ o → H' b = H b) → Q .non H'
theorem pu_Station_init (T : Cst K mg A) (vs : List V) (H : Hp) (Q : VK) (E : XK) (h : sp_Station K A.c vs H Q E) : t_Station_init K A { nx := fun _ H' => Q .non H', rt := Q } (L2.start ["self"] vs) H := by
  obtain ⟨a, dx, rfl, e, q⟩ := h
  refine ⟨_, rfl, a, A.c 1, dx, _, rfl, e, T.cls1, T.a_arrival, Nat.le_of_ble_eq_true rfl, ?_⟩
  refine ⟨_, rfl, a, A.c 1, dx, _, rfl, upd_same, T.cls1, T.a_weight, Nat.le_of_ble_eq_true rfl, ?_⟩
  refine ⟨by decide, fun o ho => ?_⟩
  have hoa : o ≠ a := fun z => by
    subst z
    rw [upd_same] at ho
    cases ho
  rw [upd_ne hoa, upd_ne hoa] at ho
  refine ⟨_, rfl, a, A.c 1, dx, _, rfl, by rw [upd_ne (Ne.symm hoa)]; exact upd_same, T.cls1, T.a_options, Nat.le_of_ble_eq_true rfl, ?_⟩
  refine q _ o ho upd_same (by rw [upd_ne hoa]; exact upd_same) fun b h1 h2 => ?_
  rw [upd_ne h1, upd_ne h2, upd_ne h1, upd_ne h1]
theorem mk_Option (T : Txt K mg A) {f : Addr} {fd : FuncData} (F : Fun K "__init__" "Option.__init__" s_Option_init f fd) : FnOk P w K mg base CX0 1 f fd ["self", "servers", "rate", "cost"] (sp_Option K A.c) :=
  cal_Option_init T F (fun vs H Q E h => by obtain ⟨a, dx, c, rfl, _⟩ := h; rfl) (pu_Option_init T.toCst)
theorem mk_Station (T : Txt K mg A) {f : Addr} {fd : FuncData} (F : Fun K "__init__" "Station.__init__" s_Station_init f fd) : FnOk P w K mg base CX0 1 f fd ["self"] (sp_Station K A.c) :=
  cal_Station_init T F (fun vs H Q E h => by obtain ⟨a, dx, rfl, _⟩ := h; rfl) (pu_Station_init T.toCst)
/-- Station() -/
theorem make_station {E : XK} {σ : L2.St} {H : Hp} {Q : VK} (q : ∀ x o dx H', H x = none → H o = none → x ≠ o → H' x = some (stO A.c dx ⟨1, 1, []⟩ o) → H' o = some (.lst []) → Ex H H' → Q (.ref x) H') : tMake (A.c 1) (sp_Station K A.c) [] E tNil σ H Q := by
  intro x dx hx hd hne
  refine ⟨x, dx, rfl, upd_same, fun H' o ho e1 e2 r => ⟨rfl, ?_⟩⟩
  have hox : o ≠ x := fun z => by
    subst z
    rw [upd_same] at ho
    cases ho
  rw [upd_ne hox] at ho
  have hod : o ≠ dx := fun z => by
    subst z
    rw [upd_same] at ho
    cases ho
  rw [upd_ne hod] at ho
  refine q x o dx H' hx ho (Ne.symm hox) e1 e2 fun b u hb => ?_
  have n1 := ne_of_none hb hx
  have n2 := ne_of_none hb ho
  have n3 := ne_of_none hb hd
  rw [r b n1 n2, upd_ne n1, upd_ne n3]
  exact hb
/-- Option(..) -/
theorem make_option {E : XK} {t : TA} {σ : L2.St} {H : Hp} {Q : VK} (c : Lrx8.Choice) (h : t σ H fun vs H1 => vs = [.int c.servers, .int c.rate, .int c.cost] ∧ ∀ x dx H', H1 x = none → H' x = some (chO A.c dx c) → Ex H1 H' → Q (.ref x) H')
    (mono : ∀ {R R' : List V → Hp → Prop}, (∀ vs H1, R vs H1 → R' vs H1) → t σ H R → t σ H R') : tMake (A.c 0) (sp_Option K A.c) [] E t σ H Q := by
  refine mono (fun vs H1 ⟨e, q⟩ => ?_) h
  subst e
  intro x dx hx hd hne
  refine ⟨x, dx, c, rfl, upd_same, fun H' e1 r => ⟨rfl, ?_⟩⟩
  refine q x dx H' hx e1 fun b u hb => ?_
  have n1 := ne_of_none hb hx
  have n3 := ne_of_none hb hd
  rw [r b n1, upd_ne n1, upd_ne n3]
  exact hb
/-! ### a model -/
def new (n : Nat) : Lrx8.Model := ⟨List.replicate n ⟨1, 1, []⟩, Lrx1.zero, Lrx1.one⟩
/-- i stations stand, their list at D -/
structure Bld (C : Nat → Addr) (H0 H : Hp) (D : Addr) (i : Nat) (sa oa : Nat → Addr) : Prop where
  ex : Ex H0 H
  d : H D = some (.lst (refs i sa))
  d0 : H0 D = none
  st : ∀ j, j < i → ∃ dx, H (sa j) = some (stO C dx ⟨1, 1, []⟩ (oa j))
  op : ∀ j, j < i → H (oa j) = some (.lst [])
  js : ∀ a b, a < i → b < i → sa a = sa b → a = b
  jo : ∀ a b, a < i → b < i → oa a = oa b → a = b
  ol : ∀ a, a < i → oa a ≠ D
  nw : ∀ a, a < i → H0 (sa a) = none ∧ H0 (oa a) = none
theorem Bld.more {C : Nat → Addr} {H0 H H' : Hp} {D x o dx : Addr} {i : Nat} {sa oa : Nat → Addr} (b : Bld C H0 H D i sa oa) (hx : H x = none) (ho : H o = none) (e1 : H' x = some (stO C dx ⟨1, 1, []⟩ o)) (e2 : H' o = some (.lst [])) (ex : Ex H H') :
    Bld C H0 (upd H' D (.lst (refs i sa ++ [.ref x]))) D (i + 1) (fun j => if j = i then x else sa j) (fun j => if j = i then o else oa j) := by
  have hD := ex _ _ b.d
  have nx : x ≠ D := (ne_of_none b.d hx).symm
  have no : o ≠ D := (ne_of_none b.d ho).symm
  have ns : ∀ j, j < i → sa j ≠ D := fun j hj => by
    obtain ⟨dx, e⟩ := b.st j hj
    exact ne_of e b.d (ne_ins_lst ⟨_, _, _, rfl⟩)
  refine ⟨?_, ?_, b.d0, ?_, ?_, ?_, ?_, ?_, ?_⟩
  · intro a u h
    rw [upd_ne (ne_of_none h b.d0)]
    exact ex _ _ (b.ex _ _ h)
  · rw [upd_same, refs_succ, if_pos rfl, refs_congr (f := fun j => if j = i then x else sa j) (g := sa) fun j hj => if_neg (by omega)]
  · intro j hj
    by_cases q : j = i
    · rw [if_pos q, if_pos q, upd_ne nx]
      exact ⟨dx, e1⟩
    · rw [if_neg q, if_neg q, upd_ne (ns j (by omega))]
      exact (b.st j (by omega)).imp fun dx e => ex _ _ e
  · intro j hj
    by_cases q : j = i
    · rw [if_pos q, upd_ne no]
      exact e2
    · rw [if_neg q, upd_ne (b.ol j (by omega))]
      exact ex _ _ (b.op j (by omega))
  · have cr : ∀ j, j < i → sa j ≠ x := fun j hj => by
      obtain ⟨dx, e⟩ := b.st j hj
      exact ne_of_none e hx
    intro p q hp hq z
    by_cases h1 : p = i
    · by_cases h2 : q = i
      · omega
      · rw [if_pos h1, if_neg h2] at z
        exact absurd z.symm (cr q (by omega))
    · by_cases h2 : q = i
      · rw [if_neg h1, if_pos h2] at z
        exact absurd z (cr p (by omega))
      · rw [if_neg h1, if_neg h2] at z
        exact b.js p q (by omega) (by omega) z
  · have cr : ∀ j, j < i → oa j ≠ o := fun j hj => ne_of_none (b.op j hj) ho
    intro p q hp hq z
    by_cases h1 : p = i
    · by_cases h2 : q = i
      · omega
      · rw [if_pos h1, if_neg h2] at z
        exact absurd z.symm (cr q (by omega))
    · by_cases h2 : q = i
      · rw [if_neg h1, if_pos h2] at z
        exact absurd z (cr p (by omega))
      · rw [if_neg h1, if_neg h2] at z
        exact b.jo p q (by omega) (by omega) z
  · intro j hj
    by_cases q : j = i
    · rw [if_pos q]
      exact no
    · rw [if_neg q]
      exact b.ol j (by omega)
  · intro j hj
    by_cases q : j = i
    · rw [if_pos q, if_pos q]
      exact ⟨b.ex.back hx, b.ex.back ho⟩
    · rw [if_neg q, if_neg q]
      exact b.nw j (by omega)
def sp_Model (K : PySem.W.Frag) (C : Nat → Addr) : Sp := fun vs H Q E => ∃ (a dx : Addr) (n : Nat), vs = [.ref a, .int n] ∧ n ≤ 4 ∧ H a = some (.ins (C 2) dx []) ∧
  ∀ H' ft, Tr K C H' a ft (new n) → (∀ b u, H b = some u → b ≠ a → H' b = some u) → (∀ b, ft b → b = a ∨ H b = none) → Q .non H'
theorem pu_Model_init (T : Cst K mg A) (vs : List V) (H : Hp) (Q : VK) (E : XK) (h : sp_Model K A.c vs H Q E) : t_Model_init K A (sp_Station K A.c) { nx := fun _ H' => Q .non H', rt := Q } (L2.start ["self", "many", "turn"] vs) H := by
  obtain ⟨a, dx, n, rfl, hn, e, q⟩ := h
  refine ⟨_, rfl, n, rfl, by omega, by omega, fun D hD => ?_⟩
  refine lc_it walk_range (fun i H' => ∃ sa oa, Bld A.c H H' D i sa oa) ⟨fun _ => 0, fun _ => 0, Ex.new hD, upd_same, hD, fun j hj => absurd hj (by omega), fun j hj => absurd hj (by omega), fun p q hp => absurd hp (by omega), fun p q hp => absurd hp (by omega), fun p hp => absurd hp (by omega), fun p hp => absurd hp (by omega)⟩ (fun _ _ _ _ => trivial) ?_ ?_
  · rintro i x H1 H2 hi ⟨sa, oa, b⟩ ⟨rfl, rfl⟩
    refine ⟨rfl, ?_⟩
    unfold tYes
    dsimp only
    rw [if_pos rfl]
    refine make_station fun x o dx H3 hx ho _ e1 e2 ex => ?_
    exact ⟨_, ex _ _ b.d, by rw [refs_len]; exact Nat.lt_of_lt_of_le (show i < 5 by omega) (by decide), _, _, b.more hx ho e1 e2 ex⟩
  · rintro H1 ⟨sa, oa, b⟩
    rw [Int.toNat_natCast] at b
    have nD : D ≠ a := (ne_of_none e hD).symm
    have ea := b.ex _ _ e
    refine ⟨_, rfl, a, A.c 2, dx, _, rfl, ea, T.cls2, T.a_stations, Nat.le_of_ble_eq_true rfl, ?_⟩
    refine ⟨_, rfl, a, A.c 2, dx, _, rfl, upd_same, T.cls2, T.a_target, Nat.le_of_ble_eq_true rfl, ?_⟩
    refine ⟨_, rfl, a, A.c 2, dx, _, rfl, upd_same, T.cls2, T.a_limit, Nat.le_of_ble_eq_true rfl, ?_⟩
    rw [upd_upd, upd_upd]
    have ns : ∀ j, j < n → sa j ≠ a := fun j hj => fun z => by
      have := (b.nw j hj).1
      rw [z, e] at this
      cases this
    have no : ∀ j, j < n → oa j ≠ a := fun j hj => fun z => by
      have := (b.nw j hj).2
      rw [z, e] at this
      cases this
    have hs : ∀ i s, (new n).stations[i]? = some s → i < n ∧ s = ⟨1, 1, []⟩ := fun i s h => by
      unfold new at h
      dsimp only at h
      rw [List.getElem?_replicate] at h
      split at h
      · cases h
        exact ⟨by assumption, rfl⟩
      · cases h
    have hl : (new n).stations.length = n := List.length_replicate
    refine q _ (fun b => b = a ∨ H b = none) ⟨D, .ref A.nought, .ref A.one, sa, oa, fun _ _ => 0, ?_⟩ (fun b' u h n => by rw [upd_ne n]; exact b.ex _ _ h) fun b h => h
    refine ⟨⟨dx, upd_same⟩, .tup (T.k_nought _) (.of_ints [0, 1]), .tup (T.k_one _) (.of_ints [1, 1]), ?_, ?_, ?_, ?_, ?_, ?_, ?_, ?_, .inl rfl, .inr b.d0, ?_, ?_⟩
    · rw [upd_ne nD, hl]
      exact b.d
    · intro i s h
      obtain ⟨h1, rfl⟩ := hs i s h
      rw [upd_ne (ns i h1)]
      exact b.st i h1
    · intro i s h
      obtain ⟨h1, rfl⟩ := hs i s h
      rw [upd_ne (no i h1)]
      exact b.op i h1
    · intro i s k c h h2
      obtain ⟨_, rfl⟩ := hs i s h
      cases h2
    · rw [hl]
      exact b.js
    · rw [hl]
      exact b.jo
    · intro i j s u k l h1 h2 h3 h4
      obtain ⟨_, rfl⟩ := hs i s h1
      exact absurd h3 (by simp)
    · rw [hl]
      exact b.ol
    · rw [hl]
      exact fun i hi => ⟨.inr (b.nw i hi).1, .inr (b.nw i hi).2⟩
    · intro i s k h1 h3
      obtain ⟨_, rfl⟩ := hs i s h1
      exact absurd h3 (by simp)
end
end Pd

/-! ## Hp3 -/
set_option Elab.async false
set_option linter.all false
set_option maxRecDepth 100000
set_option maxHeartbeats 2000000
set_option autoImplicit false
/-! The operations that change the model. -/
namespace Pd
open PySem PySem.Spec PyProof.Rows L2 Mt
section
variable {K : PySem.W.Frag} {C : Nat → Addr} {CE : Addr} {mg : Str → Option Value} {A : Ad} {P : Program} {w : World} {base : Heap} {δ : List Sd} {te tb tv : TE} {E : XK} {d : D} {ds : List D} {c : Int}
/-! ### raw steps -/
theorem enter {N : List Str} {vs : List V} {H : Hp} (k : Nat) (r : IsL K C H vs ds) (hN : N.length = ds.length + k) : Okf K C H H (ds.map .dat ++ List.replicate k .any) H (L2.start N vs) H := by
  refine ⟨Ok.start (Ex.refl H) r hN, .refl (Ex.refl H), fun i es p h1 _ => ?_⟩
  by_cases hi : i < ds.length
  · rw [List.getElem?_append_left (by rw [List.length_map]; exact hi), List.getElem?_map] at h1
    cases e : ds[i]? with
    | none =>
      rw [e] at h1
      cases h1
    | some d' =>
      rw [e] at h1
      cases h1
  · rw [List.getElem?_append_right (by rw [List.length_map]; omega), List.getElem?_replicate] at h1
    split at h1 <;> cases h1
section
variable {H0 F0 F H : Hp} {σ : L2.St} {Z : Ends} {u : TS} {b : Bool}
theorem raw_need (ok : Okf K C H0 F0 δ F σ H) (h : ED K C tb δ (.bl b)) (hE : b = false → Err CE E H0 c) (hu : b = true → ∀ F' σ' H', Okf K C H0 F0 δ F' σ' H' → u Z σ' H') :
    tSeq (tDrop (tCall (spP K C CE R_need) [] E (tCons tb (tCons (tC (.int c)) tNil)))) u Z σ H := by
  have k : EX K C CE (tCall (spP K C CE R_need) [] E (tCons tb (tCons (tC (.int c)) tNil))) E δ (if b = true then .ok .non else .error c) := ex_call (ad_cons h (ad_cons ed_int ad_nil)) ⟨b, c, rfl, rfl⟩
  cases b with
  | true => exact sd_drop (CE := 0) (E := E0) k H0 F0 F σ H _ ok fun F' σ' H' ok' => hu rfl F' σ' H' ok'
  | false => exact sd_seq_rs (u := u) (sd_drop_e k) H0 F0 F σ H Z ok (hE rfl)
theorem raw_asg {g : TG} {r : Except Int D} (ok : Okf K C H0 F0 δ F σ H) (h : EX K C CE te E δ r) (hE : ∀ c, r = .error c → Err CE E H0 c) (hu : ∀ d, r = .ok d → ∃ δ' ts, GD K C g ts δ d δ' ∧ ∀ F' σ' H', Okf K C H0 F0 δ' F' σ' H' → u Z σ' H') :
    tSeq (tAsg te g) u Z σ H := by
  cases r with
  | ok d =>
    obtain ⟨δ', ts, hg, hu⟩ := hu d rfl
    exact sd_asg (CE := 0) (E := E0) h hg H0 F0 F σ H _ ok fun F' σ' H' ok' => hu F' σ' H' ok'
  | error c => exact sd_seq_rs (u := u) (sd_asg_e h) H0 F0 F σ H Z ok (hE c rfl)
theorem raw_set {g : TG} {ts : List Nat} {δ' : List Sd} (ok : Okf K C H0 F0 δ F σ H) (h : ED K C te δ d) (hg : GD K C g ts δ d δ') (hu : ∀ F' σ' H', Okf K C H0 F0 δ' F' σ' H' → u Z σ' H') : tSeq (tAsg te g) u Z σ H :=
  sd_asg (CE := 0) (E := E0) h hg H0 F0 F σ H _ ok fun F' σ' H' ok' => hu F' σ' H' ok'
/-- a slot that holds what stands at p -/
theorem Okf.slot (ok : Okf K C H0 F0 δ F σ H) {i : Nat} {p : Addr} {d : D} (h : δ[i]? = some (Sd.dat (.at_ p d))) : σ[i]? = some (some (.ref p)) := by
  obtain ⟨v, h1, h2⟩ := ok.ok.dat i _ h
  cases h2
  exact h1
theorem Okf.int (ok : Okf K C H0 F0 δ F σ H) {i : Nat} {n : Int} (h : δ[i]? = some (Sd.dat (.int n))) : σ[i]? = some (some (.int n)) := by
  obtain ⟨v, h1, h2⟩ := ok.ok.dat i _ h
  cases h2
  exact h1
theorem raw_fld {i : Nat} {p : Addr} {f : Str} (ok : Okf K C H0 F0 δ F σ H) (h : ED K C tv δ d) (hs : σ[i]? = some (some (.ref p)))
    (hu : ∀ y F' H', Okf K C H0 F0 δ F' σ H' → Is K C F' y d → ∃ Cl dx fs, H' p = some (.ins Cl dx fs) ∧ Cls K Cl ∧ NoAttr K Cl f ∧ fs.length < 1000 ∧ u Z σ (upd H' p (.ins Cl dx (putF f y fs)))) :
    tSeq (sFld K (tVar i) tv f) u Z σ H := h F σ H _ ok.ok fun y F' H' g is => by
  obtain ⟨Cl, dx, fs, e, h1, h2, h3, h4⟩ := hu y F' H' (ok.grow g) is
  exact ⟨_, hs, p, Cl, dx, fs, rfl, e, h1, h2, h3, h4⟩
end
/-! ### what a deed does -/
abbrev Deed := Lrx8.Model → List Nat → List (List Nat) → Except Int (Lrx8.Model × List Int)
def spD (K : PySem.W.Frag) (C : Nat → Addr) (CE : Addr) (f : Deed) (a b : Nat) : Sp := fun vs H Q E => ∃ ma gv ft m ns ls, vs = [.ref ma, gv] ∧ Tr K C H ma ft m ∧ MOk m ∧ Is K C H gv (given ns ls) ∧ ns.length = a ∧ ls.length = b ∧ (∀ l ∈ ls, l.length ≤ 1000000) ∧
  match f m ns ls with
  | .ok r => ∀ v H' ft', Tr K C H' ma ft' r.1 → (∀ a o, H a = some o → ¬ ft a → H' a = some o) → (∀ a, ft' a → ft a ∨ H a = none) → H' v = some (.lst (r.2.map .int)) → Q (.ref v) H'
  | .error c => Err CE E H c
theorem spD_len {f : Deed} {a b : Nat} (vs : List V) (H : Hp) (Q : VK) (E : XK) (h : spD K C CE f a b vs H Q E) : vs.length = 2 := by
  obtain ⟨_, _, _, _, _, _, rfl, _⟩ := h
  rfl
/-- a query is a deed -/
def qD (q : Lrx8.Model → List Nat → List (List Nat) → Except Int (List Int)) : Deed := fun m ns ls => (q m ns ls).map fun l => (m, l)
theorem spD_q {q : Lrx8.Model → List Nat → List (List Nat) → Except Int (List Int)} {a b : Nat} (vs : List V) (H : Hp) (Q : VK) (E : XK) (h : spD K C CE (qD q) a b vs H Q E) : spP K C CE (R_q q a b) vs H Q E := by
  obtain ⟨ma, gv, ft, m, ns, ls, rfl, t, hm, hg, h1, h2, h3, hq⟩ := h
  refine ⟨H, [encM m, given ns ls], exI (q m ns ls), Ex.refl H, .cons t.is (.cons hg .nil), ⟨m, ns, ls, rfl, hm, h1, h2, h3, rfl⟩, ?_⟩
  unfold qD at hq
  cases e : q m ns ls with
  | error c =>
    rw [e] at hq
    exact hq
  | ok l =>
    rw [e] at hq
    intro v F' H' g is
    unfold encIs at is
    cases is with
    | lst e r =>
      have el := r.ints l
      subst el
      exact hq _ H' ft (t.ex g.h) (fun a o h _ => g.h a o h) (fun a h => .inl h) (g.fh _ _ e)
/-! ### the stations and options by their addresses -/
section
variable {H : Hp} {ma ls : Addr} {vt vl : V} {sa oa : Nat → Addr} {ca : Nat → Nat → Addr} {ft : Addr → Prop} {m : Lrx8.Model}
theorem getSt {i : Nat} {s : Lrx8.Station} (h : m.stations[i]? = some s) : Lrx8.getStation m i = s := by
  unfold Lrx8.getStation
  rw [List.getD_eq_getElem?_getD, h]
  rfl
theorem getCh {k : Nat} {s : Lrx8.Station} {c : Lrx8.Choice} (h : s.choices[k]? = some c) : Lrx8.getChoice s k = c := by
  unfold Lrx8.getChoice
  rw [List.getD_eq_getElem?_getD, h]
  rfl
theorem stsA_get {i : Nat} : (stsA m sa oa ca)[i]? = (m.stations[i]?).map fun s => stA s (sa i) (oa i) (ca i) := by
  unfold stsA
  rw [List.getElem?_mapIdx]
theorem chA_get {k : Nat} {cs : List Lrx8.Choice} {f : Nat → Addr} : (chA (fun _ => 0) f cs)[k]? = (cs[k]?).map fun c => .at_ (f k) (encC c) := by
  unfold chA
  rw [List.getElem?_mapIdx]
theorem stA_st (s : Lrx8.Station) (a o : Addr) (f : Nat → Addr) : StD (stA s a o f) (chA (fun _ => 0) f s.choices) := .at_
theorem ex_stationA {ti tj : TE} {i : Nat} (h1 : ED K A.c ti δ (moA m sa oa ca)) (h2 : ED K A.c tj δ (encN i)) : EX K A.c A.ce (tCall (spP K A.c A.ce R_station_at) [] E (tCons ti (tCons tj tNil))) E δ
    (match m.stations[i]? with | some s => .ok (stA s (sa i) (oa i) (ca i)) | none => .error (-2)) := by
  refine (ex_call (ds := [moA m sa oa ca, encN i]) (ad_cons h1 (ad_cons h2 ad_nil)) ⟨stsA m sa oa ca, fr m.target, fr m.limit, i, rfl, rfl⟩).is ?_
  unfold stR
  rw [stsA_get]
  cases m.stations[i]? <;> rfl
theorem ex_optionA {ti tj tk : TE} {i k : Nat} (h1 : ED K A.c ti δ (moA m sa oa ca)) (h2 : ED K A.c tj δ (encN i)) (h3 : ED K A.c tk δ (encN k)) : EX K A.c A.ce (tCall (spP K A.c A.ce R_option_at) [] E (tCons ti (tCons tj (tCons tk tNil)))) E δ
    (match m.stations[i]? with | some s => (match s.choices[k]? with | some c => .ok (.tup [stA s (sa i) (oa i) (ca i), .at_ (ca i k) (encC c)]) | none => .error (-2)) | none => .error (-2)) := by
  have hst : ∀ e ∈ stsA m sa oa ca, ∃ os, StD e os := by
    intro e he
    obtain ⟨j, hj⟩ := List.mem_iff_getElem?.mp he
    rw [stsA_get] at hj
    cases hs : m.stations[j]? with
    | none =>
      rw [hs] at hj
      cases hj
    | some s =>
      rw [hs] at hj
      cases hj
      exact ⟨_, stA_st _ _ _ _⟩
  refine (ex_call (ds := [moA m sa oa ca, encN i, encN k]) (ad_cons h1 (ad_cons h2 (ad_cons h3 ad_nil))) ⟨stsA m sa oa ca, fr m.target, fr m.limit, i, k, rfl, hst, rfl⟩).is ?_
  · unfold optR
    rw [stsA_get]
    cases hs : m.stations[i]? with
    | none => rfl
    | some s =>
      simp only [Option.map_some]
      rw [(stA_st s (sa i) (oa i) (ca i)).eq, chA_get]
      cases s.choices[k]? <;> rfl
end

/-! ### set_arrival, set_weight -/
def d1 : Deed := fun m ns ls => match ns with
  | [i, a] => match m.stations[i]? with
    | none => .error (-2)
    | some s => if (decide ((1 : Int) ≤ (a : Nat)) && decide ((a : Int) ≤ 100000)) = true then .ok ({ m with stations := m.stations.set i { s with arrival := a } }, [(s.arrival : Int)]) else .error (-22)
  | _ => .ok (m, [])
def d2 : Deed := fun m ns ls => match ns with
  | [i, a] => match m.stations[i]? with
    | none => .error (-2)
    | some s => if decide ((a : Int) ≤ 1000) = true then .ok ({ m with stations := m.stations.set i { s with weight := a } }, [(s.weight : Int)]) else .error (-22)
  | _ => .ok (m, [])
theorem pu_set_arrival (T : Cst K mg A) (vs : List V) (H : Hp) (Q : VK) (E : XK) (h : spD K A.c A.ce d1 2 0 vs H Q E) :
    t_set_arrival K A (spP K A.c A.ce R_station_at) (spP K A.c A.ce R_need) E { nx := fun _ H' => Q .non H', rt := Q } (L2.start ["model", "given", "station", "old"] vs) H := by
  obtain ⟨ma, gv, ft, m, ns, ls, rfl, ⟨l0, vt, vl, sa, oa, ca, t⟩, hm, hg, h1, h2, _, hq⟩ := h
  obtain ⟨i, a, rfl⟩ := len2 h1
  obtain rfl := len0 h2
  have ok := enter (N := ["model", "given", "station", "old"]) 2 (IsL.cons t.isA (.cons hg .nil)) rfl
  refine raw_asg ok (ex_stationA (ed_var rfl) (ed_op (ed_var (d := given [i, a] []) rfl) ed_int (rd_ix_l rfl))) (fun c hc => ?_) fun d hd => ?_
  · unfold d1 at hq
    dsimp only at hq
    cases e : m.stations[i]? with
    | none =>
      rw [e] at hc hq
      cases hc
      exact hq
    | some s =>
      rw [e] at hc
      cases hc
  · cases e : m.stations[i]? with
    | none =>
      rw [e] at hd
      cases hd
    | some s =>
      rw [e] at hd
      cases hd
      refine ⟨_, _, gd_name, fun F1 σ1 H1 ok => ?_⟩
      unfold d1 at hq
      dsimp only at hq
      rw [e] at hq
      dsimp only at hq
      refine raw_need ok (ed_chain ed_int (ed_op (ed_var (d := given [i, a] []) rfl) ed_int (rd_ix_l rfl)) rd_B0 (fun _ => ed_int) fun _ => rd_B0) (fun q => ?_) fun q F2 σ2 H2 ok => ?_
      · rw [if_neg (by rw [q]; decide)] at hq
        exact hq
      · rw [if_pos q] at hq
        refine raw_set ok (ed_arrival T (ed_var (d := stA s (sa i) (oa i) (ca i)) rfl).forget) gd_name fun F3 σ3 H3 ok => ?_
        refine raw_fld ok (ed_op (ed_var (d := given [i, a] []) rfl) ed_int (rd_ix_l rfl)) (ok.slot rfl) fun y F4 H4 ok is => ?_
        cases is
        have t4 := t.ex ok.ex
        obtain ⟨dx, es⟩ := t4.st i s e
        refine ⟨_, dx, _, es, T.cls1, T.a_arrival, Nat.le_of_ble_eq_true rfl, ?_⟩
        refine ⟨_, ok.int (n := s.arrival) rfl, Nat.le_of_ble_eq_true rfl, fun r hr => ?_⟩
        have t5 := t4.setS (s' := { s with arrival := a }) e rfl upd_kp ⟨dx, upd_same⟩
        refine hq r _ ft ⟨_, _, _, _, _, _, t5.ex (Ex.new hr)⟩ (fun b o hb hf => ?_) (fun b h => .inl h) upd_same
        have n1 : b ≠ sa i := fun z => hf (by rw [z]; exact (t.fs i (lt_of_some e)).1)
        have e4 := ok.ex _ _ hb
        have e5 : upd H4 (sa i) (stO A.c dx { s with arrival := a } (oa i)) b = some o := by rw [upd_ne n1]; exact e4
        exact Ex.new hr _ _ e5
theorem pr_set_arrival (T : Txt K mg A) : CalX P w K mg base 5 "set_arrival" (spD K A.c A.ce d1 2 0) := cal_set_arrival T (pr_station_at T) (pr_need T) spD_len (pu_set_arrival T.toCst)
theorem pu_set_weight (T : Cst K mg A) (vs : List V) (H : Hp) (Q : VK) (E : XK) (h : spD K A.c A.ce d2 2 0 vs H Q E) :
    t_set_weight K A (spP K A.c A.ce R_station_at) (spP K A.c A.ce R_need) E { nx := fun _ H' => Q .non H', rt := Q } (L2.start ["model", "given", "station", "old"] vs) H := by
  obtain ⟨ma, gv, ft, m, ns, ls, rfl, ⟨l0, vt, vl, sa, oa, ca, t⟩, hm, hg, h1, h2, _, hq⟩ := h
  obtain ⟨i, a, rfl⟩ := len2 h1
  obtain rfl := len0 h2
  have ok := enter (N := ["model", "given", "station", "old"]) 2 (IsL.cons t.isA (.cons hg .nil)) rfl
  refine raw_asg ok (ex_stationA (ed_var rfl) (ed_op (ed_var (d := given [i, a] []) rfl) ed_int (rd_ix_l rfl))) (fun c hc => ?_) fun d hd => ?_
  · unfold d2 at hq
    dsimp only at hq
    cases e : m.stations[i]? with
    | none =>
      rw [e] at hc hq
      cases hc
      exact hq
    | some s =>
      rw [e] at hc
      cases hc
  · cases e : m.stations[i]? with
    | none =>
      rw [e] at hd
      cases hd
    | some s =>
      rw [e] at hd
      cases hd
      refine ⟨_, _, gd_name, fun F1 σ1 H1 ok => ?_⟩
      unfold d2 at hq
      dsimp only at hq
      rw [e] at hq
      dsimp only at hq
      refine raw_need ok (ed_op (ed_op (ed_var (d := given [i, a] []) rfl) ed_int (rd_ix_l rfl)) ed_int rd_B0) (fun q => ?_) fun q F2 σ2 H2 ok => ?_
      · rw [if_neg (by rw [q]; decide)] at hq
        exact hq
      · rw [if_pos q] at hq
        refine raw_set ok (ed_weight T (ed_var (d := stA s (sa i) (oa i) (ca i)) rfl).forget) gd_name fun F3 σ3 H3 ok => ?_
        refine raw_fld ok (ed_op (ed_var (d := given [i, a] []) rfl) ed_int (rd_ix_l rfl)) (ok.slot rfl) fun y F4 H4 ok is => ?_
        cases is
        have t4 := t.ex ok.ex
        obtain ⟨dx, es⟩ := t4.st i s e
        refine ⟨_, dx, _, es, T.cls1, T.a_weight, Nat.le_of_ble_eq_true rfl, ?_⟩
        refine ⟨_, ok.int (n := s.weight) rfl, Nat.le_of_ble_eq_true rfl, fun r hr => ?_⟩
        have t5 := t4.setS (s' := { s with weight := a }) e rfl upd_kp ⟨dx, upd_same⟩
        refine hq r _ ft ⟨_, _, _, _, _, _, t5.ex (Ex.new hr)⟩ (fun b o hb hf => ?_) (fun b h => .inl h) upd_same
        have n1 : b ≠ sa i := fun z => hf (by rw [z]; exact (t.fs i (lt_of_some e)).1)
        have e4 := ok.ex _ _ hb
        have e5 : upd H4 (sa i) (stO A.c dx { s with weight := a } (oa i)) b = some o := by rw [upd_ne n1]; exact e4
        exact Ex.new hr _ _ e5
theorem pr_set_weight (T : Txt K mg A) : CalX P w K mg base 5 "set_weight" (spD K A.c A.ce d2 2 0) := cal_set_weight T (pr_station_at T) (pr_need T) spD_len (pu_set_weight T.toCst)

/-! ### set_target, set_limit -/
def d3 : Deed := fun m ns ls => match ns with
  | [n, d] => (frR n d).map fun q => ({ m with target := ofRat q }, [0])
  | _ => .ok (m, [])
theorem pu_set_target (T : Cst K mg A) (vs : List V) (H : Hp) (Q : VK) (E : XK) (h : spD K A.c A.ce d3 2 0 vs H Q E) :
    t_set_target K A (spP K A.c A.ce R_fraction_in) E { nx := fun _ H' => Q .non H', rt := Q } (L2.start ["model", "given"] vs) H := by
  obtain ⟨ma, gv, ft, m, ns, ls, rfl, ⟨l0, vt, vl, sa, oa, ca, t⟩, hm, hg, h1, h2, _, hq⟩ := h
  obtain ⟨n, d, rfl⟩ := len2 h1
  obtain rfl := len0 h2
  have ok := enter (N := ["model", "given"]) 0 (IsL.cons (Is.at_ t.isA) (.cons hg .nil)) rfl
  have hx : EX K A.c A.ce (tCall (spP K A.c A.ce R_fraction_in) [] E (tCons (tOp (rIx K) (tVar 1) (tC (.int 0))) (tCons (tOp (rIx K) (tVar 1) (tC (.int 1))) tNil))) E [.dat (.at_ ma (moA m sa oa ca)), .dat (given [n, d] [])] ((frR n d).map rq) := ex_fraction (ed_op (ed_var (d := given [n, d] []) rfl) ed_int (rd_ix_l rfl)) (ed_op (ed_var (d := given [n, d] []) rfl) ed_int (rd_ix_l rfl))
  unfold d3 at hq
  dsimp only at hq
  cases e : frR n d with
  | error c =>
    rw [e] at hx hq
    exact hx _ _ _ _ ok.ok hq
  | ok q =>
    rw [e] at hx hq
    refine raw_fld ok hx (ok.slot rfl) fun y F4 H4 ok is => ?_
    have t4 := t.ex ok.ex
    obtain ⟨dx, es⟩ := t4.mo
    refine ⟨_, dx, _, es, T.cls2, T.a_target, Nat.le_of_ble_eq_true rfl, ?_⟩
    refine ⟨Nat.le_of_ble_eq_true rfl, fun r hr => ?_⟩
    have t5 := t4.setM (vt' := y) (vl' := vl) (tg := ofRat q) (lm := m.limit) upd_kp ⟨dx, upd_same⟩ ((upd_kp.fr es moO_ins (is.mono ok.gr.fh))) (upd_kp.fr es moO_ins t4.lm)
    refine hq r _ ft ⟨_, _, _, _, _, _, t5.ex (Ex.new hr)⟩ (fun b o hb hf => ?_) (fun b h => .inl h) upd_same
    have n1 : b ≠ ma := fun z => hf (by rw [z]; exact t.fm)
    have e4 := ok.ex _ _ hb
    exact Ex.new hr _ _ (by rw [upd_ne n1]; exact e4)
theorem pr_set_target (T : Txt K mg A) : CalX P w K mg base 5 "set_target" (spD K A.c A.ce d3 2 0) := cal_set_target T (pr_fraction_in T) spD_len (pu_set_target T.toCst)
def d4 : Deed := fun m ns ls => match ns with
  | [n, d] => if ((decide ((1 : Int) ≤ (d : Nat)) && decide ((d : Int) ≤ 1000000)) && (decide ((1 : Int) ≤ (n : Nat)) && decide ((n : Int) ≤ (d : Nat)))) = true then .ok ({ m with limit := ofRat (mkRat n d) }, [0]) else .error (-22)
  | _ => .ok (m, [])
theorem gd_unl2 {i j : Nat} {x y : D} : GD K C (gUnl K 2 (gCons (gName i) (gCons (gName j) gNil))) [i, j] δ (.lst [x, y]) ((δ.set i (.dat x)).set j (.dat y)) := gd_unl (gds_cons gd_name (gds_cons gd_name gds_nil)) rfl
theorem pu_set_limit (T : Cst K mg A) (vs : List V) (H : Hp) (Q : VK) (E : XK) (h : spD K A.c A.ce d4 2 0 vs H Q E) :
    t_set_limit K A (spP K A.c A.ce R_need) (spP K A.c A.ce R_fraction) E { nx := fun _ H' => Q .non H', rt := Q } (L2.start ["model", "given", "num", "den"] vs) H := by
  obtain ⟨ma, gv, ft, m, ns, ls, rfl, ⟨l0, vt, vl, sa, oa, ca, t⟩, hm, hg, h1, h2, _, hq⟩ := h
  obtain ⟨n, d, rfl⟩ := len2 h1
  obtain rfl := len0 h2
  have ok := enter (N := ["model", "given", "num", "den"]) 2 (IsL.cons (Is.at_ t.isA) (.cons hg .nil)) rfl
  unfold d4 at hq
  dsimp only at hq
  refine raw_set ok (ed_var (d := given [n, d] []) rfl) gd_unl2 fun F1 σ1 H1 ok => ?_
  refine raw_need ok (ed_andV (ed_chain ed_int (ed_var (d := encN d) rfl) rd_B0 (fun _ => ed_int) fun _ => rd_B0) fun _ => ed_chain ed_int (ed_var (d := encN n) rfl) rd_B0 (fun _ => ed_var (d := encN d) rfl) fun _ => rd_B0) (fun q => ?_) fun q F2 σ2 H2 ok => ?_
  · rw [if_neg (by rw [q]; decide)] at hq
    exact hq
  · rw [if_pos q] at hq
    simp only [Bool.and_eq_true, decide_eq_true_eq] at q
    refine raw_fld (d := rq (mkRat n d)) ok (ed_call (ds := [encN n, encN d]) (ad_cons (ed_var rfl) (ad_cons (ed_var rfl) ad_nil)) ⟨n, d, d, rfl, rfl, by omega, Nat.lt_of_lt_of_le (by omega : d < 2 ^ 20) (Nat.pow_le_pow_right (by decide) (by decide)), rfl⟩) (ok.slot rfl) fun y F4 H4 ok is => ?_
    have t4 := t.ex ok.ex
    obtain ⟨dx, es⟩ := t4.mo
    refine ⟨_, dx, _, es, T.cls2, T.a_limit, Nat.le_of_ble_eq_true rfl, ?_⟩
    refine ⟨Nat.le_of_ble_eq_true rfl, fun r hr => ?_⟩
    have t5 := t4.setM (vt' := vt) (vl' := y) (tg := m.target) (lm := ofRat (mkRat n d)) upd_kp ⟨dx, upd_same⟩ (upd_kp.fr es moO_ins t4.tg) ((upd_kp.fr es moO_ins (is.mono ok.gr.fh)))
    refine hq r _ ft ⟨_, _, _, _, _, _, t5.ex (Ex.new hr)⟩ (fun b o hb hf => ?_) (fun b h => .inl h) upd_same
    have n1 : b ≠ ma := fun z => hf (by rw [z]; exact t.fm)
    have e4 := ok.ex _ _ hb
    exact Ex.new hr _ _ (by rw [upd_ne n1]; exact e4)
theorem pr_set_limit (T : Txt K mg A) : CalX P w K mg base 4 "set_limit" (spD K A.c A.ce d4 2 0) := cal_set_limit T (pr_need T) (pr_fraction T) spD_len (pu_set_limit T.toCst)
end
end Pd

/-! ## Hp4 -/
set_option Elab.async false
set_option linter.all false
set_option maxRecDepth 100000
set_option maxHeartbeats 2000000
set_option autoImplicit false
/-! The operations that change a station's options; a new model. -/
namespace Pd
open PySem PySem.Spec PyProof.Rows L2 Mt
section
variable {K : PySem.W.Frag} {C : Nat → Addr} {CE : Addr} {mg : Str → Option Value} {A : Ad} {P : Program} {w : World} {base : Heap} {δ : List Sd} {te tb tv : TE} {E : XK} {d : D} {ds : List D} {c : Int}
section
variable {m : Lrx8.Model} {sa oa : Nat → Addr} {ca : Nat → Nat → Addr}
theorem ex_opt1 {ti tj tk : TE} {i k : Nat} (h1 : ED K A.c ti δ (moA m sa oa ca)) (h2 : ED K A.c tj δ (encN i)) (h3 : ED K A.c tk δ (encN k)) : EX K A.c A.ce (tOp (rIx K) (tCall (spP K A.c A.ce R_option_at) [] E (tCons ti (tCons tj (tCons tk tNil)))) (tC (.int 1))) E δ
    (match m.stations[i]? with | some s => (match s.choices[k]? with | some c => .ok (.at_ (ca i k) (encC c)) | none => .error (-2)) | none => .error (-2)) := by
  have hx := ex_optionA (E := E) h1 h2 h3
  cases e : m.stations[i]? with
  | none =>
    rw [e] at hx
    exact er_op1 hx
  | some s =>
    rw [e] at hx
    dsimp only at hx ⊢
    cases e2 : s.choices[k]? with
    | none =>
      rw [e2] at hx
      exact er_op1 hx
    | some c =>
      rw [e2] at hx
      exact ed_op hx ed_int (rd_ix_t rfl)
theorem ex_opt0 {ti tj tk : TE} {i k : Nat} (h1 : ED K A.c ti δ (moA m sa oa ca)) (h2 : ED K A.c tj δ (encN i)) (h3 : ED K A.c tk δ (encN k)) : EX K A.c A.ce (tOp (rIx K) (tCall (spP K A.c A.ce R_option_at) [] E (tCons ti (tCons tj (tCons tk tNil)))) (tC (.int 0))) E δ
    (match m.stations[i]? with | some s => (match s.choices[k]? with | some c => .ok (stA s (sa i) (oa i) (ca i)) | none => .error (-2)) | none => .error (-2)) := by
  have hx := ex_optionA (E := E) h1 h2 h3
  cases e : m.stations[i]? with
  | none =>
    rw [e] at hx
    exact er_op1 hx
  | some s =>
    rw [e] at hx
    dsimp only at hx ⊢
    cases e2 : s.choices[k]? with
    | none =>
      rw [e2] at hx
      exact er_op1 hx
    | some c =>
      rw [e2] at hx
      exact ed_op hx ed_int (rd_ix_t rfl)
end
theorem len3 {α : Type} {l : List α} (h : l.length = 3) : ∃ a b c, l = [a, b, c] := by
  match l, h with
  | [a, b, c], _ => exact ⟨a, b, c, rfl⟩
theorem len4' {α : Type} {l : List α} (h : l.length = 4) : ∃ a b c d, l = [a, b, c, d] := by
  match l, h with
  | [a, b, c, d], _ => exact ⟨a, b, c, d, rfl⟩
theorem ch_set_get {l : List Lrx8.Choice} {i j : Nat} {s u : Lrx8.Choice} (h : (l.set i s)[j]? = some u) : (j = i ∧ u = s) ∨ (j ≠ i ∧ l[j]? = some u) := by
  by_cases q : j = i
  · subst q
    left
    refine ⟨rfl, ?_⟩
    have hl := lt_of_some h
    rw [List.length_set] at hl
    rw [List.getElem?_set_self hl] at h
    cases h
    rfl
  · rw [List.getElem?_set_ne (by omega)] at h
    exact .inr ⟨q, h⟩
/-! ### set_cost -/
def d7 : Deed := fun m ns ls => match ns with
  | [i, k, x] => match m.stations[i]? with
    | none => .error (-2)
    | some s => match s.choices[k]? with
      | none => .error (-2)
      | some c => if decide ((x : Int) ≤ 100000) = true then .ok ({ m with stations := m.stations.set i { s with choices := s.choices.set k { c with cost := x } } }, [(c.cost : Int)]) else .error (-22)
  | _ => .ok (m, [])
theorem pu_set_cost (T : Cst K mg A) (vs : List V) (H : Hp) (Q : VK) (E : XK) (h : spD K A.c A.ce d7 3 0 vs H Q E) :
    t_set_cost K A (spP K A.c A.ce R_need) (spP K A.c A.ce R_option_at) E { nx := fun _ H' => Q .non H', rt := Q } (L2.start ["model", "given", "option", "old"] vs) H := by
  obtain ⟨ma, gv, ft, m, ns, ls, rfl, ⟨l0, vt, vl, sa, oa, ca, t⟩, hm, hg, h1, h2, _, hq⟩ := h
  obtain ⟨i, k, x, rfl⟩ := len3 h1
  obtain rfl := len0 h2
  have ok := enter (N := ["model", "given", "option", "old"]) 2 (IsL.cons t.isA (.cons hg .nil)) rfl
  unfold d7 at hq
  dsimp only at hq
  refine raw_asg ok (ex_opt1 (ed_var rfl) (ed_op (ed_var (d := given [i, k, x] []) rfl) ed_int (rd_ix_l rfl)) (ed_op (ed_var (d := given [i, k, x] []) rfl) ed_int (rd_ix_l rfl))) (fun c hc => ?_) fun d hd => ?_
  · cases e : m.stations[i]? with
    | none =>
      rw [e] at hc hq
      cases hc
      exact hq
    | some s =>
      rw [e] at hc hq
      dsimp only at hc hq
      cases e2 : s.choices[k]? with
      | none =>
        rw [e2] at hc hq
        cases hc
        exact hq
      | some c =>
        rw [e2] at hc
        cases hc
  · cases e : m.stations[i]? with
    | none =>
      rw [e] at hd
      cases hd
    | some s =>
      rw [e] at hd hq
      dsimp only at hd hq
      cases e2 : s.choices[k]? with
      | none =>
        rw [e2] at hd
        cases hd
      | some c =>
        rw [e2] at hd hq
        cases hd
        dsimp only at hq
        have hk := lt_of_some e2
        refine ⟨_, _, gd_name, fun F1 σ1 H1 ok => ?_⟩
        refine raw_need ok (ed_op (ed_op (ed_var (d := given [i, k, x] []) rfl) ed_int (rd_ix_l rfl)) ed_int rd_B0) (fun q => ?_) fun q F2 σ2 H2 ok => ?_
        · rw [if_neg (by rw [q]; decide)] at hq
          exact hq
        · rw [if_pos q] at hq
          refine raw_set ok (ed_cost T (ed_var (d := .at_ (ca i k) (encC c)) rfl).forget) gd_name fun F3 σ3 H3 ok => ?_
          refine raw_fld ok (ed_op (ed_var (d := given [i, k, x] []) rfl) ed_int (rd_ix_l rfl)) (ok.slot rfl) fun y F4 H4 ok is => ?_
          cases is
          have t4 := t.ex ok.ex
          obtain ⟨dx, es⟩ := t4.ch i s k c e e2
          refine ⟨_, dx, _, es, T.cls0, T.a_cost, Nat.le_of_ble_eq_true rfl, ?_⟩
          refine ⟨_, ok.int (n := c.cost) rfl, Nat.le_of_ble_eq_true rfl, fun r hr => ?_⟩
          have hop := t4.op i s e
          have n_oc : oa i ≠ ca i k := ne_of hop es (Ne.symm (ne_ins_lst ⟨_, _, _, rfl⟩))
          have t5 := t4.setO (ft' := ft) (cs := s.choices.set k { c with cost := x }) (cn := ca i) (H' := upd H4 (ca i k) (chO A.c dx { c with cost := x })) e es (.inr ⟨⟨_, _, rfl⟩, k, hk, rfl⟩) upd_kp (by rw [upd_ne n_oc, List.length_set]; exact hop)
            (fun l c' hl => by
              rcases ch_set_get hl with ⟨rfl, rfl⟩ | ⟨q1, hl⟩
              · exact ⟨dx, upd_same⟩
              · obtain ⟨dy, e3⟩ := t4.ch i s l c' e hl
                exact ⟨dy, by rw [upd_ne fun z => q1 (t4.jc _ _ _ _ _ _ e e (lt_of_some hl) hk z).2]; exact e3⟩)
            (fun a b ha hb z => by
              rw [List.length_set] at ha hb
              exact (t4.jc _ _ _ _ _ _ e e ha hb z).2)
            (fun a ha => by
              rw [List.length_set] at ha
              exact .inl ⟨a, ha, rfl⟩) (fun a h => h) (fun a ha => by
              rw [List.length_set] at ha
              exact t4.fc i s a e ha)
          refine hq r _ ft ⟨_, _, _, _, _, _, t5.ex (Ex.new hr)⟩ (fun b o hb hf => ?_) (fun b h => .inl h) upd_same
          have n1 : b ≠ ca i k := fun z => hf (by rw [z]; exact t.fc i s k e hk)
          have e4 := ok.ex _ _ hb
          exact Ex.new hr _ _ (by rw [upd_ne n1]; exact e4)
theorem pr_set_cost (T : Txt K mg A) : CalX P w K mg base 6 "set_cost" (spD K A.c A.ce d7 3 0) := cal_set_cost T (pr_need T) (pr_option_at T) spD_len (pu_set_cost T.toCst)

/-! ### reading a station's options -/
theorem raw_options (T : Cst K mg A) {i : Nat} {σ : L2.St} {H : Hp} {Q : VK} {dx p o : Addr} {s : Lrx8.Station} (h : σ[i]? = some (some (.ref p))) (e : H p = some (stO A.c dx s o)) (q : Q (.ref o) H) : tFld K (tVar i) "options" σ H Q :=
  ⟨_, h, p, A.c 1, dx, _, _, rfl, e, T.cls1, T.a_options, rfl, q⟩
theorem raw_len (T : Cst K mg A) {i : Nat} {σ : L2.St} {H : Hp} {Q : VK} {dx p o : Addr} {s : Lrx8.Station} {vs : List V} (h : σ[i]? = some (some (.ref p))) (e : H p = some (stO A.c dx s o)) (e2 : H o = some (.lst vs)) (q : Q (.int vs.length) H) : tCB (rLen1 K) (tCons (tFld K (tVar i) "options") tNil) σ H Q :=
  raw_options T h e ⟨o, vs, rfl, .inl (.of e2), q⟩

/-! ### add_option -/
def d5 : Deed := fun m ns ls => match ns with
  | [i, v, r, x] => match m.stations[i]? with
    | none => .error (-2)
    | some s => if ((decide ((1 : Int) ≤ (v : Nat)) && decide ((v : Int) ≤ 10)) && ((decide ((1 : Int) ≤ (r : Nat)) && decide ((r : Int) ≤ 100000)) && decide ((x : Int) ≤ 100000))) = true then
        if decide ((s.choices.length : Int) < 6) = true then .ok ({ m with stations := m.stations.set i { s with choices := s.choices ++ [⟨v, r, x⟩] } }, [(s.choices.length : Int)]) else .error (-28) else .error (-22)
  | _ => .ok (m, [])
theorem gd_unl4 {i j k l : Nat} {x y z u : D} : GD K C (gUnl K 4 (gCons (gName i) (gCons (gName j) (gCons (gName k) (gCons (gName l) gNil))))) [i, j, k, l] δ (.lst [x, y, z, u]) ((((δ.set i (.dat x)).set j (.dat y)).set k (.dat z)).set l (.dat u)) := gd_unl (gds_cons gd_name (gds_cons gd_name (gds_cons gd_name (gds_cons gd_name gds_nil)))) rfl
theorem pu_add_option (T : Cst K mg A) (vs : List V) (H : Hp) (Q : VK) (E : XK) (h : spD K A.c A.ce d5 4 0 vs H Q E) :
    t_add_option K A (spP K A.c A.ce R_station_at) (spP K A.c A.ce R_need) (sp_Option K A.c) E { nx := fun _ H' => Q .non H', rt := Q } (L2.start ["model", "given", "number", "servers", "rate", "cost", "station"] vs) H := by
  obtain ⟨ma, gv, ft, m, ns, ls, rfl, ⟨l0, vt, vl, sa, oa, ca, t⟩, hm, hg, h1, h2, _, hq⟩ := h
  obtain ⟨i, v, r, x, rfl⟩ := len4' h1
  obtain rfl := len0 h2
  have ok := enter (N := ["model", "given", "number", "servers", "rate", "cost", "station"]) 5 (IsL.cons t.isA (.cons hg .nil)) rfl
  unfold d5 at hq
  dsimp only at hq
  refine raw_set ok (ed_var (d := given [i, v, r, x] []) rfl) gd_unl4 fun F0 σ0 H0 ok => ?_
  refine raw_asg ok (ex_stationA (ed_var rfl) (ed_var (d := encN i) rfl)) (fun c hc => ?_) fun d hd => ?_
  · cases e : m.stations[i]? with
    | none =>
      rw [e] at hc hq
      cases hc
      exact hq
    | some s =>
      rw [e] at hc
      cases hc
  · cases e : m.stations[i]? with
    | none =>
      rw [e] at hd
      cases hd
    | some s =>
      rw [e] at hd hq
      cases hd
      dsimp only at hq
      refine ⟨_, _, gd_name, fun F1 σ1 H1 ok => ?_⟩
      refine raw_need ok (ed_andV (ed_chain ed_int (ed_var (d := encN v) rfl) rd_B0 (fun _ => ed_int) fun _ => rd_B0) fun _ => ed_andV (ed_chain ed_int (ed_var (d := encN r) rfl) rd_B0 (fun _ => ed_int) fun _ => rd_B0) fun _ => ed_op (ed_var (d := encN x) rfl) ed_int rd_B0) (fun q => ?_) fun q F2 σ2 H2 ok => ?_
      · rw [if_neg (by rw [q]; decide)] at hq
        exact hq
      · rw [if_pos q] at hq
        have hlen : ED K A.c (tCB (rLen1 K) (tCons (tFld K (tVar 6) "options") tNil)) [.dat (moA m sa oa ca), .dat (given [i, v, r, x] []), .dat (encN i), .dat (encN v), .dat (encN r), .dat (encN x), .dat (stA s (sa i) (oa i) (ca i))] (.int s.choices.length) :=
          (ed_cb (ds := [.lst (chA (fun _ => 0) (ca i) s.choices)]) (ad_cons (ed_optD T (stA_st s (sa i) (oa i) (ca i)) (ed_var rfl)) ad_nil) cd_len).is (by unfold chA; rw [List.length_mapIdx])
        refine raw_need ok (ed_op hlen ed_int rd_B0) (fun q => ?_) fun q F3 σ3 H3 ok => ?_
        · rw [if_neg (by rw [q]; decide)] at hq
          exact hq
        · rw [if_pos q] at hq
          have q6 := of_decide_eq_true q
          have t3 := t.ex ok.ex
          obtain ⟨dx, es⟩ := t3.st i s e
          have s6 : σ3[6]? = some (some (.ref (sa i))) := ok.slot (d := .obj 1 (.int s.arrival) (.int s.weight) (.at_ (oa i) (.lst (chA (fun _ => 0) (ca i) s.choices)))) rfl
          have hop := t3.op i s e
          unfold tSeq tDrop tBM
          refine raw_options T s6 es ?_
          refine ⟨.inl ⟨rfl, _, .of hop⟩, ?_⟩
          refine ⟨_, ok.int (n := v) rfl, _, ok.int (n := r) rfl, _, ok.int (n := x) rfl, fun a dn ha hdn hne => ⟨a, dn, ⟨v, r, x⟩, rfl, upd_same, fun H4 e1 r4 => ⟨rfl, ?_⟩⟩⟩
          have ex4 : Ex H3 H4 := fun b u hb => by
            have n1 := ne_of_none hb ha
            have n3 := ne_of_none hb hdn
            rw [r4 b n1, upd_ne n1, upd_ne n3]
            exact hb
          have hop4 := ex4 _ _ hop
          have es4 := ex4 _ _ es
          have n_oa : oa i ≠ a := ne_of_none hop ha
          have n_so : sa i ≠ oa i := ne_of es hop (ne_ins_lst ⟨_, _, _, rfl⟩)
          refine ⟨oa i, _, .ref a, rfl, rfl, hop4, by rw [refs_len]; exact Nat.lt_of_lt_of_le (show s.choices.length < 6 by omega) (by decide), ?_⟩
          refine raw_len T (vs := refs s.choices.length (ca i) ++ [.ref a]) s6 (by rw [upd_ne n_so]; exact es4) upd_same ?_
          refine ⟨_, 1, rfl, rfl, ?_⟩
          refine ⟨Nat.le_of_ble_eq_true rfl, fun r' hr => ?_⟩
          have hcl : (s.choices ++ [(⟨v, r, x⟩ : Lrx8.Choice)]).length = s.choices.length + 1 := by simp
          have t5 := (t3.ex ex4).setO (ft' := fun b => ft b ∨ b = a) (cs := s.choices ++ [⟨v, r, x⟩]) (cn := fun l => if l = s.choices.length then a else ca i l) (H' := upd H4 (oa i) (.lst (refs s.choices.length (ca i) ++ [.ref a]))) e hop4 (.inl ⟨rfl, rfl⟩) upd_kp
            (by rw [upd_same, hcl, refs_succ, if_pos rfl, refs_congr (f := fun l => if l = s.choices.length then a else ca i l) (g := ca i) fun l hl => if_neg (by omega)])
            (fun l c' hl => by
              by_cases ql : l = s.choices.length
              · rw [if_pos ql]
                subst ql
                rw [List.getElem?_append_right (Nat.le_refl _), Nat.sub_self] at hl
                cases hl
                exact ⟨dn, by rw [upd_ne (Ne.symm n_oa)]; exact e1⟩
              · rw [if_neg ql]
                have hl2 := lt_of_some hl
                rw [hcl] at hl2
                rw [List.getElem?_append_left (by omega)] at hl
                obtain ⟨dy, e3⟩ := t3.ch i s l c' e hl
                exact ⟨dy, by rw [upd_ne (ne_of e3 hop (ne_ins_lst ⟨_, _, _, rfl⟩))]; exact ex4 _ _ e3⟩)
            (fun p1 p2 hp1 hp2 z => by
              rw [hcl] at hp1 hp2
              have cr : ∀ l, l < s.choices.length → ca i l ≠ a := fun l hl z => by
                obtain ⟨dy, e3⟩ := t3.ch i s l _ e (List.getElem?_eq_getElem hl)
                exact ne_of_none e3 ha z
              by_cases w1 : p1 = s.choices.length
              · by_cases w2 : p2 = s.choices.length
                · omega
                · rw [if_pos w1, if_neg w2] at z
                  exact absurd z.symm (cr p2 (by omega))
              · by_cases w2 : p2 = s.choices.length
                · rw [if_neg w1, if_pos w2] at z
                  exact absurd z (cr p1 (by omega))
                · rw [if_neg w1, if_neg w2] at z
                  exact (t3.jc _ _ _ _ _ _ e e (by omega) (by omega) z).2)
            (fun l hl => by
              rw [hcl] at hl
              by_cases ql : l = s.choices.length
              · rw [if_pos ql]
                exact .inr fun j u y hu hy z => by
                  obtain ⟨dy, e3⟩ := t3.ch j u y _ hu (List.getElem?_eq_getElem hy)
                  exact ne_of_none e3 ha z
              · rw [if_neg ql]
                exact .inl ⟨l, by omega, rfl⟩)
            (fun b h => .inl h) (fun l hl => by
              rw [hcl] at hl
              by_cases ql : l = s.choices.length
              · rw [if_pos ql]
                exact .inr rfl
              · rw [if_neg ql]
                exact .inl (t3.fc i s l e (by omega)))
          have hres : ((refs s.choices.length (ca i) ++ [V.ref a]).length : Int) - 1 = (s.choices.length : Int) := by
            rw [List.length_append, refs_len]
            show ((s.choices.length + 1 : Nat) : Int) - 1 = _
            omega
          refine hq r' _ _ ⟨_, _, _, _, _, _, t5.ex (Ex.new hr)⟩ (fun b o hb hf => ?_) (fun b h => h.imp id fun z => ?_) (by rw [upd_same]; exact congrArg (fun z => some (HO.lst [V.int z])) hres)
          · have n1 : b ≠ oa i := fun z => hf (by rw [z]; exact (t.fs i (lt_of_some e)).2)
            exact Ex.new hr _ _ (by rw [upd_ne n1]; exact ex4 _ _ (ok.ex _ _ hb))
          · rw [z]
            exact ok.ex.back ha
theorem pr_add_option (T : Txt K mg A) (M : MakX P w K mg base 1 "Option" (A.c 0) (sp_Option K A.c)) : CalX P w K mg base 5 "add_option" (spD K A.c A.ce d5 4 0) := cal_add_option T (pr_station_at T) (pr_need T) M spD_len (pu_add_option T.toCst)

/-! ### remove_option -/
def d6 : Deed := fun m ns ls => match ns with
  | [i, k] => match m.stations[i]? with
    | none => .error (-2)
    | some s => match s.choices[k]? with
      | none => .error (-2)
      | some _ => .ok ({ m with stations := m.stations.set i { s with choices := s.choices.eraseIdx k } }, [((s.choices.length - 1 : Nat) : Int)])
  | _ => .ok (m, [])
theorem erase_get {l : List Lrx8.Choice} {k j : Nat} : (l.eraseIdx k)[j]? = if j < k then l[j]? else l[j + 1]? := by
  rw [List.getElem?_eraseIdx]
theorem erase_refs {n k : Nat} {f : Nat → Addr} (h : k < n) : (refs n f).eraseIdx k = refs (n - 1) fun l => if l < k then f l else f (l + 1) := by
  apply List.ext_getElem?
  intro j
  rw [List.getElem?_eraseIdx]
  by_cases h1 : j < n - 1
  · rw [refs_get h1]
    by_cases h2 : j < k
    · rw [if_pos h2, if_pos h2, refs_get (by omega)]
    · rw [if_neg h2, if_neg h2, refs_get (by omega)]
  · rw [List.getElem?_eq_none (l := refs (n - 1) _) (by rw [refs_len]; omega)]
    rw [if_neg (by omega), List.getElem?_eq_none (by rw [refs_len]; omega)]
theorem pu_remove_option (T : Cst K mg A) (vs : List V) (H : Hp) (Q : VK) (E : XK) (h : spD K A.c A.ce d6 2 0 vs H Q E) :
    t_remove_option K A (spP K A.c A.ce R_option_at) E { nx := fun _ H' => Q .non H', rt := Q } (L2.start ["model", "given", "station"] vs) H := by
  obtain ⟨ma, gv, ft, m, ns, ls, rfl, ⟨l0, vt, vl, sa, oa, ca, t⟩, hm, hg, h1, h2, _, hq⟩ := h
  obtain ⟨i, k, rfl⟩ := len2 h1
  obtain rfl := len0 h2
  have ok := enter (N := ["model", "given", "station"]) 1 (IsL.cons t.isA (.cons hg .nil)) rfl
  unfold d6 at hq
  dsimp only at hq
  refine raw_asg ok (ex_opt0 (ed_var rfl) (ed_op (ed_var (d := given [i, k] []) rfl) ed_int (rd_ix_l rfl)) (ed_op (ed_var (d := given [i, k] []) rfl) ed_int (rd_ix_l rfl))) (fun c hc => ?_) fun d hd => ?_
  · cases e : m.stations[i]? with
    | none =>
      rw [e] at hc hq
      cases hc
      exact hq
    | some s =>
      rw [e] at hc hq
      dsimp only at hc hq
      cases e2 : s.choices[k]? with
      | none =>
        rw [e2] at hc hq
        cases hc
        exact hq
      | some c =>
        rw [e2] at hc
        cases hc
  · cases e : m.stations[i]? with
    | none =>
      rw [e] at hd
      cases hd
    | some s =>
      rw [e] at hd hq
      dsimp only at hd hq
      cases e2 : s.choices[k]? with
      | none =>
        rw [e2] at hd
        cases hd
      | some c =>
        rw [e2] at hd hq
        cases hd
        dsimp only at hq
        have hk := lt_of_some e2
        have hn : s.choices.length ≤ 6 := (hm.ss s (List.mem_of_getElem? e)).n1
        refine ⟨_, _, gd_name, fun F1 σ1 H1 ok => ?_⟩
        have t1 := t.ex ok.ex
        obtain ⟨dx, es⟩ := t1.st i s e
        have s2 : σ1[2]? = some (some (.ref (sa i))) := ok.slot (d := .obj 1 (.int s.arrival) (.int s.weight) (.at_ (oa i) (.lst (chA (fun _ => 0) (ca i) s.choices)))) rfl
        have hop := t1.op i s e
        have n_so : sa i ≠ oa i := ne_of es hop (ne_ins_lst ⟨_, _, _, rfl⟩)
        unfold tSeq tDrop tBM
        refine raw_options T s2 es ?_
        refine ⟨.inl ⟨rfl, _, .of hop⟩, ?_⟩
        refine (ed_op (ed_var (d := given [i, k] []) rfl) ed_int (rd_ix_l (d := encN k) rfl) : ED K A.c _ _ (encN k)) F1 σ1 H1 _ ok.ok fun y F2 H2 g is => ?_
        cases is
        have t2 := t1.ex g.h
        have hop2 := g.h _ _ hop
        have es2 := g.h _ _ es
        refine ⟨oa i, _, (k : Int), k, .ref (ca i k), rfl, rfl, hop2, by omega, by omega, ?_, refs_get hk, ?_⟩
        · rw [refs_len]
          exact (ixN_seq (by unfold ixN; rw [if_pos (by omega), if_pos (by omega)]; rfl)).1
        · rw [erase_refs hk]
          refine raw_len T (vs := refs (s.choices.length - 1) fun l => if l < k then ca i l else ca i (l + 1)) s2 (by rw [upd_ne n_so]; exact es2) upd_same ?_
          refine ⟨Nat.le_of_ble_eq_true rfl, fun r' hr => ?_⟩
          have hcl : (s.choices.eraseIdx k).length = s.choices.length - 1 := by rw [List.length_eraseIdx, if_pos hk]
          have t5 := t2.setO (ft' := ft) (cs := s.choices.eraseIdx k) (cn := fun l => if l < k then ca i l else ca i (l + 1)) (H' := upd H2 (oa i) (.lst (refs (s.choices.length - 1) fun l => if l < k then ca i l else ca i (l + 1)))) e hop2 (.inl ⟨rfl, rfl⟩) upd_kp
            (by rw [upd_same, hcl])
            (fun l c' hl => by
              rw [erase_get] at hl
              have key : ∀ l', s.choices[l']? = some c' → ∃ dx, upd H2 (oa i) (.lst (refs (s.choices.length - 1) fun l => if l < k then ca i l else ca i (l + 1))) (ca i l') = some (chO A.c dx c') := fun l' hl' => by
                obtain ⟨dy, e3⟩ := t2.ch i s l' c' e hl'
                exact ⟨dy, by rw [upd_ne (ne_of e3 hop2 (ne_ins_lst ⟨_, _, _, rfl⟩))]; exact e3⟩
              by_cases ql : l < k
              · rw [if_pos ql] at hl ⊢
                exact key l hl
              · rw [if_neg ql] at hl ⊢
                exact key (l + 1) hl)
            (fun p1 p2 hp1 hp2 z => by
              rw [hcl] at hp1 hp2
              by_cases w1 : p1 < k
              · by_cases w2 : p2 < k
                · rw [if_pos w1, if_pos w2] at z
                  exact (t2.jc _ _ _ _ _ _ e e (by omega) (by omega) z).2
                · rw [if_pos w1, if_neg w2] at z
                  have := (t2.jc _ _ _ _ _ _ e e (by omega) (by omega) z).2
                  omega
              · by_cases w2 : p2 < k
                · rw [if_neg w1, if_pos w2] at z
                  have := (t2.jc _ _ _ _ _ _ e e (by omega) (by omega) z).2
                  omega
                · rw [if_neg w1, if_neg w2] at z
                  have := (t2.jc _ _ _ _ _ _ e e (by omega) (by omega) z).2
                  omega)
            (fun l hl => by
              rw [hcl] at hl
              by_cases ql : l < k
              · exact .inl ⟨l, by omega, if_pos ql⟩
              · exact .inl ⟨l + 1, by omega, if_neg ql⟩)
            (fun b h => h) (fun l hl => by
              rw [hcl] at hl
              by_cases ql : l < k
              · rw [if_pos ql]
                exact t2.fc i s l e (by omega)
              · rw [if_neg ql]
                exact t2.fc i s (l + 1) e (by omega))
          refine hq r' _ ft ⟨_, _, _, _, _, _, t5.ex (Ex.new hr)⟩ (fun b o hb hf => ?_) (fun b h => .inl h) (by rw [upd_same, refs_len]; rfl)
          have n1 : b ≠ oa i := fun z => hf (by rw [z]; exact (t.fs i (lt_of_some e)).2)
          exact Ex.new hr _ _ (by rw [upd_ne n1]; exact g.h _ _ (ok.ex _ _ hb))
theorem pr_remove_option (T : Txt K mg A) : CalX P w K mg base 6 "remove_option" (spD K A.c A.ce d6 2 0) := cal_remove_option T (pr_option_at T) spD_len (pu_remove_option T.toCst)

/-! ### create -/
def sp_create (K : PySem.W.Frag) (C : Nat → Addr) (CE : Addr) : Sp := fun vs H Q E => ∃ (gv : V) (n : Nat), vs = [gv] ∧ Is K C H gv (given [n] []) ∧
  if (decide ((1 : Int) ≤ (n : Nat)) && decide ((n : Int) ≤ 4)) = true then ∀ a H' ft, Tr K C H' a ft (new n) → Ex H H' → (∀ b, ft b → H b = none) → Q (.ref a) H' else Err CE E H (-22)
theorem pu_create (T : Cst K mg A) (vs : List V) (H : Hp) (Q : VK) (E : XK) (h : sp_create K A.c A.ce vs H Q E) :
    t_create K A (spP K A.c A.ce R_need) (sp_Model K A.c) E { nx := fun _ H' => Q .non H', rt := Q } (L2.start ["given"] vs) H := by
  obtain ⟨gv, n, rfl, hg, hq⟩ := h
  have ok := enter (N := ["given"]) 0 (IsL.cons hg .nil) rfl
  refine raw_need ok (ed_chain ed_int (ed_op (ed_var (d := given [n] []) rfl) ed_int (rd_ix_l rfl)) rd_B0 (fun _ => ed_int) fun _ => rd_B0) (fun q => ?_) fun q F2 σ2 H2 ok => ?_
  · rw [if_neg (by rw [q]; decide)] at hq
    exact hq
  · rw [if_pos q] at hq
    simp only [Bool.and_eq_true, decide_eq_true_eq] at q
    refine (ed_op (ed_var (d := given [n] []) rfl) ed_int (rd_ix_l (d := encN n) rfl) : ED K A.c _ _ (encN n)) F2 σ2 H2 _ ok.ok fun y F3 H3 g is => ?_
    cases is
    intro a dx ha hdx hne
    refine ⟨a, dx, n, rfl, by omega, upd_same, fun H' ft t hk hf => ⟨rfl, ?_⟩⟩
    have ex := ok.ex.trans g.h
    refine hq a H' ft t (fun b u hb => ?_) fun b hb => ?_
    · have n1 := ne_of_none (ex _ _ hb) ha
      have n2 := ne_of_none (ex _ _ hb) hdx
      exact hk b u (by rw [upd_ne n1, upd_ne n2]; exact ex _ _ hb) n1
    · rcases hf b hb with rfl | z
      · exact ex.back ha
      · have n1 : b ≠ a := fun y => by
          rw [y, upd_same] at z
          cases z
        rw [upd_ne n1] at z
        have n2 : b ≠ dx := fun y => by
          rw [y, upd_same] at z
          cases z
        rw [upd_ne n2] at z
        exact ex.back z
theorem sp_create_len (vs : List V) (H : Hp) (Q : VK) (E : XK) (h : sp_create K C CE vs H Q E) : vs.length = 1 := by
  obtain ⟨_, _, rfl, _⟩ := h
  rfl
theorem pr_create (T : Txt K mg A) (M : MakX P w K mg base 3 "Model" (A.c 2) (sp_Model K A.c)) : CalX P w K mg base 5 "create" (sp_create K A.c A.ce) := cal_create T (pr_need T) M sp_create_len (pu_create T.toCst)
end
end Pd

/-! ## Idx -/
set_option Elab.async false
set_option linter.all false
set_option maxRecDepth 100000
set_option maxHeartbeats 2000000
set_option autoImplicit false
/-! Written dicts with whole-number keys: d[k], d.get(k, x); a call of a local name that holds one of several defs, which may raise. -/
namespace Pd
open PySem PySem.Spec PyProof.Rows L2
def KeysI : List DictEntry → Prop
  | [] => True
  | e :: r => (∃ k t, e.key = .int k t ∧ e.hash = hashInt k) ∧ KeysI r
theorem KeysI.all : ∀ {l : List DictEntry}, KeysI l → ∀ e ∈ l, ∃ k t, e.key = .int k t ∧ e.hash = hashInt k
  | _ :: _, ⟨h, _⟩, _, .head _ => h
  | _ :: _, ⟨_, r⟩, _, .tail _ m => r.all _ m
/-- the written dict at d has r at k -/
structure IDct (K : PySem.W.Frag) (d : Addr) (k : Int) (r : Option Value) : Prop where
  ex : ∃ (es : Array DictEntry) (n : Nat), K.lookup d = some ⟨.type "dict", none, .dict es n, #[]⟩ ∧ KeysI es.toList ∧ findBy Value.isInt es k = r
  low : (d == sysModules) = false
theorem map_idct {P : Program} {w : World} {K : PySem.W.Frag} {h : Heap} {d : Addr} {es : Array DictEntry} {n : Nat} (X : K.In h) (hl : K.lookup d = some ⟨.type "dict", none, .dict es n, #[]⟩) (hk : KeysI es.toList) :
    h.MapOf (intKind P w) d fun k => findBy Value.isInt es k :=
  ⟨_, es, n, X _ _ hl, ⟨rfl, rfl, rfl⟩, rfl, fun e he => by
    obtain ⟨k, t, e1, e2⟩ := hk.all e (Array.mem_toList_iff.mpr he)
    exact ⟨k, by rw [e1]; exact intKind_is P w k t, e2⟩, fun _ => rfl⟩
def rIxI (K : PySem.W.Frag) : R2 := fun x y H Q => ∃ (p : Addr) (k : Int) (u : Value) (v : V), x = .ref p ∧ y = .int k ∧ IDct K p k (some u) ∧ RelV v u ∧ Q v H
section
variable {X : Cx}
theorem ix_idict : IxR X (rIxI X.K) := by
  intro value slice pins s σ H x y v u Q I rx ry h hs
  obtain ⟨p, k, u0, v0, rfl, rfl, ⟨⟨es, n, hl, hk, e⟩, low⟩, ru, q⟩ := h
  obtain rfl : v = Value.ref p := rx
  obtain ⟨t, rfl⟩ := ry
  have hm := map_idct (P := X.prog) (w := X.w) I.kIn hl hk
  exact tail_any hm.typeIs slot_dict_getitem.lookup (wpAny_getItem_of (intKind_is X.prog X.w k t) hm e ⟨v0, H, I.tok _, ru, q⟩) hs
/-- d.get(k, x) -/
def tIGet (K : PySem.W.Frag) (td ty tx : TE) : TE := fun σ H Q => td σ H fun x H1 => ∃ p : Addr, x = .ref p ∧ (∃ k r, IDct K p k r) ∧ ty σ H1 fun y H2 => tx σ H2 fun z H3 => ∃ (k : Int) (r : Option Value) (v : V), y = .int k ∧ IDct K p k r ∧ (∀ u, RelV z u → RelV v (r.getD u)) ∧ Q v H3
theorem pe_iget {o e f : Expr} {apos cpos : Pos} {td ty tx : TE} (ho : PE X o td) (he : PE X e ty) (hf : PE X f tx) (m : M2 X o "get" apos e f cpos) : PE X (.Call (.Attribute o "get" apos) [e, f] [] cpos) (tIGet X.K td ty tx) := by
  refine ⟨fun pins s σ H Q I h => ?_⟩
  refine wpAny_Call_method m.base m.few m.line PySem.F.plainAttrs_dict PySem.F.slot_dict_get PySem.F.type_dict_get (thn (ho.run pins s σ H _ I h) fun u s1 ⟨x, H1, I1, rx, p, ex, ⟨k0, r0, ⟨es0, n0, hl0, hk0, _⟩, _⟩, q1⟩ => ?_)
  subst ex
  obtain rfl : u = Value.ref p := rx
  have hm1 := map_idct (P := X.prog) (w := X.w) I1.kIn hl0 hk0
  refine ⟨hm1.typeIs, hm1.noDict, ?_⟩
  rw [m.trees]
  refine Calls.callWith_builtin rfl (Calls.evalArgs_plain (Calls.spliced_cons (thn (he.run pins s1 σ H1 _ I1 q1) fun iv s2 ⟨y, H2, I2, ry, q2⟩ =>
    Calls.spliced_cons (thn (hf.run pins s2 σ H2 _ I2 q2) fun fv s3 ⟨z, H3, I3, rz, k, r, v, ey, ⟨⟨es, n, hl, hk, e⟩, low⟩, hv, q3⟩ => Calls.spliced_nil ?_))))
  subst ey
  obtain ⟨t, rfl⟩ := ry
  have hm := map_idct (P := X.prog) (w := X.w) I3.kIn hl hk
  refine call_meetsIn PySem.F.slot_dict_get hm.typeIs PySem.F.entry_dict_get (PySem.F.args_dict_get_3 _ _ _) (meets_dict_get_default (intKind X.prog X.w) p (intKind_is X.prog X.w k t) low fv) ⟨_, hm, ?_⟩
  refine ⟨v, H3, I3.tok _, ?_, q3⟩
  rw [e]
  exact hv fv rz
end
/-! ### a local name that holds a def -/
structure HeldX (P : Program) (w : World) (K : PySem.W.Frag) (mg : Str → Option Value) (base : Heap) (k : Nat) (f : Addr) (sp : Sp) : Prop where
  ex : ∃ (fd : FuncData) (ps : List Str), FnOk P w K mg base (L2.CX P w) k f fd ps sp ∧ PySem.W.keepIn K (.ref f) = true ∧ Binds K fd ps []
def tCallB (i : Nat) (S : Addr → Sp → Prop) (E : XK) (t : TA) : TE := fun σ H Q => ∃ f sp, σ[i]? = some (some (.ref f)) ∧ S f sp ∧ t σ H fun vs H1 => sp vs H1 Q E
section
variable {X : Cx} {k i : Nat} {x : Str} {p pos : Pos} {e : Expr} {es : List Expr} {t : TA} {E : XK} {S : Addr → Sp → Prop}
theorem pe_callB (A : ∀ f sp, S f sp → HeldX X.prog X.w X.K X.mg X.base k f sp) (hr : Room k X.A) (hN : X.N[i]? = some x) (hv : Vis X.env.scope x) (hx : Passes (L2.CX X.prog X.w) X E) (ha : PA X (e :: es) t)
    (hdb : (x == ("__debug__" : Str)) = false := by decide) (hcd : (x == ("__classdict__" : Str)) = false := by decide)
    (he : starEach (e :: es) X.env = (false, eval e X.env) :: starEach es X.env := by rfl) (hpl : (backTo pos (starEach es X.env)).any (·.1) = false := by rfl) : PE X (.Call (.Name x p) (e :: es) [] pos) (tCallB i S E t) := by
  refine ⟨fun pins s σ H Q I h => ?_⟩
  obtain ⟨f, sp, hs, hS, ht⟩ := h
  obtain ⟨fd, ps, F, hk, hb⟩ := (A f sp hS).ex
  refine (pe_callL (i := i) (f := f) (sp := sp) (dvs := []) (E := E) F hr hN hv hk hb .nil hx ha hdb hcd he hpl).run pins s σ H Q I ⟨hs, ?_⟩
  have e0 : (fun (vs : List V) (H1 : Hp) => sp (vs ++ []) H1 Q E) = fun vs H1 => sp vs H1 Q E := by
    funext vs H1
    rw [List.append_nil]
  show t σ H (fun vs H1 => sp (vs ++ []) H1 Q E)
  rw [e0]
  exact ht
end
/-- a def that raises nothing is one that may raise -/
theorem fn_x {P : Program} {w : World} {K : PySem.W.Frag} {mg : Str → Option Value} {base : Heap} {k : Nat} {f : Addr} {fd : FuncData} {ps : List Str} {sp : Sp} (F : FnOk P w K mg base CX0 k f fd ps sp) : FnOk P w K mg base (L2.CX P w) k f fd ps sp :=
  ⟨F.len, fun A outer s H args us vs Q E hr he hb hv hs => codeAny_mono (F.run A outer s H args us vs Q E hr he hb hv hs) fun r s' hq => by
    cases r with
    | error e => exact hq.elim
    | ok fl =>
      cases fl <;> exact hq⟩
theorem Cal0.x {P : Program} {w : World} {K : PySem.W.Frag} {mg : Str → Option Value} {base : Heap} {k : Nat} {x : Str} {sp : Sp} (c : Cal0 P w K mg base k x sp) : CalX P w K mg base k x sp := by
  obtain ⟨f, fd, ps, F, r⟩ := c.ex
  exact ⟨f, fd, ps, fn_x F, r⟩
theorem CalX.imp {P : Program} {w : World} {K : PySem.W.Frag} {mg : Str → Option Value} {base : Heap} {k : Nat} {x : Str} {sp sp' : Sp} (c : CalX P w K mg base k x sp) (h : ∀ vs H Q E, sp' vs H Q E → sp vs H Q E) : CalX P w K mg base k x sp' := by
  obtain ⟨f, fd, ps, F, r⟩ := c.ex
  exact ⟨f, fd, ps, F.imp h, r⟩
theorem CalX.held {P : Program} {w : World} {K : PySem.W.Frag} {mg : Str → Option Value} {base : Heap} {j k : Nat} {x : Str} {sp : Sp} {f : Addr} (c : CalX P w K mg base j x sp) (h : j ≤ k) (e : mg x = some (.ref f)) : HeldX P w K mg base k f sp := by
  obtain ⟨f', fd, ps, F, g, kp, b⟩ := c.ex
  rw [e] at g
  cases g
  exact ⟨fd, ps, F.mono h, kp, b⟩
end Pd

/-! ## Lw1 -/
set_option Elab.async false
set_option linter.all false
set_option maxRecDepth 100000
set_option maxHeartbeats 2000000
set_option autoImplicit false
/-! Plain laws, first part: options, plans, their values. -/
namespace Lw
open Mt Pd
open Lrx8 (Choice Station Model)

theorem ints_eq (q : Rat) : Lrx8.ints (ofRat q) = rI q := rfl
theorem toInts_eq (l : List Nat) : Lrx8.toInts l = l.map fun n : Nat => (n : Int) := rfl

theorem fm_congr {α β : Type} {f g : α → Option β} : ∀ l : List α, (∀ a ∈ l, f a = g a) → l.filterMap f = l.filterMap g
  | [], _ => rfl
  | a :: l, h => by rw [List.filterMap_cons, List.filterMap_cons, h a (by simp), fm_congr l fun b hb => h b (by simp [hb])]
/-! ### the options that are allowed -/
def alw (m : Model) (s : Station) : List Nat := (List.range s.choices.length).filter fun o => Lrx8.isAllowed m (Lrx8.arrivalOf s) (Lrx8.getChoice s o)
theorem allowedAt_alw (m : Model) (i : Nat) : Lrx8.allowedAt m i = alw m (Lrx8.getStation m i) := rfl
theorem range_zip {α : Type} (l : List α) : List.range l.length = l.zipIdx.map (·.2) := by
  rw [List.zipIdx_map_snd, List.range_eq_range']
theorem allowed_ok {m : Model} (hm : MOk m) (s : Station) (c : Choice) : Lrx8.isAllowed m (Lrx8.arrivalOf s) c = okP m s c 100 := by
  rw [arrivalOf_eq, allowed_eqP hm]
theorem non_row (m : Model) (s : Station) (c : Choice) : (!isNon (encR (rowP m s c))) = okP m s c 100 := by
  unfold rowP
  cases okP m s c 100 <;> rfl
theorem alw_eq {m : Model} (hm : MOk m) (s : Station) : alw m s = allowedL (rowsP m s) := by
  unfold alw allowedL rowsP
  rw [range_zip, List.filter_map, List.zipIdx_map, List.filter_map, List.map_map]
  have e : ((fun x : Row × Nat => x.2) ∘ Prod.map (rowP m s) id) = fun x : Choice × Nat => x.2 := rfl
  rw [e]
  congr 1
  refine List.filter_congr fun x hx => ?_
  have h := List.mem_zipIdx_iff_getElem?.mp hx
  show Lrx8.isAllowed m (Lrx8.arrivalOf s) (Lrx8.getChoice s x.2) = !isNon (encR (rowP m s x.1))
  rw [allowed_ok hm, non_row]
  unfold Lrx8.getChoice
  rw [List.getD_eq_getElem?_getD, h]
  rfl
theorem alw_contains {m : Model} (hm : MOk m) {s : Station} {o : Nat} (h : o < s.choices.length) : (alw m s).contains o = okP m s (Lrx8.getChoice s o) 100 := by
  rw [Bool.eq_iff_iff, List.contains_iff_mem]
  unfold alw
  rw [List.mem_filter, List.mem_range, allowed_ok hm]
  exact ⟨fun z => z.2, fun z => ⟨h, z⟩⟩
theorem row_at {m : Model} {s : Station} {o : Nat} (h : o ∈ allowedL (rowsP m s)) : (rowsP m s)[o]? = some (some ((Lrx8.getChoice s o).cost, wgtP s (Lrx8.getChoice s o) 100)) ∧ o < s.choices.length := by
  obtain ⟨v, hv⟩ := allowedL_mem h
  have hl : o < s.choices.length := by
    have := (List.getElem?_eq_some_iff.mp hv).1
    unfold rowsP at this
    rwa [List.length_map] at this
  refine ⟨?_, hl⟩
  have e : (rowsP m s)[o]? = some (rowP m s (Lrx8.getChoice s o)) := by
    unfold rowsP
    rw [List.getElem?_map, choice_at hl]
    rfl
  rw [e] at hv ⊢
  unfold rowP at hv ⊢
  split at hv
  · rename_i q
    rw [if_pos q]
  · cases hv
/-- the allowed rows by their numbers -/
theorem someR_eq (rows : List Row) : someR rows = (allowedL rows).filterMap fun o => (rows[o]?).getD none := by
  unfold someR allowedL
  rw [List.filterMap_map]
  have h : rows = rows.zipIdx.map (·.1) := (List.zipIdx_map_fst 0 rows).symm
  conv => lhs; rw [h]
  rw [List.filterMap_map, List.filterMap_filter]
  refine fm_congr _ fun x hx => ?_
  have h := List.mem_zipIdx_iff_getElem?.mp hx
  show x.1 = if (!isNon (encR x.1)) = true then (rows[x.2]?).getD none else none
  rw [h]
  obtain ⟨a, i⟩ := x
  cases a with
  | none => rfl
  | some v => rfl
theorem someR_map (m : Model) (s : Station) : someR (rowsP m s) = (allowedL (rowsP m s)).map fun o => ((Lrx8.getChoice s o).cost, wgtP s (Lrx8.getChoice s o) 100) := by
  rw [someR_eq, ← List.filterMap_eq_map]
  refine fm_congr _ fun o ho => ?_
  rw [(row_at ho).1]
  rfl

/-! ### going through the stations -/
theorem map_getD {α β : Type} (l : List α) (d : α) (f : α → β) : (List.range l.length).map (fun i => f (l.getD i d)) = l.map f := by
  apply List.ext_getElem?
  intro i
  rw [List.getElem?_map, List.getElem?_map]
  by_cases h : i < l.length
  · rw [List.getElem?_range h, List.getElem?_eq_getElem h]
    simp [List.getD_eq_getElem?_getD, List.getElem?_eq_getElem h]
  · rw [List.getElem?_eq_none (l := List.range l.length) (by rw [List.length_range]; omega), List.getElem?_eq_none (l := l) (by omega)]
    rfl
theorem map_st {β : Type} (m : Model) (f : Station → β) : (Lrx8.indices m).map (fun i => f (Lrx8.getStation m i)) = m.stations.map f := map_getD _ _ f
theorem map_zip {β : Type} (m : Model) (plan : List Nat) (f : Station → Nat → β) (h : plan.length = m.stations.length) : (Lrx8.indices m).map (fun i => f (Lrx8.getStation m i) (plan.getD i 0)) = (m.stations.zip plan).map fun q => f q.1 q.2 := by
  unfold Lrx8.indices Lrx8.getStation
  apply List.ext_getElem?
  intro i
  rw [List.getElem?_map, List.getElem?_map]
  by_cases hi : i < m.stations.length
  · have hp : i < plan.length := by omega
    rw [List.getElem?_range hi, (List.getElem?_zip_eq_some (z := (m.stations[i], plan[i]))).mpr ⟨List.getElem?_eq_getElem hi, List.getElem?_eq_getElem hp⟩]
    simp [List.getD_eq_getElem?_getD, List.getElem?_eq_getElem hi, List.getElem?_eq_getElem hp]
  · rw [List.getElem?_eq_none (l := List.range m.stations.length) (by rw [List.length_range]; omega), List.getElem?_eq_none (l := m.stations.zip plan) (by rw [List.length_zip]; omega)]
    rfl
theorem all_zip (m : Model) (plan : List Nat) (f : Station → Nat → Bool) (h : plan.length = m.stations.length) : (Lrx8.indices m).all (fun i => f (Lrx8.getStation m i) (plan.getD i 0)) = (m.stations.zip plan).all fun q => f q.1 q.2 := by
  have e := congrArg (fun l => l.all id) (map_zip m plan f h)
  simpa only [List.all_map, Function.comp_def, id] using e
theorem isPlan_eq (m : Model) (plan : List Nat) : Lrx8.isPlan m plan = isPlanP m plan := by
  unfold Lrx8.isPlan isPlanP
  by_cases h : plan.length = m.stations.length
  · rw [decide_eq_true h, Bool.true_and, Bool.true_and, ← all_zip m plan (fun s n => !decide (s.choices.length ≤ n)) h]
    rw [Bool.eq_iff_iff, List.all_eq_true, List.all_eq_true]
    refine forall_congr' fun i => forall_congr' fun hi => ?_
    unfold Lrx8.isOption
    unfold Lrx8.indices at hi
    rw [decide_eq_true (List.mem_range.mp hi), Bool.true_and, decide_eq_true_iff, Bool.not_eq_true', decide_eq_false_iff_not]
    omega
  · rw [decide_eq_false h, Bool.false_and, Bool.false_and]
theorem chs_map (m : Model) (plan : List Nat) {β : Type} (f : Station → Choice → β) (h : plan.length = m.stations.length) : (Lrx8.indices m).map (fun i => f (Lrx8.getStation m i) (Lrx8.getChoice (Lrx8.getStation m i) (plan.getD i 0))) = (chs m plan).map fun x => f x.1 x.2 := by
  rw [map_zip m plan (fun s n => f s (Lrx8.getChoice s n)) h]
  unfold chs
  rw [List.map_map]
  rfl
theorem allowedPlan_eq {m : Model} (hm : MOk m) {plan : List Nat} (h : isPlanP m plan = true) : Lrx8.isAllowedPlan m plan = nowP m plan := by
  obtain ⟨h1, h2⟩ := isPlanP_in h
  unfold Lrx8.isAllowedPlan nowP
  rw [show (fun i => (Lrx8.allowedAt m i).contains (plan.getD i 0)) = fun i => (fun s n => (alw m s).contains n) (Lrx8.getStation m i) (plan.getD i 0) from rfl, all_zip m plan (fun s n => (alw m s).contains n) h1]
  rw [Bool.eq_iff_iff, List.all_eq_true, List.all_eq_true]
  refine forall_congr' fun q => forall_congr' fun hq => ?_
  rw [alw_contains hm (h2 q hq)]
/-! ### cost and number of a plan -/
def cstP (m : Model) (plan : List Nat) : Nat := ((chs m plan).map fun x => x.2.cost).sum
def nbrP (m : Model) (plan : List Nat) : Rat := sumR ((chs m plan).map fun x => wgtP x.1 x.2 100)
theorem foldl_sum {α : Type} (f : α → Nat) : ∀ (l : List α) (a : Nat), l.foldl (fun s x => s + f x) a = a + (l.map f).sum
  | [], a => rfl
  | x :: l, a => by
    rw [List.foldl_cons, foldl_sum f l, List.map_cons, List.sum_cons]
    omega
theorem costOf_eq (m : Model) (plan : List Nat) (h : plan.length = m.stations.length) : Lrx8.costOf m plan = cstP m plan := by
  unfold Lrx8.costOf cstP
  rw [foldl_sum (fun i => (Lrx8.getChoice (Lrx8.getStation m i) (plan.getD i 0)).cost), chs_map m plan (fun s c => c.cost) h]
  omega
theorem numberOf_eq (m : Model) (plan : List Nat) (h : plan.length = m.stations.length) : Lrx8.numberOf m plan = ofRat (nbrP m plan) := by
  unfold Lrx8.numberOf nbrP
  rw [chs_map m plan (fun s c => Lrx8.weighted s c) h, ← sum_eq, List.map_map]
  congr 1
  refine List.map_congr_left fun x _ => ?_
  exact weighted_eq x.1 x.2
theorem ents_eq (m : Model) {plan : List Nat} (h : isPlanP m plan = true) : ents (tabP m) plan = (chs m plan).map fun x => rowP m x.1 x.2 := by
  obtain ⟨h1, h2⟩ := isPlanP_in h
  unfold ents tabP chs
  rw [List.zip_map_left, List.map_map, List.map_map]
  refine List.map_congr_left fun q hq => ?_
  show (rowsP m q.1).getD q.2 none = rowP m q.1 (Lrx8.getChoice q.1 q.2)
  unfold rowsP
  rw [List.getD_eq_getElem?_getD, List.getElem?_map, choice_at (h2 q hq)]
  rfl
theorem nowP_chs (m : Model) (plan : List Nat) : nowP m plan = (chs m plan).all fun x => okP m x.1 x.2 100 := by
  unfold nowP chs
  rw [List.all_map]
  rfl
theorem any_rows (m : Model) : ∀ l : List Sc, ((l.map fun x => rowP m x.1 x.2).any fun r => isNon (encR r)) = !l.all fun x => okP m x.1 x.2 100
  | [] => rfl
  | x :: l => by
    rw [List.map_cons, List.any_cons, List.all_cons, any_rows m l, ← non_row m x.1 x.2]
    cases isNon (encR (rowP m x.1 x.2)) <;> rfl
theorem some_rows (m : Model) : ∀ l : List Sc, (l.all fun x => okP m x.1 x.2 100) = true → someR (l.map fun x => rowP m x.1 x.2) = l.map fun x => (x.2.cost, wgtP x.1 x.2 100)
  | [], _ => rfl
  | x :: l, h => by
    rw [List.all_cons, Bool.and_eq_true] at h
    have ih := some_rows m l h.2
    unfold someR at ih ⊢
    rw [List.map_cons, List.map_cons]
    have e : rowP m x.1 x.2 = some (x.2.cost, wgtP x.1 x.2 100) := if_pos h.1
    rw [List.filterMap_cons, e]
    show _ :: _ = _ :: _
    rw [ih]
theorem valO_eq (m : Model) {plan : List Nat} (h : isPlanP m plan = true) : valO (tabP m) plan = if nowP m plan = true then some (cstP m plan, nbrP m plan) else none := by
  unfold valO
  rw [ents_eq m h, any_rows, ← nowP_chs]
  cases e : nowP m plan with
  | false => rfl
  | true =>
    rw [nowP_chs] at e
    rw [some_rows m _ e, List.map_map, List.map_map]
    rfl
theorem full_plan {m : Model} {plan : List Nat} (h : Full (tabP m) plan) : isPlanP m plan = true ∧ nowP m plan = true := by
  obtain ⟨h1, h2⟩ := h
  have hl : plan.length = m.stations.length := by
    unfold tabP at h1
    rwa [List.length_map] at h1
  have key : ∀ q ∈ m.stations.zip plan, q.2 < q.1.choices.length ∧ okP m q.1 (Lrx8.getChoice q.1 q.2) 100 = true := fun q hq => by
    have hz : (rowsP m q.1, q.2) ∈ (tabP m).zip plan := by
      unfold tabP
      rw [List.zip_map_left]
      exact List.mem_map.mpr ⟨q, hq, rfl⟩
    obtain ⟨v, hv⟩ := h2 _ hz
    dsimp only at hv
    have hlt : q.2 < q.1.choices.length := by
      have := (List.getElem?_eq_some_iff.mp hv).1
      unfold rowsP at this
      rwa [List.length_map] at this
    refine ⟨hlt, ?_⟩
    unfold rowsP at hv
    rw [List.getElem?_map, choice_at hlt] at hv
    have hv := Option.some.inj hv
    unfold rowP at hv
    split at hv
    · assumption
    · cases hv
  constructor
  · unfold isPlanP
    rw [decide_eq_true hl, Bool.true_and, List.all_eq_true]
    intro q hq
    have := (key q hq).1
    rw [Bool.not_eq_true', decide_eq_false_iff_not]
    omega
  · unfold nowP
    rw [List.all_eq_true]
    exact fun q hq => (key q hq).2
theorem full_iff {m : Model} {plan : List Nat} (h1 : isPlanP m plan = true) (h2 : nowP m plan = true) : valO (tabP m) plan = some (cstP m plan, nbrP m plan) := by
  rw [valO_eq m h1, if_pos h2]
theorem valD_full {m : Model} {plan : List Nat} (h : Full (tabP m) plan) : valO (tabP m) plan = some (cstP m plan, nbrP m plan) ∧ valD (tabP m) plan = (cstP m plan, nbrP m plan) ∧ plan.length = m.stations.length := by
  obtain ⟨h1, h2⟩ := full_plan h
  have e := full_iff h1 h2
  refine ⟨e, ?_, (isPlanP_in h1).1⟩
  unfold valD
  rw [e]
  rfl
/-- a plan's value as the specification has it -/
theorem pvO_eq {m : Model} (hm : MOk m) (plan : List Nat) : pvO m plan = if Lrx8.isPlan m plan = false then .error (-22) else if Lrx8.isAllowedPlan m plan = false then .error (-33) else .ok (cstP m plan, nbrP m plan) := by
  unfold pvO
  rw [isPlan_eq]
  cases e : isPlanP m plan with
  | false => rfl
  | true =>
    rw [if_pos rfl, if_neg (by decide), allowedPlan_eq hm e, valO_eq m e]
    cases nowP m plan <;> rfl
theorem feasible_eq {m : Model} (hm : MOk m) {plan : List Nat} (h : plan.length = m.stations.length) : Lrx8.isFeasible m plan = feas (cstP m plan, nbrP m plan) (tgt m) := by
  unfold Lrx8.isFeasible feas
  rw [numberOf_eq m plan h, hm.target.1, le_eq, le_not_lt]
theorem better_eq {m : Model} {a b : List Nat} (ha : a.length = m.stations.length) (hb : b.length = m.stations.length) : Lrx8.isBetter m a b = betV (cstP m a, nbrP m a) (cstP m b, nbrP m b) := by
  unfold Lrx8.isBetter betV
  rw [costOf_eq m a ha, costOf_eq m b hb, numberOf_eq m a ha, numberOf_eq m b hb, lt_eq]
  rfl
end Lw

/-! ## Lw2 -/
set_option Elab.async false
set_option linter.all false
set_option maxRecDepth 100000
set_option maxHeartbeats 2000000
set_option autoImplicit false
/-! Plain laws, second part: all plans, the best one, a single change, the reserve. -/
namespace Lw
open Mt Pd
open Lrx8 (Choice Station Model)
/-! ### all plans -/
def plansT : List (List Row) → List (List Nat)
  | [] => [[]]
  | rows :: t => (allowedL rows).flatMap fun o => (plansT t).map fun tail => o :: tail
theorem steps_eq : ∀ (t : List (List Row)) (ps : List (List Nat)), t.foldl stepP ps = ps.flatMap fun p => (plansT t).map fun q => p ++ q
  | [], ps => by
    show ps = ps.flatMap fun p => [p ++ []]
    induction ps with
    | nil => rfl
    | cons p ps ih =>
      rw [List.flatMap_cons, ← ih, List.append_nil]
      rfl
  | rows :: t, ps => by
    rw [List.foldl_cons, steps_eq t]
    show (ps.flatMap fun plan => (allowedL rows).map fun at_ => plan ++ [at_]).flatMap (fun p => (plansT t).map fun q => p ++ q) = ps.flatMap fun p => ((allowedL rows).flatMap fun o => (plansT t).map fun tail => o :: tail).map fun q => p ++ q
    rw [List.flatMap_assoc]
    congr 1
    funext p
    rw [List.flatMap_map, List.map_flatMap]
    congr 1
    funext o
    rw [List.map_map]
    refine List.map_congr_left fun q _ => ?_
    show p ++ [o] ++ q = p ++ (o :: q)
    rw [List.append_assoc]
    rfl
theorem plansT_eq (t : List (List Row)) : plansP t = plansT t := by
  unfold plansP
  rw [steps_eq]
  simp
theorem plansFrom_eq {m : Model} (hm : MOk m) : ∀ l : List Nat, Lrx8.plansFrom m l = plansT (l.map fun i => rowsP m (Lrx8.getStation m i))
  | [] => rfl
  | i :: l => by
    show ((Lrx8.allowedAt m i).flatMap fun o => (Lrx8.plansFrom m l).map fun tail => o :: tail) = (allowedL (rowsP m (Lrx8.getStation m i))).flatMap fun o => (plansT (l.map fun i => rowsP m (Lrx8.getStation m i))).map fun tail => o :: tail
    rw [plansFrom_eq hm l, allowedAt_alw, alw_eq hm]
theorem plans_eq {m : Model} (hm : MOk m) : Lrx8.plans m = plansP (tabP m) := by
  unfold Lrx8.plans
  rw [plansFrom_eq hm, plansT_eq, map_st]
  rfl
/-! ### the best one -/
def bestF (m : Model) (best : Option (List Nat)) (plan : List Nat) : Option (List Nat) := match best with
  | none => some plan
  | some other => if Lrx8.isBetter m plan other then some plan else some other
theorem bestOf_def (m : Model) (l : List (List Nat)) : Lrx8.bestOf m l = l.foldl (bestF m) none := rfl
def vpOf (m : Model) (p : List Nat) : Vp := ((cstP m p, nbrP m p), p)
theorem bestF_len {m : Model} {b : Option (List Nat)} {p : List Nat} (hb : ∀ q, b = some q → q.length = m.stations.length) (hp : p.length = m.stations.length) : ∀ q, bestF m b p = some q → q.length = m.stations.length := by
  intro q h
  unfold bestF at h
  split at h
  · cases h
    exact hp
  · rename_i o
    split at h
    · cases h
      exact hp
    · cases h
      exact hb _ rfl
theorem best_fold {m : Model} (hm : MOk m) : ∀ (ps : List (List Nat)) (b : Option (List Nat)), (∀ p ∈ ps, Full (tabP m) p) → (∀ p, b = some p → p.length = m.stations.length) →
    ps.foldl (bestS (tabP m) (tgt m)) (b.map (vpOf m)) = ((ps.filter (Lrx8.isFeasible m)).foldl (bestF m) b).map (vpOf m)
  | [], _, _, _ => rfl
  | p :: ps, b, hp, hb => by
    obtain ⟨e1, _, e3⟩ := valD_full (hp p (by simp))
    have hf := feasible_eq hm e3
    have hp' : ∀ q ∈ ps, Full (tabP m) q := fun q hq => hp q (by simp [hq])
    rw [List.foldl_cons]
    cases ef : Lrx8.isFeasible m p with
    | false =>
      rw [List.filter_cons_of_neg (by rw [ef]; decide), ← best_fold hm ps b hp' hb]
      congr 1
      unfold bestS
      rw [e1]
      rw [ef] at hf
      cases b with
      | none =>
        dsimp only [Option.map]
        rw [if_neg (by rw [← hf]; decide)]
      | some q =>
        dsimp only [Option.map]
        rw [if_neg (by rw [← hf]; simp)]
    | true =>
      rw [List.filter_cons_of_pos ef, List.foldl_cons, ← best_fold hm ps (bestF m b p) hp' (bestF_len hb e3)]
      congr 1
      unfold bestS bestF
      rw [e1]
      rw [ef] at hf
      cases b with
      | none =>
        dsimp only [Option.map]
        rw [if_pos hf.symm]
        rfl
      | some q =>
        dsimp only [Option.map]
        rw [better_eq e3 (hb q rfl)]
        by_cases z : betV (cstP m p, nbrP m p) (cstP m q, nbrP m q) = true
        · rw [if_pos ⟨hf.symm, z⟩, if_pos z]
          rfl
        · rw [if_neg (fun k => z k.2), if_neg z]
theorem best_law {m : Model} (hm : MOk m) {ps : List (List Nat)} (h : ∀ p ∈ ps, Full (tabP m) p) : Pd.bestOf (tabP m) ps (tgt m) = (Lrx8.bestOf m (ps.filter (Lrx8.isFeasible m))).map (vpOf m) :=
  best_fold hm ps none h (fun p hp => by cases hp)
theorem best_fold_mem (m : Model) : ∀ (l : List (List Nat)) (b : Option (List Nat)) (p : List Nat), l.foldl (bestF m) b = some p → b = some p ∨ p ∈ l
  | [], b, p, h => .inl h
  | x :: l, b, p, h => by
    rw [List.foldl_cons] at h
    rcases best_fold_mem m l _ p h with z | z
    · unfold bestF at z
      split at z
      · cases z
        exact .inr (by simp)
      · split at z
        · cases z
          exact .inr (by simp)
        · exact .inl z
    · exact .inr (by simp [z])
theorem best_mem' {m : Model} {l : List (List Nat)} {p : List Nat} (h : Lrx8.bestOf m l = some p) : p ∈ l := (best_fold_mem m l none p h).elim (fun z => by cases z) id
/-! ### results -/
def rL (r : Lrx8.Result) : List Int := r.num :: r.nums
def xL : Except Int (List Int) → List Int
  | .ok l => l
  | .error c => [c]
theorem rL_error (c : Int) : rL (Lrx8.error c) = [c] := rfl
theorem planResult_eq {m : Model} {p : List Nat} (h : p.length = m.stations.length) : rL (Lrx8.planResult m p) = shL (vpOf m p) := by
  unfold Lrx8.planResult rL shL vpOf
  rw [costOf_eq m p h, numberOf_eq m p h]
  rfl
theorem full_len {m : Model} {p : List Nat} (h : Full (tabP m) p) : p.length = m.stations.length := (valD_full h).2.2
theorem best_res {m : Model} (hm : MOk m) {ps : List (List Nat)} (h : ∀ p ∈ ps, Full (tabP m) p) : xL (shE (Pd.bestOf (tabP m) ps (tgt m))) = rL (match Lrx8.bestOf m (ps.filter (Lrx8.isFeasible m)) with | none => Lrx8.error (-33) | some plan => Lrx8.planResult m plan) := by
  rw [best_law hm h]
  cases e : Lrx8.bestOf m (ps.filter (Lrx8.isFeasible m)) with
  | none => rfl
  | some p =>
    show shL (vpOf m p) = _
    rw [planResult_eq (full_len (h p (List.mem_filter.mp (best_mem' e)).1))]
theorem qBest_law {m : Model} (hm : MOk m) : xL (qBest m (tgt m)) = rL (match Lrx8.bestPlan m with | none => Lrx8.error (-33) | some plan => Lrx8.planResult m plan) := by
  unfold qBest Lrx8.bestPlan
  rw [plans_eq hm]
  exact best_res hm (plansP_full _)
theorem counts_law {m : Model} (hm : MOk m) : q16 m [] [] = .ok (rL ⟨((Lrx8.plans m).length : Int), [(((Lrx8.plans m).filter (Lrx8.isFeasible m)).length : Int)]⟩) := by
  unfold q16 rL
  rw [plans_eq hm]
  have e : (plansP (tabP m)).filter (fun p => feas (valD (tabP m) p) (tgt m)) = (plansP (tabP m)).filter (Lrx8.isFeasible m) := List.filter_congr fun p hp => by
    obtain ⟨_, e2, e3⟩ := valD_full (plansP_full _ p hp)
    rw [e2, feasible_eq hm e3]
  rw [e]
/-! ### a single change -/
theorem filterMap_if {α β : Type} (p : α → Bool) (f : α → β) : ∀ l : List α, (l.filterMap fun a => if p a = true then none else some (f a)) = (l.filter fun a => !p a).map f
  | [] => rfl
  | a :: l => by
    rw [List.filterMap_cons, List.filter_cons]
    cases e : p a
    · simp only [Bool.false_eq_true, if_false, Bool.not_false, if_true, List.map_cons]
      rw [filterMap_if p f l]
    · simp only [if_true, Bool.not_true, Bool.false_eq_true, if_false]
      exact filterMap_if p f l
theorem flat_filter {α β : Type} (p : β → Bool) (f : α → List β) : ∀ l : List α, (l.flatMap fun a => (f a).filter p) = (l.flatMap f).filter p
  | [] => rfl
  | a :: l => by rw [List.flatMap_cons, List.flatMap_cons, List.filter_append, flat_filter p f l]
theorem zipIdx_range {α β : Type} (l : List α) (d : α) (f : α → Nat → List β) : l.zipIdx.flatMap (fun x => f x.1 x.2) = (List.range l.length).flatMap fun i => f (l.getD i d) i := by
  rw [range_zip, List.flatMap_map]
  have h : ∀ x ∈ l.zipIdx, f x.1 x.2 = f (l.getD x.2 d) x.2 := fun x hx => by
    rw [List.getD_eq_getElem?_getD, List.mem_zipIdx_iff_getElem?.mp hx]
    rfl
  revert h
  generalize l.zipIdx = z
  intro h
  induction z with
  | nil => rfl
  | cons x z ih => rw [List.flatMap_cons, List.flatMap_cons, h x (by simp), ih fun y hy => h y (by simp [hy])]
theorem flatMap_ext {α β : Type} {f g : α → List β} : ∀ l : List α, (∀ a ∈ l, f a = g a) → l.flatMap f = l.flatMap g
  | [], _ => rfl
  | a :: l, h => by rw [List.flatMap_cons, List.flatMap_cons, h a (by simp), flatMap_ext l fun b hb => h b (by simp [hb])]
theorem changes_eq {m : Model} (hm : MOk m) {plan : List Nat} (h : plan.length = m.stations.length) : Lrx8.changesOf m plan = (chgP (tabP m) plan).filter (Lrx8.isFeasible m) := by
  unfold Lrx8.changesOf chgP
  rw [← flat_filter]
  rw [zipIdx_range (tabP m) (rowsP m ⟨1, 1, []⟩) (fun rows i => (chgAt plan (rows, i)).filter (Lrx8.isFeasible m))]
  have hl : (tabP m).length = m.stations.length := by
    unfold tabP
    rw [List.length_map]
  rw [hl]
  refine flatMap_ext _ fun i hi => ?_
  have hi' : i < m.stations.length := List.mem_range.mp hi
  have e1 : (tabP m).getD i (rowsP m ⟨1, 1, []⟩) = rowsP m (Lrx8.getStation m i) := by
    unfold tabP Lrx8.getStation
    rw [List.getD_eq_getElem?_getD, List.getD_eq_getElem?_getD, List.getElem?_map]
    cases m.stations[i]? <;> rfl
  rw [e1]
  try dsimp only
  congr 1
  unfold chgAt
  dsimp only
  have e2 : (fun o => if o = plan.getD i 0 then none else some (plan.set i o)) = fun o => if decide (o = plan.getD i 0) = true then none else some (plan.set i o) := by
    funext o
    by_cases z : o = plan.getD i 0
    · rw [if_pos z, if_pos (decide_eq_true z)]
    · rw [if_neg z, if_neg (by simpa using z)]
  rw [e2, filterMap_if (fun o => decide (o = plan.getD i 0)) fun o => plan.set i o, allowedAt_alw, alw_eq hm]
  unfold allowedL
  rw [List.filter_map, List.filter_filter, List.map_map]
  have e3 : (rowsP m (Lrx8.getStation m i)).zipIdx.filter (fun a => ((fun a => !decide (a = plan.getD i 0)) ∘ fun x => x.2) a && !isNon (encR a.1)) = (rowsP m (Lrx8.getStation m i)).zipIdx.filter (okC plan i) := List.filter_congr fun x _ => by
    unfold okC
    show (!decide (x.2 = plan.getD i 0) && !isNon (encR x.1)) = _
    rw [Bool.and_comm]
  rw [e3]
  refine List.map_congr_left fun y _ => ?_
  rw [mkC_set (by omega)]
  rfl
theorem improvement_law {m : Model} (hm : MOk m) {plan : List Nat} (h1 : isPlanP m plan = true) (h2 : nowP m plan = true) :
    xL (shE (impP (tabP m) plan (tgt m))) = rL (match Lrx8.bestOf m (Lrx8.changesOf m plan) with
      | none => Lrx8.error (-33)
      | some better => if Lrx8.isBetter m better plan || !Lrx8.isFeasible m plan then Lrx8.planResult m better else Lrx8.error (-33)) := by
  have hl := (isPlanP_in h1).1
  have hv := full_iff h1 h2
  have hF : Full (tabP m) plan := by
    refine (pvO_ok (v := (cstP m plan, nbrP m plan)) hm ?_).2.2.2
    unfold pvO
    rw [if_pos h1, hv]
  have hc := chgP_full hF
  unfold impP
  rw [best_law hm hc, changes_eq hm hl]
  cases e : Lrx8.bestOf m ((chgP (tabP m) plan).filter (Lrx8.isFeasible m)) with
  | none => rfl
  | some b =>
    have hb := full_len (hc b (List.mem_filter.mp (best_mem' e)).1)
    dsimp only [Option.map]
    rw [better_eq hb hl, feasible_eq hm hl]
    rw [show valD (tabP m) plan = (cstP m plan, nbrP m plan) from (valD_full hF).2.1]
    have e3 : (vpOf m b).1 = (cstP m b, nbrP m b) := rfl
    rw [e3]
    cases feas (cstP m plan, nbrP m plan) (tgt m) <;> cases betV (cstP m b, nbrP m b) (cstP m plan, nbrP m plan)
    · exact (planResult_eq hb).symm
    · exact (planResult_eq hb).symm
    · rfl
    · exact (planResult_eq hb).symm
/-! ### the reserve -/
theorem feasibleAt_eq {m : Model} (hm : MOk m) {plan : List Nat} (h : plan.length = m.stations.length) (p : Nat) : Lrx8.isFeasibleAt m plan p = holdsP m plan p := by
  unfold Lrx8.isFeasibleAt holdsP
  dsimp only
  have e1 : (Lrx8.indices m).all (fun i => Lrx8.isAllowed m (Lrx1.reduce ((Lrx8.getStation m i).arrival * p : Nat) 100) (Lrx8.getChoice (Lrx8.getStation m i) (plan.getD i 0))) = (chs m plan).all fun x => okP m x.1 x.2 p := by
    rw [all_zip m plan (fun s n => Lrx8.isAllowed m (Lrx1.reduce (s.arrival * p : Nat) 100) (Lrx8.getChoice s n)) h]
    unfold chs
    rw [List.all_map]
    congr 1
    funext q
    show Lrx8.isAllowed m (Lrx1.reduce (q.1.arrival * p : Nat) 100) (Lrx8.getChoice q.1 q.2) = okP m q.1 (Lrx8.getChoice q.1 q.2) p
    rw [reduce_eq]
    exact allowed_eqP hm q.1 _ p
  rw [e1]
  congr 1
  rw [chs_map m plan (fun s c => Lrx1.mul (Lrx1.whole (s.weight : Int)) (Lrx8.meanNumber (Lrx1.reduce (s.arrival * p : Nat) 100) c)) h]
  have e2 : (chs m plan).map (fun x => Lrx1.mul (Lrx1.whole (x.1.weight : Int)) (Lrx8.meanNumber (Lrx1.reduce (x.1.arrival * p : Nat) 100) x.2)) = ((chs m plan).map fun x => wgtP x.1 x.2 p).map ofRat := by
    rw [List.map_map]
    refine List.map_congr_left fun x _ => ?_
    show _ = ofRat (wgtP x.1 x.2 p)
    rw [reduce_eq]
    show Lrx1.mul (Lrx1.whole (x.1.weight : Int)) (Lrx8.meanNumber (ofRat (arrP x.1 p)) x.2) = _
    rw [mean_eqP, wholeN_eq, mul_eq]
    rfl
  rw [e2, sum_eq, hm.target.1, le_eq, le_not_lt]
theorem reserve_eq {m : Model} (hm : MOk m) {plan : List Nat} (h : plan.length = m.stations.length) : Lrx8.reserve m plan = resP m plan := by
  unfold Lrx8.reserve resP
  congr 1
  funext p
  rw [feasibleAt_eq hm h]
end Lw

/-! ## Lw3 -/
set_option Elab.async false
set_option linter.all false
set_option maxRecDepth 100000
set_option maxHeartbeats 2000000
set_option autoImplicit false
/-! Plain laws, third part: the frontier. -/
namespace Lw
open Mt Pd
open Lrx8 (Choice Station Model)
def vc (x : Vp) : Nat := x.1.1
def vn (x : Vp) : Rat := x.1.2
/-- better in cost and number -/
def Dm (b a : Vp) : Prop := vc b ≤ vc a ∧ vn b ≤ vn a ∧ (vc b < vc a ∨ vn b < vn a)
def dmB (b a : Vp) : Bool := decide (vc b ≤ vc a) && (decide (vn b ≤ vn a) && (decide (vc b < vc a) || decide (vn b < vn a)))
def sm (x y : Vp) : Bool := decide (vc y = vc x) && decide (vn y = vn x)
theorem dmB_iff {b a : Vp} : dmB b a = true ↔ Dm b a := by
  unfold dmB Dm
  simp only [Bool.and_eq_true, Bool.or_eq_true, decide_eq_true_eq]
theorem sm_iff {x y : Vp} : sm x y = true ↔ vc y = vc x ∧ vn y = vn x := by
  unfold sm
  simp only [Bool.and_eq_true, decide_eq_true_eq]
theorem sm_self (x : Vp) : sm x x = true := sm_iff.mpr ⟨rfl, rfl⟩
theorem sm_congr {x y : Vp} (h1 : vc x = vc y) (h2 : vn x = vn y) : sm x = sm y := by
  funext z
  unfold sm
  rw [h1, h2]
theorem dm_irrefl (x : Vp) : ¬ Dm x x := fun h => by
  rcases h.2.2 with h | h
  · omega
  · grind
/-- the first of its cost and number in L, and nothing of B is better -/
def Gd (L B : List Vp) (x : Vp) : Prop := L.find? (sm x) = some x ∧ ∀ b ∈ B, ¬ Dm b x
theorem Gd.mem {L B : List Vp} {x : Vp} (h : Gd L B x) : x ∈ L := List.mem_of_find?_eq_some h.1
theorem gd_inj {P B : List Vp} {x y : Vp} (hP : ∀ z ∈ P, z ∈ B) (hx : Gd P B x) (hy : Gd P B y) (h : vc x = vc y) : x = y := by
  have h1 := hx.2 y (hP y hy.mem)
  have h2 := hy.2 x (hP x hx.mem)
  have e : vn x = vn y := by
    by_cases a : vn x < vn y
    · exact absurd ⟨by omega, Rat.le_of_lt a, .inr a⟩ h2
    · by_cases b : vn y < vn x
      · exact absurd ⟨by omega, Rat.le_of_lt b, .inr b⟩ h1
      · grind
  have z := hx.1
  rw [sm_congr h e, hy.1] at z
  exact (Option.some.inj z).symm
theorem strict_eq : ∀ (l k : List Vp), l.Pairwise (fun x y => vc x < vc y) → k.Pairwise (fun x y => vc x < vc y) → (∀ x, x ∈ l ↔ x ∈ k) → l = k
  | [], [], _, _, _ => rfl
  | [], y :: k, _, _, h => absurd ((h y).mpr (by simp)) (by simp)
  | x :: l, [], _, _, h => absurd ((h x).mp (by simp)) (by simp)
  | x :: l, y :: k, h1, h2, h => by
    rw [List.pairwise_cons] at h1 h2
    have e : x = y := by
      have a := (h x).mp (by simp)
      have b := (h y).mpr (by simp)
      rcases List.mem_cons.mp a with a | a
      · exact a
      · rcases List.mem_cons.mp b with b | b
        · exact b.symm
        · have := h1.1 y b
          have := h2.1 x a
          omega
    subst e
    congr 1
    refine strict_eq l k h1.2 h2.2 fun z => ⟨fun hz => ?_, fun hz => ?_⟩
    · rcases List.mem_cons.mp ((h z).mp (List.mem_cons_of_mem _ hz)) with q | q
      · have := h1.1 z hz
        rw [q] at this
        omega
      · exact q
    · rcases List.mem_cons.mp ((h z).mpr (List.mem_cons_of_mem _ hz)) with q | q
      · have := h2.1 z hz
        rw [q] at this
        omega
      · exact q
/-! ### the stable sort keeps the order of equal costs -/
theorem insC_filter (x : Vp) (k : Nat) : ∀ l : List Vp, l.Pairwise (fun x y => vc x ≤ vc y) → (insC vc x l).filter (fun y => decide (vc y = k)) = l.filter (fun y => decide (vc y = k)) ++ [x].filter (fun y => decide (vc y = k))
  | [], _ => rfl
  | y :: r, h => by
    rw [List.pairwise_cons] at h
    unfold insC
    by_cases z : vc x < vc y
    · rw [if_pos z]
      by_cases e : vc x = k
      · have : (y :: r).filter (fun y => decide (vc y = k)) = [] := by
          rw [List.filter_eq_nil_iff]
          intro u hu
          rcases List.mem_cons.mp hu with rfl | hu
          · simpa using (by omega : vc u ≠ k)
          · have := h.1 u hu
            simpa using (by omega : vc u ≠ k)
        rw [List.filter_cons_of_pos (by simpa using e), this, List.nil_append, List.filter_cons_of_pos (by simpa using e)]
        rfl
      · simp [List.filter_cons, e]
    · rw [if_neg z]
      by_cases e : vc y = k
      · rw [List.filter_cons_of_pos (by simpa using e), List.filter_cons_of_pos (by simpa using e), insC_filter x k r h.2]
        rfl
      · rw [List.filter_cons_of_neg (by simpa using e), List.filter_cons_of_neg (by simpa using e), insC_filter x k r h.2]
theorem stC_filter (k : Nat) : ∀ (l acc : List Vp), acc.Pairwise (fun x y => vc x ≤ vc y) → (l.foldl (fun acc x => insC vc x acc) acc).filter (fun y => decide (vc y = k)) = acc.filter (fun y => decide (vc y = k)) ++ l.filter (fun y => decide (vc y = k))
  | [], acc, _ => by simp
  | x :: l, acc, h => by
    rw [List.foldl_cons, stC_filter k l _ (insC_le vc x acc h), insC_filter x k acc h, List.append_assoc, ← List.filter_append]
    rfl
theorem find_sort (L : List Vp) (x : Vp) : (stC vc L).find? (sm x) = L.find? (sm x) := by
  have e : ∀ l : List Vp, l.find? (sm x) = (l.filter (fun y => decide (vc y = vc x))).find? (fun y => decide (vn y = vn x)) := fun l => by
    rw [List.find?_filter]
    congr 1
    funext y
    unfold sm
    rw [Bool.eq_iff_iff]
    simp
  rw [e, e L]
  unfold stC
  rw [stC_filter _ _ _ List.Pairwise.nil]
  rfl
/-! ### the specification's way -/
def kpS (B K : List Vp) (a : Vp) : List Vp := if B.any (fun b => dmB b a) = true then K else if K.any (fun b => sm a b) = true then K else K ++ [a]
theorem kp_step {B P K : List Vp} {a : Vp} (hB : a ∈ B) (hP : ∀ z ∈ P, z ∈ B) (hK : ∀ x, x ∈ K ↔ Gd P B x) (hp : K.Pairwise fun x y => vc x ≠ vc y) :
    (∀ x, x ∈ kpS B K a ↔ Gd (P ++ [a]) B x) ∧ (kpS B K a).Pairwise fun x y => vc x ≠ vc y := by
  have one : ∀ x, [a].find? (sm x) = some x ↔ x = a := fun x => by
    rw [List.find?_cons]
    constructor
    · intro h
      split at h
      · exact (Option.some.inj h).symm
      · cases h
    · rintro rfl
      rw [sm_self]
  have app : ∀ x, Gd (P ++ [a]) B x ↔ (Gd P B x ∨ (P.find? (sm x) = none ∧ x = a ∧ ∀ b ∈ B, ¬ Dm b x)) := fun x => by
    unfold Gd
    rw [List.find?_append]
    cases e : P.find? (sm x) with
    | none =>
      rw [Option.none_or]
      rw [one]
      constructor
      · exact fun h => .inr ⟨rfl, h.1, h.2⟩
      · rintro (h | h)
        · cases h.1
        · exact ⟨h.2.1, h.2.2⟩
    | some y =>
      rw [Option.some_or]
      constructor
      · exact fun h => .inl h
      · rintro (h | h)
        · exact h
        · cases h.1
  unfold kpS
  by_cases h1 : B.any (fun b => dmB b a) = true
  · rw [if_pos h1]
    refine ⟨fun x => ?_, hp⟩
    rw [hK, app]
    refine ⟨fun h => .inl h, fun h => h.elim id fun ⟨_, e, k⟩ => ?_⟩
    obtain ⟨b, hb, d⟩ := List.any_eq_true.mp h1
    subst e
    exact absurd (dmB_iff.mp d) (k b hb)
  · rw [if_neg h1]
    have nd : ∀ b ∈ B, ¬ Dm b a := fun b hb d => h1 (List.any_eq_true.mpr ⟨b, hb, dmB_iff.mpr d⟩)
    by_cases h2 : K.any (fun b => sm a b) = true
    · rw [if_pos h2]
      refine ⟨fun x => ?_, hp⟩
      rw [hK, app]
      refine ⟨fun h => .inl h, fun h => h.elim id fun ⟨k, e, _⟩ => ?_⟩
      obtain ⟨b, hb, d⟩ := List.any_eq_true.mp h2
      subst e
      have z := (hK b).mp hb
      have := List.find?_eq_none.mp k b z.mem
      exact absurd d this
    · rw [if_neg h2]
      have ns : ∀ b ∈ K, ¬ (vc b = vc a ∧ vn b = vn a) := fun b hb d => h2 (List.any_eq_true.mpr ⟨b, hb, sm_iff.mpr d⟩)
      have fn : P.find? (sm a) = none := by
        cases e : P.find? (sm a) with
        | none => rfl
        | some y =>
          have hy := sm_iff.mp (List.find?_some e)
          have ey : sm y = sm a := sm_congr hy.1 hy.2
          refine absurd hy (ns y ((hK y).mpr ⟨by rw [ey]; exact e, fun b hb d => nd b hb ?_⟩))
          unfold Dm at d ⊢
          rw [hy.1, hy.2] at d
          exact d
      have ha : Gd (P ++ [a]) B a := (app a).mpr (.inr ⟨fn, rfl, nd⟩)
      refine ⟨fun x => ?_, ?_⟩
      · rw [List.mem_append, List.mem_singleton, hK, app]
        constructor
        · rintro (h | rfl)
          · exact .inl h
          · exact .inr ⟨fn, rfl, nd⟩
        · rintro (h | h)
          · exact .inl h
          · exact .inr h.2.1
      · rw [List.pairwise_append]
        refine ⟨hp, List.pairwise_singleton _ _, fun x hx y hy => ?_⟩
        rw [List.mem_singleton] at hy
        subst hy
        intro e
        have hx' := (hK x).mp hx
        refine ns x hx ⟨e, ?_⟩
        have d1 := nd x (hP x hx'.mem)
        have en : vn x = vn y ∨ vn x < vn y ∨ vn y < vn x := by grind
        rcases en with q | q | q
        · exact q
        · exact absurd ⟨by omega, Rat.le_of_lt q, .inr q⟩ d1
        · exact absurd ⟨by omega, Rat.le_of_lt q, .inr q⟩ (hx'.2 y hB)
theorem kp_fold (B : List Vp) : ∀ (R P K : List Vp), P ++ R = B → (∀ x, x ∈ K ↔ Gd P B x) → (K.Pairwise fun x y => vc x ≠ vc y) → (∀ x, x ∈ R.foldl (kpS B) K ↔ Gd B B x) ∧ (R.foldl (kpS B) K).Pairwise fun x y => vc x ≠ vc y
  | [], P, K, e, hK, hp => by
    rw [List.append_nil] at e
    subst e
    exact ⟨hK, hp⟩
  | a :: R, P, K, e, hK, hp => by
    obtain ⟨h1, h2⟩ := kp_step (a := a) (by rw [← e]; simp) (fun z hz => by rw [← e]; exact List.mem_append_left _ hz) hK hp
    exact kp_fold B R (P ++ [a]) _ (by rw [List.append_assoc]; exact e) h1 h2
theorem kp_all (B : List Vp) : (∀ x, x ∈ B.foldl (kpS B) [] ↔ Gd B B x) ∧ (B.foldl (kpS B) []).Pairwise fun x y => vc x ≠ vc y :=
  kp_fold B B [] [] rfl (fun x => ⟨fun h => absurd h (by simp), fun h => absurd h.1 (by simp)⟩) List.Pairwise.nil
/-! ### the program's way -/
structure FrI (P G : List Vp) : Prop where
  mem : ∀ x, x ∈ G ↔ Gd P P x
  inc : G.Pairwise fun x y => vc x < vc y
  low : ∀ y ∈ P, ∃ x ∈ G, vc x ≤ vc y ∧ vn x ≤ vn y
theorem fr_step {P G : List Vp} {a : Vp} (I : FrI P G) (hc : ∀ x ∈ P, vc x ≤ vc a) : FrI (P ++ [a]) (frS G a) := by
  have one : ∀ x, [a].find? (sm x) = some x ↔ x = a := fun x => by
    rw [List.find?_cons]
    constructor
    · intro h
      split at h
      · exact (Option.some.inj h).symm
      · cases h
    · rintro rfl
      rw [sm_self]
  have app : ∀ x B, Gd (P ++ [a]) B x ↔ ((P.find? (sm x) = some x ∧ ∀ b ∈ B, ¬ Dm b x) ∨ (P.find? (sm x) = none ∧ x = a ∧ ∀ b ∈ B, ¬ Dm b x)) := fun x B => by
    unfold Gd
    rw [List.find?_append]
    cases e : P.find? (sm x) with
    | none =>
      rw [Option.none_or]
      rw [one]
      constructor
      · exact fun h => .inr ⟨rfl, h.1, h.2⟩
      · rintro (h | h)
        · cases h.1
        · exact ⟨h.2.1, h.2.2⟩
    | some y =>
      rw [Option.some_or]
      constructor
      · exact fun h => .inl h
      · rintro (h | h)
        · exact h
        · cases h.1
  rcases List.eq_nil_or_concat G with rfl | ⟨G0, l, rfl⟩
  · have hP : P = [] := by
      cases P with
      | nil => rfl
      | cons y P =>
        obtain ⟨x, hx, _⟩ := I.low y (by simp)
        simp at hx
    subst hP
    show FrI [a] [a]
    refine ⟨fun x => ?_, List.pairwise_singleton _ _, fun y hy => ⟨y, hy, Nat.le_refl _, Rat.le_refl⟩⟩
    unfold Gd
    rw [one, List.mem_singleton]
    refine ⟨fun h => ⟨h, fun b hb => ?_⟩, fun h => h.1⟩
    rw [List.mem_singleton] at hb
    rw [hb, h]
    exact dm_irrefl a
  · rw [List.concat_eq_append] at I ⊢
    have hl : l ∈ G0 ++ [l] := by simp
    have gl := (I.mem l).mp hl
    have lP := gl.mem
    have cl := hc l lP
    have inc := I.inc
    rw [List.pairwise_append] at inc
    have c0 : ∀ x ∈ G0, vc x < vc l := fun x hx => inc.2.2 x hx l (by simp)
    have cx : ∀ x ∈ G0 ++ [l], vc x ≤ vc l := fun x hx => by
      rcases List.mem_append.mp hx with h | h
      · exact Nat.le_of_lt (c0 x h)
      · rw [List.mem_singleton.mp h]
        exact Nat.le_refl _
    have nx : ∀ x ∈ G0 ++ [l], vn l ≤ vn x := fun x hx => by
      rcases List.mem_append.mp hx with h | h
      · have d := gl.2 x ((I.mem x).mp hx).mem
        have c1 := c0 x h
        by_cases q : vn x ≤ vn l
        · exact absurd ⟨by omega, q, .inl c1⟩ d
        · grind
      · rw [List.mem_singleton.mp h]
        exact Rat.le_refl
    have ny : ∀ y ∈ P, vn l ≤ vn y := fun y hy => by
      obtain ⟨x, hx, _, h2⟩ := I.low y hy
      have := nx x hx
      grind
    have last : (G0 ++ [l]).getLast? = some l := by simp
    unfold frS
    rw [last]
    dsimp only
    by_cases h : a.1.2 < l.1.2
    · rw [if_pos h]
      have h' : vn a < vn l := h
      have dl : (G0 ++ [l]).dropLast = G0 := by simp
      rw [dl]
      have nda : ∀ b ∈ P ++ [a], ¬ Dm b a := fun b hb d => by
        rcases List.mem_append.mp hb with hb | hb
        · have := ny b hb
          have := d.2.1
          grind
        · rw [List.mem_singleton.mp hb] at d
          exact dm_irrefl a d
      have fn : P.find? (sm a) = none := by
        rw [List.find?_eq_none]
        intro y hy z
        have := (sm_iff.mp z).2
        have := ny y hy
        grind
      -- what stays of the old ones
      have old : ∀ x, x ∈ (if l.1.1 = a.1.1 then G0 else G0 ++ [l]) ↔ (x ∈ G0 ++ [l] ∧ ¬ Dm a x) := fun x => by
        by_cases e : l.1.1 = a.1.1
        · rw [if_pos e]
          have e' : vc l = vc a := e
          constructor
          · intro hx
            refine ⟨by simp [hx], fun d => ?_⟩
            have := c0 x hx
            have := d.1
            omega
          · rintro ⟨hx, d⟩
            rcases List.mem_append.mp hx with hx | hx
            · exact hx
            · rw [List.mem_singleton.mp hx] at d
              exact absurd ⟨by omega, Rat.le_of_lt h', .inr h'⟩ d
        · rw [if_neg e]
          have e' : vc l ≠ vc a := e
          refine ⟨fun hx => ⟨hx, fun d => ?_⟩, fun hx => hx.1⟩
          have := cx x hx
          have := d.1
          omega
      refine ⟨fun x => ?_, ?_, fun y hy => ?_⟩
      · rw [List.mem_append, List.mem_singleton, old, I.mem, app]
        constructor
        · rintro (⟨g, d⟩ | rfl)
          · refine .inl ⟨g.1, fun b hb => ?_⟩
            rcases List.mem_append.mp hb with hb | hb
            · exact g.2 b hb
            · rw [List.mem_singleton.mp hb]
              exact d
          · exact .inr ⟨fn, rfl, nda⟩
        · rintro (g | g)
          · exact .inl ⟨⟨g.1, fun b hb => g.2 b (by simp [hb])⟩, g.2 a (by simp)⟩
          · exact .inr g.2.1
      · rw [List.pairwise_append]
        refine ⟨?_, List.pairwise_singleton _ _, fun x hx y hy => ?_⟩
        · split
          · exact inc.1
          · exact I.inc
        · rw [List.mem_singleton] at hy
          subst hy
          split at hx
          · rename_i e
            have e' : vc l = vc y := e
            have := c0 x hx
            omega
          · rename_i e
            have e' : vc l ≠ vc y := e
            have := cx x hx
            omega
      · rcases List.mem_append.mp hy with hy | hy
        · obtain ⟨x, hx, h1, h2⟩ := I.low y hy
          by_cases e : Dm a x
          · refine ⟨a, by simp, ?_, ?_⟩
            · have := e.1
              omega
            · have := e.2.1
              grind
          · exact ⟨x, List.mem_append_left _ ((old x).mpr ⟨hx, e⟩), h1, h2⟩
        · rw [List.mem_singleton.mp hy]
          exact ⟨a, by simp, Nat.le_refl _, Rat.le_refl⟩
    · rw [if_neg h]
      have h' : ¬ vn a < vn l := h
      refine ⟨fun x => ?_, I.inc, fun y hy => ?_⟩
      · rw [I.mem, app]
        constructor
        · intro g
          refine .inl ⟨g.1, fun b hb => ?_⟩
          rcases List.mem_append.mp hb with hb | hb
          · exact g.2 b hb
          · rw [List.mem_singleton.mp hb]
            intro d
            have hx := (I.mem x).mpr g
            have h1 := cx x hx
            have h2 := d.1
            have h3 := nx x hx
            have h4 := d.2.1
            have e1 : x = l := by
              rcases List.mem_append.mp hx with k | k
              · have := c0 x k
                omega
              · exact List.mem_singleton.mp k
            subst e1
            rcases d.2.2 with k | k
            · omega
            · exact h' k
        · rintro (g | g)
          · exact ⟨g.1, fun b hb => g.2 b (by simp [hb])⟩
          · obtain ⟨g1, rfl, g3⟩ := g
            have d := g3 l (by simp [lP])
            have k := List.find?_eq_none.mp g1 l lP
            refine absurd (sm_iff.mpr ⟨?_, ?_⟩) k
            · by_cases q : vc l < vc x
              · exact absurd ⟨cl, by grind, .inl q⟩ d
              · omega
            · by_cases q : vn l < vn x
              · exact absurd ⟨cl, Rat.le_of_lt q, .inr q⟩ d
              · grind
      · rcases List.mem_append.mp hy with hy | hy
        · exact I.low y hy
        · rw [List.mem_singleton.mp hy]
          exact ⟨l, hl, cl, by grind⟩
theorem fr_fold : ∀ (R P G : List Vp), (P ++ R).Pairwise (fun x y => vc x ≤ vc y) → FrI P G → FrI (P ++ R) (R.foldl frS G)
  | [], P, G, _, I => by rw [List.append_nil]; exact I
  | a :: R, P, G, h, I => by
    have e : P ++ a :: R = (P ++ [a]) ++ R := by rw [List.append_assoc]; rfl
    rw [e]
    refine fr_fold R (P ++ [a]) (frS G a) (by rw [← e]; exact h) (fr_step I fun x hx => ?_)
    rw [List.pairwise_append] at h
    exact h.2.2 x hx a (by simp)
theorem fr_all {S : List Vp} (h : S.Pairwise fun x y => vc x ≤ vc y) : FrI S (S.foldl frS []) :=
  fr_fold S [] [] h ⟨fun x => ⟨fun h => absurd h (by simp), fun h => absurd h.1 (by simp)⟩, List.Pairwise.nil, fun y hy => absurd hy (by simp)⟩
/-- both ways give the same -/
theorem frontier_same (L : List Vp) : (stC vc L).foldl frS [] = stC vc (L.foldl (kpS L) []) := by
  have I := fr_all (stC_le vc L)
  obtain ⟨k1, k2⟩ := kp_all L
  have pm := stC_perm vc (L.foldl (kpS L) [])
  refine strict_eq _ _ I.inc ?_ fun x => ?_
  · have a := stC_le vc (L.foldl (kpS L) [])
    have b : (stC vc (L.foldl (kpS L) [])).Pairwise fun x y => vc x ≠ vc y := (pm.symm.pairwise_iff (fun h => fun z => h z.symm)).mp k2
    exact (a.and b).imp fun h => by omega
  · rw [I.mem, pm.mem_iff, k1]
    unfold Gd
    rw [find_sort]
    constructor
    · exact fun h => ⟨h.1, fun b hb => h.2 b ((stC_perm vc L).mem_iff.mpr hb)⟩
    · exact fun h => ⟨h.1, fun b hb => h.2 b ((stC_perm vc L).mem_iff.mp hb)⟩
/-! ### the specification's frontier -/
abbrev Tri := List Nat × Nat × Lrx1.Fraction
def tri (x : Vp) : Tri := (x.2, x.1.1, ofRat x.1.2)
def btr (a b : Tri) : Bool := decide (a.2.1 ≤ b.2.1) && (Lrx1.le a.2.2 b.2.2 && (decide (a.2.1 < b.2.1) || Lrx1.lt a.2.2 b.2.2))
theorem btr_tri (a b : Vp) : btr (tri a) (tri b) = dmB a b := by
  unfold btr tri dmB
  dsimp only
  rw [le_eq, lt_eq]
  rfl
theorem same_tri (a b : Vp) : ((tri b).2.1 == (tri a).2.1 && (tri b).2.2 == (tri a).2.2) = sm a b := by
  unfold tri sm
  dsimp only
  congr 1
  rw [Bool.eq_iff_iff, beq_iff_eq, decide_eq_true_iff]
  exact ⟨ofRat_inj, fun h => congrArg ofRat h⟩
def triS (all list : List Tri) (a : Tri) : List Tri := if (all.any fun b => btr b a) = true then list else if (list.any fun b => b.2.1 == a.2.1 && b.2.2 == a.2.2) = true then list else list ++ [a]
theorem tri_fold (L : List Vp) : ∀ (R K : List Vp), (R.map tri).foldl (triS (L.map tri)) (K.map tri) = (R.foldl (kpS L) K).map tri
  | [], K => rfl
  | a :: R, K => by
    rw [List.map_cons, List.foldl_cons, List.foldl_cons, ← tri_fold L R]
    congr 1
    unfold triS kpS
    have e1 : ((L.map tri).any fun b => btr b (tri a)) = L.any fun b => dmB b a := by
      rw [List.any_map]
      congr 1
      funext b
      exact btr_tri b a
    have e2 : ((K.map tri).any fun b => b.2.1 == (tri a).2.1 && b.2.2 == (tri a).2.2) = K.any fun b => sm a b := by
      rw [List.any_map]
      congr 1
      funext b
      exact same_tri a b
    rw [e1, e2]
    split
    · rfl
    · split
      · rfl
      · rw [List.map_append]
        rfl
theorem insert_eq (m : Model) (x : List Nat) : ∀ l : List (List Nat), Lrx8.insertPlan m x l = insC (Lrx8.costOf m) x l
  | [] => rfl
  | y :: l => by
    unfold Lrx8.insertPlan insC
    rw [insert_eq m x l]
theorem frontier_def (m : Model) : Lrx8.frontier m = ((((Lrx8.plans m).map fun plan => (plan, Lrx8.costOf m plan, Lrx8.numberOf m plan)).foldl (triS ((Lrx8.plans m).map fun plan => (plan, Lrx8.costOf m plan, Lrx8.numberOf m plan))) []).foldl (fun list a => Lrx8.insertPlan m a.1 list) []) := rfl
theorem insC_congr {c d : List Nat → Nat} (x : List Nat) : ∀ l : List (List Nat), c x = d x → (∀ y ∈ l, c y = d y) → insC c x l = insC d x l
  | [], _, _ => rfl
  | y :: l, h, hl => by
    unfold insC
    rw [h, hl y (by simp), insC_congr x l h fun z hz => hl z (by simp [hz])]
theorem ins_fold (m : Model) : ∀ (R K : List Vp), (∀ x ∈ R, Lrx8.costOf m x.2 = vc x) → (∀ x ∈ K, Lrx8.costOf m x.2 = vc x) → (R.map tri).foldl (fun list a => Lrx8.insertPlan m a.1 list) (K.map (·.2)) = (R.foldl (fun acc x => insC vc x acc) K).map (·.2)
  | [], K, _, _ => rfl
  | a :: R, K, h, hK => by
    have ha := h a (by simp)
    have e : Lrx8.insertPlan m (tri a).1 (K.map (·.2)) = (insC vc a K).map (·.2) := by
      rw [insert_eq]
      show insC (Lrx8.costOf m) a.2 (K.map (·.2)) = _
      clear h
      induction K with
      | nil => rfl
      | cons y K ih =>
        rw [List.map_cons]
        unfold insC
        rw [ha, hK y (by simp)]
        by_cases z : vc a < vc y
        · rw [if_pos z, if_pos z]
          rfl
        · rw [if_neg z, if_neg z, ih fun x hx => hK x (by simp [hx])]
          rfl
    rw [List.map_cons, List.foldl_cons, List.foldl_cons, e]
    refine ins_fold m R _ (fun x hx => h x (by simp [hx])) fun x hx => ?_
    rcases List.mem_cons.mp ((insC_perm vc a K).mem_iff.mp hx) with rfl | hx
    · exact ha
    · exact hK x hx
theorem kp_mem (B : List Vp) : ∀ (R K : List Vp) (x : Vp), x ∈ R.foldl (kpS B) K → x ∈ K ∨ x ∈ R
  | [], K, x, h => .inl h
  | a :: R, K, x, h => by
    rw [List.foldl_cons] at h
    rcases kp_mem B R _ x h with z | z
    · unfold kpS at z
      split at z
      · exact .inl z
      · split at z
        · exact .inl z
        · rcases List.mem_append.mp z with z | z
          · exact .inl z
          · exact .inr (by rw [List.mem_singleton.mp z]; simp)
    · exact .inr (by simp [z])
theorem frontier_law {m : Model} (hm : MOk m) : Lrx8.frontier m = (frP (tabP m)).map (·.2) := by
  rw [frontier_def, plans_eq hm]
  have e1 : (plansP (tabP m)).map (fun plan => (plan, Lrx8.costOf m plan, Lrx8.numberOf m plan)) = (rowsV (tabP m)).map tri := by
    unfold rowsV
    rw [List.map_map]
    refine List.map_congr_left fun p hp => ?_
    obtain ⟨_, e2, e3⟩ := valD_full (plansP_full _ p hp)
    rw [costOf_eq m p e3, numberOf_eq m p e3]
    show _ = tri (valD (tabP m) p, p)
    rw [e2]
    rfl
  rw [e1]
  have e2 := tri_fold (rowsV (tabP m)) (rowsV (tabP m)) []
  rw [List.map_nil] at e2
  rw [e2]
  have hc : ∀ x ∈ rowsV (tabP m), Lrx8.costOf m x.2 = vc x := fun x hx => by
    obtain ⟨p, hp, rfl⟩ := List.mem_map.mp hx
    obtain ⟨_, e2, e3⟩ := valD_full (plansP_full _ p hp)
    show Lrx8.costOf m p = (valD (tabP m) p).1
    rw [e2, costOf_eq m p e3]
  have e3 := ins_fold m ((rowsV (tabP m)).foldl (kpS (rowsV (tabP m))) []) [] (fun x hx => hc x ((kp_mem _ _ _ x hx).elim (fun z => absurd z (by simp)) id)) (fun x hx => absurd hx (by simp))
  rw [List.map_nil] at e3
  rw [e3]
  have e4 := frontier_same (rowsV (tabP m))
  show (stC vc _).map _ = _
  rw [← e4]
  rfl
end Lw

/-! ## Lw4 -/
set_option Elab.async false
set_option linter.all false
set_option maxRecDepth 100000
set_option maxHeartbeats 2000000
set_option autoImplicit false
/-! Plain laws, fourth part: bounds by multipliers. -/
namespace Lw
open Mt Pd
open Lrx8 (Choice Station Model)
theorem priced_eq (s : Station) (c : Choice) (μ : Rat) : Lrx8.priced s (ofRat μ) c = ofRat ((c.cost : Rat) + μ * wgtP s c 100) := by
  unfold Lrx8.priced
  rw [weighted_eq, mul_eq, show Lrx1.whole (c.cost : Int) = ofRat (c.cost : Rat) from rfl, add_eq]
def smR (best : Option Rat) (a : Rat) : Option Rat := match best with
  | none => some a
  | some b => if a < b then some a else some b
def smF (best : Option Lrx1.Fraction) (a : Lrx1.Fraction) : Option Lrx1.Fraction := match best with
  | none => some a
  | some b => if Lrx1.lt a b then some a else some b
theorem smallest_def (l : List Lrx1.Fraction) : Lrx8.smallest l = l.foldl smF none := rfl
theorem smallest_fold : ∀ (l : List Rat) (b : Option Rat), (l.map ofRat).foldl smF (b.map ofRat) = (l.foldl smR b).map ofRat
  | [], b => rfl
  | a :: l, b => by
    rw [List.map_cons, List.foldl_cons, List.foldl_cons, ← smallest_fold l]
    congr 1
    cases b with
    | none => rfl
    | some b =>
      show (if Lrx1.lt (ofRat a) (ofRat b) = true then some (ofRat a) else some (ofRat b)) = (if a < b then some a else some b).map ofRat
      rw [lt_eq]
      by_cases h : a < b
      · rw [if_pos h, if_pos (decide_eq_true h)]
        rfl
      · rw [if_neg h, if_neg (by simpa using h)]
        rfl
def valM (μ : Rat) (v : Vl) : Rat := (v.1 : Rat) + μ * v.2
theorem least_fold (μ : Rat) : ∀ (rows : List Row) (b : Option Rat), rows.foldl (leastS μ) b = ((someR rows).map (valM μ)).foldl smR b
  | [], b => rfl
  | none :: rows, b => least_fold μ rows b
  | some v :: rows, b => by
    have e : someR (some v :: rows) = v :: someR rows := rfl
    rw [e, List.map_cons, List.foldl_cons, List.foldl_cons, ← least_fold μ rows]
    congr 1
theorem leastV_eq (rows : List Row) (μ : Rat) : leastV rows μ = ((someR rows).map (valM μ)).foldl smR none := least_fold μ rows none
theorem least_law {m : Model} (hm : MOk m) (s : Station) (μ : Rat) : Lrx8.smallest ((alw m s).map fun o => Lrx8.priced s (ofRat μ) (Lrx8.getChoice s o)) = (leastV (rowsP m s) μ).map ofRat := by
  have e := smallest_fold ((someR (rowsP m s)).map (valM μ)) none
  rw [Option.map_none] at e
  rw [leastV_eq, smallest_def, ← e, someR_map, alw_eq hm, List.map_map, List.map_map]
  refine congrArg (List.foldl smF none) (List.map_congr_left fun o _ => ?_)
  exact priced_eq s _ μ
def bF (m : Model) (μ : Rat) (total : Option Lrx1.Fraction) (s : Station) : Option Lrx1.Fraction := match total, (leastV (rowsP m s) μ).map ofRat with
  | some a, some b => some (Lrx1.add a b)
  | _, _ => none
theorem bF_none (m : Model) (μ : Rat) : ∀ l : List Station, l.foldl (bF m μ) none = none
  | [] => rfl
  | s :: l => by
    rw [List.foldl_cons]
    exact bF_none m μ l
def hasS (m : Model) (s : Station) : Bool := !(someR (rowsP m s)).isEmpty
theorem bF_fold (m : Model) (μ : Rat) : ∀ (l : List Station) (a : Rat), l.foldl (bF m μ) (some (ofRat a)) = if l.all (hasS m) = true then some (ofRat ((l.map fun s => leastR (rowsP m s) μ).foldl (fun x y => x + y) a)) else none
  | [], a => rfl
  | s :: l, a => by
    rw [List.foldl_cons, List.all_cons]
    cases e : hasS m s with
    | false =>
      rw [Bool.false_and, if_neg (by decide)]
      have e2 : someR (rowsP m s) = [] := by
        unfold hasS at e
        cases h : someR (rowsP m s) with
        | nil => rfl
        | cons v r =>
          rw [h] at e
          cases e
      have e3 : bF m μ (some (ofRat a)) s = none := by
        unfold bF
        rw [leastV_eq, e2]
        rfl
      rw [e3]
      exact bF_none m μ l
    | true =>
      rw [Bool.true_and]
      obtain ⟨q, hq⟩ := least_some μ (rowsP m s) (fun z => by
        unfold hasS at e
        rw [z] at e
        cases e)
      have e3 : bF m μ (some (ofRat a)) s = some (ofRat (a + q)) := by
        unfold bF
        rw [hq]
        exact congrArg some (add_eq a q)
      have e4 : leastR (rowsP m s) μ = q := by
        unfold leastR
        rw [hq]
        rfl
      rw [e3, bF_fold m μ l, List.map_cons, List.foldl_cons, e4]
theorem hasAll_eq (m : Model) : hasAll (tabP m) = m.stations.all (hasS m) := by
  unfold hasAll tabP
  rw [List.all_map]
  rfl
theorem fold_st {β : Type} (m : Model) (g : β → Station → β) (b : β) : (Lrx8.indices m).foldl (fun t i => g t (Lrx8.getStation m i)) b = m.stations.foldl g b := by
  have e := map_st m fun s => s
  rw [List.map_id'] at e
  rw [← List.foldl_map (f := fun i => Lrx8.getStation m i), e]
theorem flat_st {β : Type} (m : Model) (g : Station → List β) : (Lrx8.indices m).flatMap (fun i => g (Lrx8.getStation m i)) = m.stations.flatMap g := by
  have e := map_st m fun s => s
  rw [List.map_id'] at e
  rw [← List.flatMap_map (f := fun i => Lrx8.getStation m i), e]
theorem bound_law {m : Model} (hm : MOk m) (μ : Rat) : Lrx8.bound m (ofRat μ) = if hasAll (tabP m) = true then some (ofRat (boundR (tabP m) (tgt m) μ)) else none := by
  unfold Lrx8.bound
  have e1 : (fun (total : Option Lrx1.Fraction) (i : Nat) => match total, Lrx8.smallest ((Lrx8.allowedAt m i).map fun o => Lrx8.priced (Lrx8.getStation m i) (ofRat μ) (Lrx8.getChoice (Lrx8.getStation m i) o)) with
      | some a, some b => some (Lrx1.add a b)
      | _, _ => none) = fun total i => bF m μ total (Lrx8.getStation m i) := by
    funext total i
    rw [allowedAt_alw, least_law hm]
    rfl
  have e2 : (Lrx8.indices m).foldl (fun (total : Option Lrx1.Fraction) (i : Nat) => match total, Lrx8.smallest ((Lrx8.allowedAt m i).map fun o => Lrx8.priced (Lrx8.getStation m i) (ofRat μ) (Lrx8.getChoice (Lrx8.getStation m i) o)) with
      | some a, some b => some (Lrx1.add a b)
      | _, _ => none) (some Lrx1.zero) = if hasAll (tabP m) = true then some (ofRat (sumR ((tabP m).map fun rows => leastR rows μ))) else none := by
    rw [e1, fold_st m (bF m μ), zero_eq, bF_fold, hasAll_eq]
    unfold tabP
    rw [List.map_map]
    rfl
  refine (congrArg (Option.map fun total => Lrx1.sub total (Lrx1.mul (ofRat μ) m.target)) e2).trans ?_
  cases hasAll (tabP m) with
  | false => rfl
  | true =>
    show some (Lrx1.sub (ofRat _) (Lrx1.mul (ofRat μ) m.target)) = some (ofRat (boundR (tabP m) (tgt m) μ))
    rw [hm.target.1, mul_eq, sub_eq]
    rfl
/-! ### the best bound -/
def brF (s : Station) (a b : Choice) : Option Lrx1.Fraction := if a.cost < b.cost ∧ Lrx1.lt (Lrx8.weighted s b) (Lrx8.weighted s a) = true
  then some (Lrx1.divide (Lrx1.whole ((b.cost : Int) - (a.cost : Int))) (Lrx1.sub (Lrx8.weighted s a) (Lrx8.weighted s b))) else none
theorem brF_eq (s : Station) (a b : Choice) : brF s a b = (bptOf (a.cost, wgtP s a 100) (b.cost, wgtP s b 100)).map ofRat := by
  unfold brF bptOf
  rw [weighted_eq, weighted_eq, lt_eq]
  by_cases h : a.cost < b.cost ∧ wgtP s b 100 < wgtP s a 100
  · rw [if_pos ⟨h.1, decide_eq_true h.2⟩, if_pos h, sub_eq, whole_eq, divide_eq]
    rfl
  · rw [if_neg (fun z => h ⟨z.1, of_decide_eq_true z.2⟩), if_neg h]
    rfl
theorem brk_st {m : Model} (hm : MOk m) (s : Station) : ((alw m s).flatMap fun o => (alw m s).filterMap fun p => brF s (Lrx8.getChoice s o) (Lrx8.getChoice s p)) = (bpts (rowsP m s)).map ofRat := by
  unfold bpts
  rw [someR_map, alw_eq hm, List.flatMap_map, List.map_flatMap]
  congr 1
  funext o
  rw [List.filterMap_map, List.map_filterMap]
  congr 1
  funext p
  exact brF_eq s _ _
theorem points_law {m : Model} (hm : MOk m) : Lrx8.breakpoints m = (points (tabP m)).map ofRat := by
  have e : Lrx8.breakpoints m = Lrx1.zero :: (Lrx8.indices m).flatMap fun i => (fun s => (alw m s).flatMap fun o => (alw m s).filterMap fun p => brF s (Lrx8.getChoice s o) (Lrx8.getChoice s p)) (Lrx8.getStation m i) := rfl
  rw [e, flat_st m fun s => (alw m s).flatMap fun o => (alw m s).filterMap fun p => brF s (Lrx8.getChoice s o) (Lrx8.getChoice s p)]
  unfold points tabP
  rw [List.map_cons, List.flatMap_map, List.map_flatMap]
  show ofRat 0 :: _ = ofRat 0 :: _
  congr 2
  funext s
  exact brk_st hm s
abbrev F2 := Lrx1.Fraction × Lrx1.Fraction
def bmF (m : Model) (best : Option F2) (μ : Lrx1.Fraction) : Option F2 := match Lrx8.bound m μ with
  | none => best
  | some b => match best with
    | none => some (μ, b)
    | some (n, c) => if Lrx1.lt c b || (b == c && Lrx1.lt μ n) then some (μ, b) else best
theorem bm_def (m : Model) : Lrx8.bestMultiplier m = (Lrx8.breakpoints m).foldl (bmF m) none := rfl
def of2 (x : Rat × Rat) : F2 := (ofRat x.1, ofRat x.2)
theorem bm_fold {m : Model} (hm : MOk m) (h : hasAll (tabP m) = true) : ∀ (l : List Rat) (b : Option (Rat × Rat)), (l.map ofRat).foldl (bmF m) (b.map of2) = (l.foldl (bbS (tabP m) (tgt m)) b).map of2
  | [], b => rfl
  | μ :: l, b => by
    rw [List.map_cons, List.foldl_cons, List.foldl_cons, ← bm_fold hm h l]
    congr 1
    unfold bmF bbS
    rw [bound_law hm, if_pos h]
    cases b with
    | none => rfl
    | some x =>
      obtain ⟨n, c⟩ := x
      show (if (Lrx1.lt (ofRat c) (ofRat (boundR (tabP m) (tgt m) μ)) || (ofRat (boundR (tabP m) (tgt m) μ) == ofRat c && Lrx1.lt (ofRat μ) (ofRat n))) = true then some (of2 (μ, boundR (tabP m) (tgt m) μ)) else some (of2 (n, c))) = _
      have e : (Lrx1.lt (ofRat c) (ofRat (boundR (tabP m) (tgt m) μ)) || (ofRat (boundR (tabP m) (tgt m) μ) == ofRat c && Lrx1.lt (ofRat μ) (ofRat n))) = decide (c < boundR (tabP m) (tgt m) μ ∨ (boundR (tabP m) (tgt m) μ = c ∧ μ < n)) := by
        rw [lt_eq, lt_eq, Bool.eq_iff_iff]
        simp only [Bool.or_eq_true, Bool.and_eq_true, decide_eq_true_eq, beq_iff_eq]
        exact ⟨fun z => z.imp id fun y => ⟨ofRat_inj y.1, y.2⟩, fun z => z.imp id fun y => ⟨congrArg ofRat y.1, y.2⟩⟩
      rw [e]
      by_cases z : c < boundR (tabP m) (tgt m) μ ∨ (boundR (tabP m) (tgt m) μ = c ∧ μ < n)
      · rw [if_pos (decide_eq_true z)]
        dsimp only
        rw [if_pos z]
        rfl
      · rw [if_neg (by simpa using z)]
        dsimp only
        rw [if_neg z]
        rfl
theorem bm_none {m : Model} (hm : MOk m) (h : ¬ hasAll (tabP m) = true) : ∀ (l : List Rat), (l.map ofRat).foldl (bmF m) none = none
  | [] => rfl
  | μ :: l => by
    rw [List.map_cons, List.foldl_cons]
    have e : bmF m none (ofRat μ) = none := by
      unfold bmF
      rw [bound_law hm, if_neg h]
    rw [e]
    exact bm_none hm h l
theorem bestB_law {m : Model} (hm : MOk m) : xL (q18 m [] []) = rL (match Lrx8.bestMultiplier m with
    | none => Lrx8.error (-33)
    | some (n, b) => Lrx8.several [n, b]) := by
  rw [bm_def, points_law hm]
  unfold q18
  by_cases h : hasAll (tabP m) = true
  · rw [if_pos h]
    have e := bm_fold hm h (points (tabP m)) none
    obtain ⟨x, hx⟩ := bestB_some (tabP m) (tgt m)
    have e2 : (points (tabP m)).foldl (bbS (tabP m) (tgt m)) none = some x := hx
    rw [e2] at e
    have e3 : ((points (tabP m)).map ofRat).foldl (bmF m) none = some (of2 x) := e
    rw [e3, hx]
    rfl
  · rw [if_neg h, bm_none hm h]
    rfl
end Lw

/-! ## Lw5 -/
set_option Elab.async false
set_option linter.all false
set_option maxRecDepth 100000
set_option maxHeartbeats 2000000
set_option autoImplicit false
/-! Plain laws, fifth part: each operation. -/
namespace Lw
open Mt Pd
open Lrx8 (Choice Station Model)
theorem isOption_iff {m : Model} {i o : Nat} : Lrx8.isOption m i o = true ↔ ∃ s c, m.stations[i]? = some s ∧ s.choices[o]? = some c := by
  unfold Lrx8.isOption Lrx8.getStation
  rw [Bool.and_eq_true, decide_eq_true_eq, decide_eq_true_eq]
  constructor
  · rintro ⟨h1, h2⟩
    rw [List.getD_eq_getElem?_getD, List.getElem?_eq_getElem h1] at h2
    exact ⟨_, _, List.getElem?_eq_getElem h1, List.getElem?_eq_getElem h2⟩
  · rintro ⟨s, c, h1, h2⟩
    refine ⟨lt_of_some h1, ?_⟩
    rw [List.getD_eq_getElem?_getD, h1]
    exact lt_of_some h2
theorem q8_law {m : Model} (i o : Nat) : xL (q8 m [i, o] []) = rL (if Lrx8.isOption m i o = false then Lrx8.error (-2) else
    ⟨((Lrx8.getChoice (Lrx8.getStation m i) o).servers : Int), [((Lrx8.getChoice (Lrx8.getStation m i) o).rate : Int), ((Lrx8.getChoice (Lrx8.getStation m i) o).cost : Int)] ++ Lrx8.ints (Lrx8.utilization (Lrx8.arrivalOf (Lrx8.getStation m i)) (Lrx8.getChoice (Lrx8.getStation m i) o))⟩) := by
  unfold q8
  dsimp only
  cases e : Lrx8.isOption m i o with
  | false => rfl
  | true =>
    simp only [reduceIte, Bool.true_eq_false]
    rw [util_eqP]
    rfl
theorem q9_law {m : Model} (hm : MOk m) (i o : Nat) : xL (q9 m [i, o] []) = rL (if Lrx8.isOption m i o = false then Lrx8.error (-2)
    else if (Lrx8.allowedAt m i).contains o = false then Lrx8.error (-33)
    else Lrx8.several [Lrx8.meanNumber (Lrx8.arrivalOf (Lrx8.getStation m i)) (Lrx8.getChoice (Lrx8.getStation m i) o), Lrx8.weighted (Lrx8.getStation m i) (Lrx8.getChoice (Lrx8.getStation m i) o)]) := by
  unfold q9
  dsimp only
  cases e : Lrx8.isOption m i o with
  | false => rfl
  | true =>
    have hlt : o < (Lrx8.getStation m i).choices.length := by
      unfold Lrx8.isOption at e
      rw [Bool.and_eq_true, decide_eq_true_eq, decide_eq_true_eq] at e
      exact e.2
    simp only [reduceIte, Bool.true_eq_false]
    rw [allowedAt_alw, alw_contains hm hlt]
    cases okP m (Lrx8.getStation m i) (Lrx8.getChoice (Lrx8.getStation m i) o) 100 with
    | false => rfl
    | true =>
      simp only [reduceIte, Bool.true_eq_false]
      rw [arrivalOf_eq, mean_eqP, weighted_eq]
      rfl
theorem q10_law {m : Model} (hm : MOk m) (i : Nat) : xL (q10 m [i] []) = rL (if m.stations.length ≤ i then Lrx8.error (-2) else ⟨((Lrx8.allowedAt m i).length : Int), Lrx8.toInts (Lrx8.allowedAt m i)⟩) := by
  unfold q10
  dsimp only
  by_cases h : i < m.stations.length
  · rw [if_pos h, if_neg (by omega), allowedAt_alw, alw_eq hm]
    rfl
  · rw [if_neg h, if_pos (by omega)]
    rfl
theorem dom_eq (s : Station) (a b : Choice) : (decide (a.cost ≤ b.cost) && (Lrx1.le (Lrx8.weighted s a) (Lrx8.weighted s b) && (decide (a.cost < b.cost) || Lrx1.lt (Lrx8.weighted s a) (Lrx8.weighted s b)))) = domV (a.cost, wgtP s a 100) (b.cost, wgtP s b 100) := by
  rw [weighted_eq, weighted_eq, le_eq, lt_eq]
  unfold domV
  dsimp only
  rw [Bool.eq_iff_iff]
  simp only [Bool.and_eq_true, Bool.or_eq_true, Bool.not_eq_true', Bool.or_eq_false_iff, decide_eq_true_eq, decide_eq_false_iff_not]
  rw [← Rat.not_lt]
  constructor
  · rintro ⟨h1, h2, h3⟩
    exact ⟨⟨by omega, h2⟩, h3⟩
  · rintro ⟨⟨h1, h2⟩, h3⟩
    exact ⟨by omega, h2, h3⟩
theorem q11_law {m : Model} (hm : MOk m) (i : Nat) : xL (q11 m [i] []) = rL (if m.stations.length ≤ i then Lrx8.error (-2) else
    let s := Lrx8.getStation m i
    let found := (Lrx8.allowedAt m i).filter fun o => (Lrx8.allowedAt m i).any fun p =>
      decide ((Lrx8.getChoice s p).cost ≤ (Lrx8.getChoice s o).cost) && (Lrx1.le (Lrx8.weighted s (Lrx8.getChoice s p)) (Lrx8.weighted s (Lrx8.getChoice s o)) &&
        (decide ((Lrx8.getChoice s p).cost < (Lrx8.getChoice s o).cost) ||
          Lrx1.lt (Lrx8.weighted s (Lrx8.getChoice s p)) (Lrx8.weighted s (Lrx8.getChoice s o))))
    ⟨(found.length : Int), Lrx8.toInts found⟩) := by
  unfold q11
  dsimp only
  by_cases h : i < m.stations.length
  · rw [if_pos h, if_neg (by omega), allowedAt_alw, alw_eq hm]
    generalize Lrx8.getStation m i = s
    have e : (allowedL (rowsP m s)).filter (fun o => (allowedL (rowsP m s)).any fun p =>
        decide ((Lrx8.getChoice s p).cost ≤ (Lrx8.getChoice s o).cost) && (Lrx1.le (Lrx8.weighted s (Lrx8.getChoice s p)) (Lrx8.weighted s (Lrx8.getChoice s o)) &&
        (decide ((Lrx8.getChoice s p).cost < (Lrx8.getChoice s o).cost) ||
          Lrx1.lt (Lrx8.weighted s (Lrx8.getChoice s p)) (Lrx8.weighted s (Lrx8.getChoice s o))))) = domL (rowsP m s) := by
      unfold domL
      refine List.filter_congr fun o ho => ?_
      rw [(row_at ho).1, someR_map]
      dsimp only
      rw [List.any_map]
      congr 1
      funext p
      exact dom_eq s _ _
    rw [e]
    rfl
  · rw [if_neg h, if_pos (by omega)]
    rfl
/-- a query about an allowed plan -/
theorem ofPlan_law {m : Model} (hm : MOk m) (plan : List Nat) (f : Vl → Except Int (List Int)) (r : Lrx8.Result) (h : isPlanP m plan = true → nowP m plan = true → xL (f (cstP m plan, nbrP m plan)) = rL r) : xL ((pvO m plan).bind f) = rL (Lrx8.ofPlan m plan r) := by
  rw [pvO_eq hm]
  unfold Lrx8.ofPlan
  cases e : Lrx8.isPlan m plan with
  | false => rfl
  | true =>
    simp only [reduceIte, Bool.true_eq_false]
    rw [isPlan_eq] at e
    have e2 := allowedPlan_eq hm e
    cases e3 : Lrx8.isAllowedPlan m plan with
    | false => rfl
    | true =>
      simp only [reduceIte, Bool.true_eq_false]
      rw [e3] at e2
      exact h e e2.symm
theorem q12_law {m : Model} (hm : MOk m) (plan : List Nat) : xL (q12 m [] [plan]) = rL (Lrx8.ofPlan m plan ⟨(Lrx8.costOf m plan : Int), Lrx8.ints (Lrx8.numberOf m plan) ++ [if Lrx8.isFeasible m plan then 1 else 0]⟩) := by
  have e : q12 m [] [plan] = (pvO m plan).bind fun v => .ok ([(v.1 : Int)] ++ rI v.2 ++ [if feas v (tgt m) = true then 1 else 0]) := by
    unfold q12
    dsimp only
    cases pvO m plan <;> rfl
  rw [e]
  refine ofPlan_law hm plan _ _ fun h1 h2 => ?_
  have hl := (isPlanP_in h1).1
  rw [costOf_eq m plan hl, numberOf_eq m plan hl, feasible_eq hm hl]
  rfl
theorem isFr {n d : Nat} : frR n d = if Lrx8.isFraction n d = true then .ok (mkRat n d) else .error (-22) := rfl
theorem mok_tgt {m : Model} (hm : MOk m) {n d : Nat} (h : Lrx8.isFraction n d = true) : MOk { m with target := Lrx1.reduce n d } ∧ tgt { m with target := Lrx1.reduce n d } = mkRat n d := by
  have e : frR n d = .ok (mkRat n d) := if_pos h
  have sz := (frR_sz e).2
  refine ⟨⟨hm.n0, hm.n1, hm.ss, ⟨mkRat n d, reduce_eq _ _, sz⟩, hm.lm⟩, ?_⟩
  unfold tgt
  dsimp only
  rw [reduce_eq, mk_ofRat]
theorem q14_law {m : Model} (hm : MOk m) (n d : Nat) : xL (q14 m [n, d] []) = rL (if Lrx8.isFraction n d = false then Lrx8.error (-22)
    else match Lrx8.bestPlan { m with target := Lrx1.reduce n d } with
      | none => Lrx8.error (-33)
      | some plan => Lrx8.planResult m plan) := by
  unfold q14
  dsimp only
  rw [isFr]
  cases e : Lrx8.isFraction n d with
  | false => rfl
  | true =>
    rw [if_pos rfl, if_neg (by decide)]
    obtain ⟨h1, h2⟩ := mok_tgt hm e
    have k := qBest_law h1
    rw [h2] at k
    exact k
theorem q15_law {m : Model} (hm : MOk m) : xL (q15 m [] []) = rL ⟨((Lrx8.frontier m).length : Int), (Lrx8.frontier m).flatMap fun plan => (Lrx8.costOf m plan : Int) :: (Lrx8.ints (Lrx8.numberOf m plan) ++ Lrx8.toInts plan)⟩ := by
  rw [frontier_law hm, List.length_map, List.flatMap_map]
  show ((frP (tabP m)).length : Int) :: (frP (tabP m)).flatMap shL = _ :: _
  congr 1
  refine flatMap_ext _ fun x hx => ?_
  have h1 := frP_mem _ x hx
  have h2 := (stC_perm (fun x : Vp => x.1.1) (rowsV (tabP m))).mem_iff.mp h1
  obtain ⟨p, hp, rfl⟩ := List.mem_map.mp h2
  obtain ⟨_, e2, e3⟩ := valD_full (plansP_full _ p hp)
  rw [e2]
  show shL (vpOf m p) = _
  rw [costOf_eq m p e3, numberOf_eq m p e3]
  rfl
theorem q17_law {m : Model} (hm : MOk m) (n d : Nat) : xL (q17 m [n, d] []) = rL (if Lrx8.isFraction n d = false then Lrx8.error (-22)
    else match Lrx8.bound m (Lrx1.reduce n d) with
      | none => Lrx8.error (-33)
      | some b => Lrx8.several [b]) := by
  unfold q17
  dsimp only
  rw [isFr]
  cases e : Lrx8.isFraction n d with
  | false => rfl
  | true =>
    rw [if_pos rfl, if_neg (by decide), reduce_eq, bound_law hm]
    show xL (if hasAll (tabP m) = true then _ else _) = _
    by_cases h : hasAll (tabP m) = true
    · rw [if_pos h, if_pos h]
      rfl
    · rw [if_neg h, if_neg h]
      rfl
theorem q19_law {m : Model} (hm : MOk m) (plan : List Nat) : xL (q19 m [] [plan]) = rL (Lrx8.ofPlan m plan (match Lrx8.bestOf m (Lrx8.changesOf m plan) with
    | none => Lrx8.error (-33)
    | some better => if Lrx8.isBetter m better plan || !Lrx8.isFeasible m plan then Lrx8.planResult m better else Lrx8.error (-33))) :=
  ofPlan_law hm plan _ _ fun h1 h2 => improvement_law hm h1 h2
theorem q20_law {m : Model} (hm : MOk m) (plan : List Nat) : xL (q20 m [] [plan]) = rL (Lrx8.ofPlan m plan (match Lrx8.reserve m plan with
    | none => Lrx8.error (-33)
    | some percent => Lrx8.number (percent : Nat))) := by
  unfold q20 Lrx8.ofPlan
  dsimp only
  rw [isPlan_eq]
  cases e : isPlanP m plan with
  | false => rfl
  | true =>
    simp only [reduceIte, Bool.true_eq_false]
    rw [allowedPlan_eq hm e, reserve_eq hm (isPlanP_in e).1]
    cases nowP m plan with
    | false => rfl
    | true =>
      simp only [reduceIte, Bool.true_eq_false]
      cases resP m plan <;> rfl
theorem domV_dm {m : Model} {a b : List Nat} (ha : a.length = m.stations.length) (hb : b.length = m.stations.length) : Lrx8.dominates m a b = domV (cstP m a, nbrP m a) (cstP m b, nbrP m b) := by
  unfold Lrx8.dominates domV
  rw [costOf_eq m a ha, costOf_eq m b hb, numberOf_eq m a ha, numberOf_eq m b hb, le_eq, lt_eq]
  dsimp only
  rw [Bool.eq_iff_iff]
  simp only [Bool.and_eq_true, Bool.or_eq_true, Bool.not_eq_true', Bool.or_eq_false_iff, decide_eq_true_eq, decide_eq_false_iff_not]
  rw [← Rat.not_lt]
  constructor
  · rintro ⟨h1, h2, h3⟩
    exact ⟨⟨by omega, h2⟩, h3⟩
  · rintro ⟨⟨h1, h2⟩, h3⟩
    exact ⟨by omega, h2, h3⟩
theorem q21_law {m : Model} (hm : MOk m) (a b : List Nat) : xL (q21 m [] [a, b]) = rL (if Lrx8.isPlan m a = false ∨ Lrx8.isPlan m b = false then Lrx8.error (-22)
    else if Lrx8.isAllowedPlan m a = false ∨ Lrx8.isAllowedPlan m b = false then Lrx8.error (-33)
    else ⟨(if Lrx8.dominates m a b then 1 else if Lrx8.dominates m b a then 2 else 0),
      [(Lrx8.costOf m b : Int) - (Lrx8.costOf m a : Int)] ++ Lrx8.ints (Lrx1.sub (Lrx8.numberOf m b) (Lrx8.numberOf m a))⟩) := by
  unfold q21
  dsimp only
  rw [pvO_eq hm, pvO_eq hm, ← isPlan_eq, ← isPlan_eq]
  cases ea : Lrx8.isPlan m a with
  | false => rfl
  | true =>
    cases eb : Lrx8.isPlan m b with
    | false => rfl
    | true =>
      simp only [reduceIte, Bool.true_eq_false, Bool.and_self, or_self]
      cases xa : Lrx8.isAllowedPlan m a with
      | false =>
        simp only [reduceIte, true_or]
        rfl
      | true =>
        cases xb : Lrx8.isAllowedPlan m b with
        | false => rfl
        | true =>
          simp only [reduceIte, Bool.true_eq_false, or_self]
          rw [isPlan_eq] at ea eb
          have ha := (isPlanP_in ea).1
          have hb := (isPlanP_in eb).1
          rw [domV_dm ha hb, domV_dm hb ha, costOf_eq m a ha, costOf_eq m b hb, numberOf_eq m a ha, numberOf_eq m b hb, sub_eq]
          rfl
theorem q22_law {m : Model} (hm : MOk m) : xL (q22 m [] []) = rL ⟨(m.stations.length : Int), Lrx8.ints m.target ++ Lrx8.ints m.limit ++ Lrx8.toInts (m.stations.map fun s => s.choices.length)⟩ := by
  rw [hm.target.1, hm.limit.1]
  unfold q22 xL rL Lrx8.toInts
  rw [List.map_map]
  rfl
end Lw

/-! ## Lw6 -/
set_option Elab.async false
set_option linter.all false
set_option maxRecDepth 100000
set_option maxHeartbeats 2000000
set_option autoImplicit false
/-! Plain laws, sixth part: one call. -/
namespace Lw
open Mt Pd
open Lrx8 (Choice Station Model)
def stepL (st : Option Model) (x : Lrx8.Call) : Option Model × List Int := ((Lrx8.step st x).1, rL (Lrx8.step st x).2)
def resD (m : Model) (r : Except Int (Model × List Int)) : Option Model × List Int := match r with
  | .ok (m', l) => (some m', l)
  | .error c => (some m, [c])
theorem resD_q (m : Model) (q : Model → List Nat → List (List Nat) → Except Int (List Int)) (ns : List Nat) (ls : List (List Nat)) : resD m (qD q m ns ls) = (some m, xL (q m ns ls)) := by
  unfold qD
  cases q m ns ls <;> rfl
theorem mok_set {m : Model} (hm : MOk m) {i : Nat} {s : Station} (hs : SOk s) : MOk { m with stations := m.stations.set i s } := by
  refine ⟨by rw [List.length_set]; exact hm.n0, by rw [List.length_set]; exact hm.n1, fun u hu => ?_, hm.tg, hm.lm⟩
  rcases List.mem_or_eq_of_mem_set hu with h | h
  · exact hm.ss u h
  · rw [h]
    exact hs
theorem ge_none {α : Type} {l : List α} {i : Nat} (h : l[i]? = none) : l.length ≤ i := List.getElem?_eq_none_iff.mp h
theorem setSt {m : Model} {i : Nat} (s : Station) : Lrx8.setStation m i s = some { m with stations := m.stations.set i s } := rfl
theorem mok_of {m : Model} {i : Nat} {s : Station} (hm : MOk m) (h : m.stations[i]? = some s) : SOk s := hm.ss s (List.mem_of_getElem? h)
theorem d1_law {m : Model} (hm : MOk m) (i a : Nat) : resD m (d1 m [i, a] []) = stepL (some m) (.setArrival i a) ∧ ∀ r, d1 m [i, a] [] = .ok r → MOk r.1 := by
  have e : stepL (some m) (.setArrival i a) = (let r := (if m.stations.length ≤ i then ((some m : Option Model), Lrx8.error (-2)) else if a = 0 ∨ 100000 < a then (some m, Lrx8.error (-22)) else (Lrx8.setStation m i { Lrx8.getStation m i with arrival := a }, Lrx8.number ((Lrx8.getStation m i).arrival : Nat))); (r.1, rL r.2)) := rfl
  rw [e]
  unfold d1
  dsimp only
  cases h : m.stations[i]? with
  | none =>
    rw [if_pos (ge_none h)]
    exact ⟨rfl, fun r k => by cases k⟩
  | some s =>
    have hl := lt_of_some h
    rw [if_neg (by omega), getSt h]
    dsimp only
    by_cases q : a = 0 ∨ 100000 < a
    · rw [if_pos q, if_neg (by simp only [Bool.and_eq_true, decide_eq_true_eq]; omega)]
      exact ⟨rfl, fun r k => by cases k⟩
    · rw [if_neg q, if_pos (by simp only [Bool.and_eq_true, decide_eq_true_eq]; omega)]
      refine ⟨rfl, fun r k => ?_⟩
      cases k
      have hs := mok_of hm h
      exact mok_set hm ⟨by dsimp only; omega, by dsimp only; omega, hs.w1, hs.n1, hs.cs⟩
theorem d2_law {m : Model} (hm : MOk m) (i a : Nat) : resD m (d2 m [i, a] []) = stepL (some m) (.setWeight i a) ∧ ∀ r, d2 m [i, a] [] = .ok r → MOk r.1 := by
  have e : stepL (some m) (.setWeight i a) = (let r := (if m.stations.length ≤ i then ((some m : Option Model), Lrx8.error (-2)) else if 1000 < a then (some m, Lrx8.error (-22)) else (Lrx8.setStation m i { Lrx8.getStation m i with weight := a }, Lrx8.number ((Lrx8.getStation m i).weight : Nat))); (r.1, rL r.2)) := rfl
  rw [e]
  unfold d2
  dsimp only
  cases h : m.stations[i]? with
  | none =>
    rw [if_pos (ge_none h)]
    exact ⟨rfl, fun r k => by cases k⟩
  | some s =>
    have hl := lt_of_some h
    rw [if_neg (by omega), getSt h]
    dsimp only
    by_cases q : 1000 < a
    · rw [if_pos q, if_neg (by simp only [decide_eq_true_eq]; omega)]
      exact ⟨rfl, fun r k => by cases k⟩
    · rw [if_neg q, if_pos (by simp only [decide_eq_true_eq]; omega)]
      refine ⟨rfl, fun r k => ?_⟩
      cases k
      have hs := mok_of hm h
      exact mok_set hm ⟨hs.a0, hs.a1, by dsimp only; omega, hs.n1, hs.cs⟩
theorem d3_law {m : Model} (hm : MOk m) (n d : Nat) : resD m (d3 m [n, d] []) = stepL (some m) (.setTarget n d) ∧ ∀ r, d3 m [n, d] [] = .ok r → MOk r.1 := by
  have e : stepL (some m) (.setTarget n d) = (let r := (if Lrx8.isFraction n d = false then ((some m : Option Model), Lrx8.error (-22)) else (some { m with target := Lrx1.reduce n d }, Lrx8.number 0)); (r.1, rL r.2)) := rfl
  rw [e]
  unfold d3
  dsimp only
  rw [isFr]
  cases h : Lrx8.isFraction n d with
  | false => exact ⟨rfl, fun r k => by cases k⟩
  | true =>
    rw [if_pos rfl, if_neg (by decide), reduce_eq]
    refine ⟨rfl, fun r k => ?_⟩
    cases k
    have := (mok_tgt hm h).1
    rw [reduce_eq] at this
    exact this
theorem d4_law {m : Model} (hm : MOk m) (n d : Nat) : resD m (d4 m [n, d] []) = stepL (some m) (.setLimit n d) ∧ ∀ r, d4 m [n, d] [] = .ok r → MOk r.1 := by
  have e : stepL (some m) (.setLimit n d) = (let r := (if Lrx8.isFraction n d = false ∨ n = 0 ∨ d < n then ((some m : Option Model), Lrx8.error (-22)) else (some { m with limit := Lrx1.reduce n d }, Lrx8.number 0)); (r.1, rL r.2)) := rfl
  rw [e]
  unfold d4
  dsimp only
  have hf : Lrx8.isFraction n d = false ↔ ¬ (n ≤ 1000000 ∧ 1 ≤ d ∧ d ≤ 1000000) := by
    unfold Lrx8.isFraction
    exact decide_eq_false_iff_not
  by_cases q : Lrx8.isFraction n d = false ∨ n = 0 ∨ d < n
  · rw [if_pos q, if_neg (by
      rw [hf] at q
      simp only [Bool.and_eq_true, decide_eq_true_eq]
      omega)]
    exact ⟨rfl, fun r k => by cases k⟩
  · rw [if_neg q, if_pos (by
      rw [hf] at q
      simp only [Bool.and_eq_true, decide_eq_true_eq]
      omega), reduce_eq]
    refine ⟨rfl, fun r k => ?_⟩
    cases k
    rw [hf] at q
    refine ⟨hm.n0, hm.n1, hm.ss, hm.tg, ⟨mkRat n d, rfl, Sz.mk (by simp only [Int.natAbs_natCast]; exact Nat.lt_of_le_of_lt (by omega : n ≤ 1000000) (by decide)) (Nat.lt_of_le_of_lt (by omega : d ≤ 1000000) (by decide)) (by omega)⟩⟩
theorem d5_law {m : Model} (hm : MOk m) (i v r x : Nat) : resD m (d5 m [i, v, r, x] []) = stepL (some m) (.addOption i v r x) ∧ ∀ z, d5 m [i, v, r, x] [] = .ok z → MOk z.1 := by
  have e : stepL (some m) (.addOption i v r x) = (let r := (if m.stations.length ≤ i then ((some m : Option Model), Lrx8.error (-2)) else if v = 0 ∨ 10 < v ∨ r = 0 ∨ 100000 < r ∨ 100000 < x then (some m, Lrx8.error (-22)) else if 6 ≤ (Lrx8.getStation m i).choices.length then (some m, Lrx8.error (-28)) else (Lrx8.setStation m i { Lrx8.getStation m i with choices := (Lrx8.getStation m i).choices ++ [⟨v, r, x⟩] }, Lrx8.number ((Lrx8.getStation m i).choices.length : Nat))); (r.1, rL r.2)) := rfl
  rw [e]
  unfold d5
  dsimp only
  cases h : m.stations[i]? with
  | none =>
    rw [if_pos (ge_none h)]
    exact ⟨rfl, fun r k => by cases k⟩
  | some s =>
    have hl := lt_of_some h
    rw [if_neg (by omega), getSt h]
    dsimp only
    by_cases q : v = 0 ∨ 10 < v ∨ r = 0 ∨ 100000 < r ∨ 100000 < x
    · rw [if_pos q, if_neg (by simp only [Bool.and_eq_true, decide_eq_true_eq]; omega)]
      exact ⟨rfl, fun r k => by cases k⟩
    · rw [if_neg q, if_pos (by simp only [Bool.and_eq_true, decide_eq_true_eq]; omega)]
      by_cases q2 : 6 ≤ s.choices.length
      · rw [if_pos q2, if_neg (by simp only [decide_eq_true_eq]; omega)]
        exact ⟨rfl, fun r k => by cases k⟩
      · rw [if_neg q2, if_pos (by simp only [decide_eq_true_eq]; omega)]
        refine ⟨rfl, fun r k => ?_⟩
        cases k
        have hs := mok_of hm h
        refine mok_set hm ⟨hs.a0, hs.a1, hs.w1, ?_, fun c hc => ?_⟩
        · show (s.choices ++ [_]).length ≤ 6
          rw [List.length_append]
          show s.choices.length + 1 ≤ 6
          omega
        · rcases List.mem_append.mp hc with hc | hc
          · exact hs.cs c hc
          · rw [List.mem_singleton.mp hc]
            exact ⟨by dsimp only; omega, by dsimp only; omega, by dsimp only; omega, by dsimp only; omega, by dsimp only; omega⟩
theorem opt_none {m : Model} {i o : Nat} (h : m.stations[i]? = none) : Lrx8.isOption m i o = false := by
  cases e : Lrx8.isOption m i o with
  | false => rfl
  | true =>
    obtain ⟨s, c, h1, _⟩ := isOption_iff.mp e
    rw [h] at h1
    cases h1
theorem opt_none2 {m : Model} {i o : Nat} {s : Station} (h : m.stations[i]? = some s) (h2 : s.choices[o]? = none) : Lrx8.isOption m i o = false := by
  cases e : Lrx8.isOption m i o with
  | false => rfl
  | true =>
    obtain ⟨s', c, h1, h3⟩ := isOption_iff.mp e
    rw [h] at h1
    cases h1
    rw [h2] at h3
    cases h3
theorem d6_law {m : Model} (hm : MOk m) (i o : Nat) : resD m (d6 m [i, o] []) = stepL (some m) (.removeOption i o) ∧ ∀ z, d6 m [i, o] [] = .ok z → MOk z.1 := by
  have e : stepL (some m) (.removeOption i o) = (let r := (if Lrx8.isOption m i o = false then ((some m : Option Model), Lrx8.error (-2)) else (Lrx8.setStation m i { Lrx8.getStation m i with choices := (Lrx8.getStation m i).choices.eraseIdx o }, Lrx8.number ((Lrx8.getStation m i).choices.length - 1 : Nat))); (r.1, rL r.2)) := rfl
  rw [e]
  unfold d6
  dsimp only
  cases h : m.stations[i]? with
  | none =>
    rw [if_pos (opt_none h)]
    exact ⟨rfl, fun r k => by cases k⟩
  | some s =>
    dsimp only
    cases h2 : s.choices[o]? with
    | none =>
      rw [if_pos (opt_none2 h h2)]
      exact ⟨rfl, fun r k => by cases k⟩
    | some c =>
      rw [if_neg (by rw [isOption_iff.mpr ⟨s, c, h, h2⟩]; decide), getSt h]
      refine ⟨rfl, fun r k => ?_⟩
      cases k
      have hs := mok_of hm h
      refine mok_set hm ⟨hs.a0, hs.a1, hs.w1, ?_, fun c hc => hs.cs c (List.mem_of_mem_eraseIdx hc)⟩
      have := List.length_eraseIdx_le s.choices o
      have := hs.n1
      show (s.choices.eraseIdx o).length ≤ 6
      omega
theorem d7_law {m : Model} (hm : MOk m) (i o x : Nat) : resD m (d7 m [i, o, x] []) = stepL (some m) (.setCost i o x) ∧ ∀ z, d7 m [i, o, x] [] = .ok z → MOk z.1 := by
  have e : stepL (some m) (.setCost i o x) = (let r := (if Lrx8.isOption m i o = false then ((some m : Option Model), Lrx8.error (-2)) else if 100000 < x then (some m, Lrx8.error (-22)) else (Lrx8.setStation m i { Lrx8.getStation m i with choices := (Lrx8.getStation m i).choices.set o { Lrx8.getChoice (Lrx8.getStation m i) o with cost := x } }, Lrx8.number ((Lrx8.getChoice (Lrx8.getStation m i) o).cost : Nat))); (r.1, rL r.2)) := rfl
  rw [e]
  unfold d7
  dsimp only
  cases h : m.stations[i]? with
  | none =>
    rw [if_pos (opt_none h)]
    exact ⟨rfl, fun r k => by cases k⟩
  | some s =>
    dsimp only
    cases h2 : s.choices[o]? with
    | none =>
      rw [if_pos (opt_none2 h h2)]
      exact ⟨rfl, fun r k => by cases k⟩
    | some c =>
      rw [if_neg (by rw [isOption_iff.mpr ⟨s, c, h, h2⟩]; decide), getSt h, getCh h2]
      dsimp only
      by_cases q : 100000 < x
      · rw [if_pos q, if_neg (by simp only [decide_eq_true_eq]; omega)]
        exact ⟨rfl, fun r k => by cases k⟩
      · rw [if_neg q, if_pos (by simp only [decide_eq_true_eq]; omega)]
        refine ⟨rfl, fun r k => ?_⟩
        cases k
        have hs := mok_of hm h
        refine mok_set hm ⟨hs.a0, hs.a1, hs.w1, ?_, fun c' hc => ?_⟩
        · show (s.choices.set o _).length ≤ 6
          rw [List.length_set]
          exact hs.n1
        · rcases List.mem_or_eq_of_mem_set hc with k | k
          · exact hs.cs _ k
          · have k0 := hs.cs c (List.mem_of_getElem? h2)
            rw [k]
            exact ⟨k0.s0, k0.s1, k0.r0, k0.r1, by dsimp only; omega⟩
/-! ### one call -/
def deedN : Nat → Deed
  | 1 => d1 | 2 => d2 | 3 => d3 | 4 => d4 | 5 => d5 | 6 => d6 | 7 => d7
  | 8 => qD q8 | 9 => qD q9 | 10 => qD q10 | 11 => qD q11 | 12 => qD q12 | 13 => qD q13 | 14 => qD q14 | 15 => qD q15
  | 16 => qD q16 | 17 => qD q17 | 18 => qD q18 | 19 => qD q19 | 20 => qD q20 | 21 => qD q21 | 22 => qD q22
  | _ => fun m _ _ => .ok (m, [])
def numN : List Nat := [1, 2, 2, 2, 2, 4, 2, 3, 2, 2, 1, 1, 0, 0, 2, 0, 0, 2, 0, 0, 0, 0, 0]
def lstN (k : Nat) : Nat := if k = 12 ∨ k = 19 ∨ k = 20 then 1 else if k = 21 then 2 else 0
def actP (st : Option Model) (k : Nat) (ns : List Nat) (ls : List (List Nat)) : Option Model × List Int :=
  if k = 0 then (match ns with
    | [n] => if (decide ((1 : Int) ≤ (n : Nat)) && decide ((n : Int) ≤ 4)) = true then (some (new n), [0]) else (st, [-22])
    | _ => (st, []))
  else match st with
    | none => (none, [-11])
    | some m => resD m (deedN k m ns ls)
def ci (l : List Nat) : List Int := l.map fun n : Nat => (n : Int)
def callI (k : Nat) (ns : List Nat) (ls : List (List Nat)) : List (List Int) := ((k : Int) :: ci ns) :: ls.map ci
theorem ci_nat (l : List Nat) : (ci l).map Int.toNat = l := by
  unfold ci
  rw [List.map_map]
  have : (Int.toNat ∘ fun n : Nat => (n : Int)) = id := by
    funext n
    rfl
  rw [this, List.map_id]
theorem nstep {st : Option Model} {c : List (List Int)} {x : Lrx8.Call} (h : Lrx8Neutral.callOf c = some x) : Lrx8Neutral.step st c = stepL st x := by
  unfold Lrx8Neutral.step
  rw [h]
  rfl
theorem mok_new {n : Nat} (h1 : 1 ≤ n) (h2 : n ≤ 4) : MOk (new n) := by
  unfold new
  refine ⟨by dsimp only; rw [List.length_replicate]; exact h1, by dsimp only; rw [List.length_replicate]; exact h2, fun s hs => ?_, ⟨0, rfl, Sz.zero (by decide)⟩, ⟨1, rfl, Sz.one (by decide)⟩⟩
  rw [(List.mem_replicate.mp hs).2]
  exact ⟨by decide, by decide, by decide, by decide, fun c hc => absurd hc (by simp)⟩
theorem create_law (st : Option Model) (hst : ∀ m, st = some m → MOk m) (n : Nat) : actP st 0 [n] [] = stepL st (.create n) ∧ ∀ m, (actP st 0 [n] []).1 = some m → MOk m := by
  have e : stepL st (.create n) = (let r := (if n = 0 ∨ 4 < n then (st, Lrx8.error (-22)) else (some ⟨List.replicate n ⟨1, 1, []⟩, Lrx1.zero, Lrx1.one⟩, Lrx8.number 0)); (r.1, rL r.2)) := rfl
  have e2 : actP st 0 [n] [] = if (decide ((1 : Int) ≤ (n : Nat)) && decide ((n : Int) ≤ 4)) = true then (some (new n), [0]) else (st, [-22]) := rfl
  rw [e, e2]
  by_cases q : n = 0 ∨ 4 < n
  · rw [if_pos q, if_neg (by simp only [Bool.and_eq_true, decide_eq_true_eq]; omega)]
    exact ⟨rfl, hst⟩
  · rw [if_neg q, if_pos (by simp only [Bool.and_eq_true, decide_eq_true_eq]; omega)]
    refine ⟨rfl, fun m h => ?_⟩
    cases h
    exact mok_new (by omega) (by omega)
/-- a deed's law -/
structure Law (k : Nat) (ns : List Nat) (ls : List (List Nat)) (x : Lrx8.Call) : Prop where
  hk : k ≠ 0
  call : Lrx8Neutral.callOf (callI k ns ls) = some x
  made : ∀ m, MOk m → resD m (deedN k m ns ls) = stepL (some m) x ∧ ∀ z, deedN k m ns ls = .ok z → MOk z.1
  none : stepL none x = (none, [-11])
theorem Law.act {k : Nat} {ns : List Nat} {ls : List (List Nat)} {x : Lrx8.Call} (L : Law k ns ls x) {st : Option Model} (hst : ∀ m, st = some m → MOk m) :
    Lrx8Neutral.step st (callI k ns ls) = actP st k ns ls ∧ ∀ m, (actP st k ns ls).1 = some m → MOk m := by
  rw [nstep L.call]
  unfold actP
  rw [if_neg L.hk]
  cases st with
  | none => exact ⟨L.none, fun m h => by cases h⟩
  | some m =>
    have hm := hst m rfl
    obtain ⟨h1, h2⟩ := L.made m hm
    refine ⟨h1.symm, fun m' h => ?_⟩
    dsimp only at h
    unfold resD at h
    cases e : deedN k m ns ls with
    | error c =>
      rw [e] at h
      cases h
      exact hm
    | ok z =>
      rw [e] at h
      cases h
      exact h2 z e
theorem qLaw {m : Model} (hm : MOk m) (q : Model → List Nat → List (List Nat) → Except Int (List Int)) (ns : List Nat) (ls : List (List Nat)) (x : Lrx8.Call) (r : Lrx8.Result) (hx : Lrx8.step (some m) x = (some m, r)) (h : xL (q m ns ls) = rL r) :
    resD m (qD q m ns ls) = stepL (some m) x ∧ ∀ z, qD q m ns ls = .ok z → MOk z.1 := by
  refine ⟨?_, fun z hz => ?_⟩
  · rw [resD_q, h]
    unfold stepL
    rw [hx]
  · unfold qD at hz
    cases e : q m ns ls with
    | error c =>
      rw [e] at hz
      cases hz
    | ok l =>
      rw [e] at hz
      cases hz
      exact hm
theorem call12 (k : Nat) (h : k = 12 ∨ k = 19 ∨ k = 20) (l : List Nat) : Lrx8Neutral.callOf (callI k [] [l]) = if k = 12 then some (.evaluate l) else if k = 19 then some (.improvement l) else some (.reserve l) := by
  have e := ci_nat l
  rcases h with rfl | rfl | rfl
  · show some (Lrx8.Call.evaluate ((ci l).map Int.toNat)) = some (.evaluate l)
    rw [e]
  · show some (Lrx8.Call.improvement ((ci l).map Int.toNat)) = some (.improvement l)
    rw [e]
  · show some (Lrx8.Call.reserve ((ci l).map Int.toNat)) = some (.reserve l)
    rw [e]
theorem call21 (a b : List Nat) : Lrx8Neutral.callOf (callI 21 [] [a, b]) = some (.comparePlans a b) := by
  show some (Lrx8.Call.comparePlans ((ci a).map Int.toNat) ((ci b).map Int.toNat)) = _
  rw [ci_nat, ci_nat]
theorem act_law {st : Option Model} (hst : ∀ m, st = some m → MOk m) (k : Nat) (hk : k ≤ 22) (ns : List Nat) (ls : List (List Nat)) (h1 : numN[k]? = some ns.length) (h2 : ls.length = lstN k) :
    Lrx8Neutral.step st (callI k ns ls) = actP st k ns ls ∧ ∀ m, (actP st k ns ls).1 = some m → MOk m := by
  match k, hk with
  | 0, _ =>
    obtain ⟨n, rfl⟩ := len1 (Option.some.inj h1).symm
    obtain rfl := len0 h2
    obtain ⟨a, b⟩ := create_law st hst n
    exact ⟨by rw [a]; exact nstep rfl, b⟩
  | 1, _ =>
    obtain ⟨i, a, rfl⟩ := len2 (Option.some.inj h1).symm
    obtain rfl := len0 h2
    exact (show Law 1 [i, a] [] (.setArrival i a) from ⟨by decide, rfl, fun m hm => d1_law hm i a, rfl⟩).act hst
  | 2, _ =>
    obtain ⟨i, a, rfl⟩ := len2 (Option.some.inj h1).symm
    obtain rfl := len0 h2
    exact (show Law 2 [i, a] [] (.setWeight i a) from ⟨by decide, rfl, fun m hm => d2_law hm i a, rfl⟩).act hst
  | 3, _ =>
    obtain ⟨i, a, rfl⟩ := len2 (Option.some.inj h1).symm
    obtain rfl := len0 h2
    exact (show Law 3 [i, a] [] (.setTarget i a) from ⟨by decide, rfl, fun m hm => d3_law hm i a, rfl⟩).act hst
  | 4, _ =>
    obtain ⟨i, a, rfl⟩ := len2 (Option.some.inj h1).symm
    obtain rfl := len0 h2
    exact (show Law 4 [i, a] [] (.setLimit i a) from ⟨by decide, rfl, fun m hm => d4_law hm i a, rfl⟩).act hst
  | 5, _ =>
    obtain ⟨i, a, b, c, rfl⟩ := len4' (Option.some.inj h1).symm
    obtain rfl := len0 h2
    exact (show Law 5 [i, a, b, c] [] (.addOption i a b c) from ⟨by decide, rfl, fun m hm => d5_law hm i a b c, rfl⟩).act hst
  | 6, _ =>
    obtain ⟨i, a, rfl⟩ := len2 (Option.some.inj h1).symm
    obtain rfl := len0 h2
    exact (show Law 6 [i, a] [] (.removeOption i a) from ⟨by decide, rfl, fun m hm => d6_law hm i a, rfl⟩).act hst
  | 7, _ =>
    obtain ⟨i, a, b, rfl⟩ := len3 (Option.some.inj h1).symm
    obtain rfl := len0 h2
    exact (show Law 7 [i, a, b] [] (.setCost i a b) from ⟨by decide, rfl, fun m hm => d7_law hm i a b, rfl⟩).act hst
  | 8, _ =>
    obtain ⟨i, a, rfl⟩ := len2 (Option.some.inj h1).symm
    obtain rfl := len0 h2
    exact (show Law 8 [i, a] [] (.optionInfo i a) from ⟨by decide, rfl, fun m hm => qLaw hm q8 _ _ _ _ rfl (q8_law i a), rfl⟩).act hst
  | 9, _ =>
    obtain ⟨i, a, rfl⟩ := len2 (Option.some.inj h1).symm
    obtain rfl := len0 h2
    exact (show Law 9 [i, a] [] (.optionNumber i a) from ⟨by decide, rfl, fun m hm => qLaw hm q9 _ _ _ _ rfl (q9_law hm i a), rfl⟩).act hst
  | 10, _ =>
    obtain ⟨i, rfl⟩ := len1 (Option.some.inj h1).symm
    obtain rfl := len0 h2
    exact (show Law 10 [i] [] (.allowed i) from ⟨by decide, rfl, fun m hm => qLaw hm q10 _ _ _ _ rfl (q10_law hm i), rfl⟩).act hst
  | 11, _ =>
    obtain ⟨i, rfl⟩ := len1 (Option.some.inj h1).symm
    obtain rfl := len0 h2
    exact (show Law 11 [i] [] (.dominated i) from ⟨by decide, rfl, fun m hm => qLaw hm q11 _ _ _ _ rfl (q11_law hm i), rfl⟩).act hst
  | 12, _ =>
    obtain rfl := len0 (Option.some.inj h1).symm
    obtain ⟨l, rfl⟩ := len1 h2
    exact (show Law 12 [] [l] (.evaluate l) from ⟨by decide, call12 12 (.inl rfl) l, fun m hm => qLaw hm q12 _ _ _ _ rfl (q12_law hm l), rfl⟩).act hst
  | 13, _ =>
    obtain rfl := len0 (Option.some.inj h1).symm
    obtain rfl := len0 h2
    exact (show Law 13 [] [] (.best) from ⟨by decide, rfl, fun m hm => qLaw hm q13 _ _ _ _ rfl (qBest_law hm), rfl⟩).act hst
  | 14, _ =>
    obtain ⟨i, a, rfl⟩ := len2 (Option.some.inj h1).symm
    obtain rfl := len0 h2
    exact (show Law 14 [i, a] [] (.bestFor i a) from ⟨by decide, rfl, fun m hm => qLaw hm q14 _ _ _ _ rfl (q14_law hm i a), rfl⟩).act hst
  | 15, _ =>
    obtain rfl := len0 (Option.some.inj h1).symm
    obtain rfl := len0 h2
    exact (show Law 15 [] [] (.frontier) from ⟨by decide, rfl, fun m hm => qLaw hm q15 _ _ _ _ rfl (q15_law hm), rfl⟩).act hst
  | 16, _ =>
    obtain rfl := len0 (Option.some.inj h1).symm
    obtain rfl := len0 h2
    exact (show Law 16 [] [] (.counts) from ⟨by decide, rfl, fun m hm => qLaw hm q16 _ _ _ _ rfl (by rw [counts_law hm]; rfl), rfl⟩).act hst
  | 17, _ =>
    obtain ⟨i, a, rfl⟩ := len2 (Option.some.inj h1).symm
    obtain rfl := len0 h2
    exact (show Law 17 [i, a] [] (.bound i a) from ⟨by decide, rfl, fun m hm => qLaw hm q17 _ _ _ _ rfl (q17_law hm i a), rfl⟩).act hst
  | 18, _ =>
    obtain rfl := len0 (Option.some.inj h1).symm
    obtain rfl := len0 h2
    exact (show Law 18 [] [] (.bestBound) from ⟨by decide, rfl, fun m hm => qLaw hm q18 _ _ _ _ rfl (bestB_law hm), rfl⟩).act hst
  | 19, _ =>
    obtain rfl := len0 (Option.some.inj h1).symm
    obtain ⟨l, rfl⟩ := len1 h2
    exact (show Law 19 [] [l] (.improvement l) from ⟨by decide, call12 19 (.inr (.inl rfl)) l, fun m hm => qLaw hm q19 _ _ _ _ rfl (q19_law hm l), rfl⟩).act hst
  | 20, _ =>
    obtain rfl := len0 (Option.some.inj h1).symm
    obtain ⟨l, rfl⟩ := len1 h2
    exact (show Law 20 [] [l] (.reserve l) from ⟨by decide, call12 20 (.inr (.inr rfl)) l, fun m hm => qLaw hm q20 _ _ _ _ rfl (q20_law hm l), rfl⟩).act hst
  | 21, _ =>
    obtain rfl := len0 (Option.some.inj h1).symm
    obtain ⟨a, b, rfl⟩ := len2 h2
    exact (show Law 21 [] [a, b] (.comparePlans a b) from ⟨by decide, call21 a b, fun m hm => qLaw hm q21 _ _ _ _ rfl (q21_law hm a b), rfl⟩).act hst
  | 22, _ =>
    obtain rfl := len0 (Option.some.inj h1).symm
    obtain rfl := len0 h2
    exact (show Law 22 [] [] (.summary) from ⟨by decide, rfl, fun m hm => qLaw hm q22 _ _ _ _ rfl (q22_law hm), rfl⟩).act hst
  | k + 23, hk => omega
end Lw

/-! ## To1 -/
set_option Elab.async false
set_option linter.all false
set_option maxRecDepth 100000
set_option maxHeartbeats 2000000
set_option autoImplicit false
/-! The list of calls as numbers; lists_from. -/
namespace Pd
open PySem PySem.Spec PyProof.Rows L2 Mt
open Lw (ci actP numN lstN deedN)
/-- one call: its number, its numbers, its lists -/
structure C3 where
  k : Nat
  ns : List Nat
  ls : List (List Nat)
def rowI (l : List Nat) : List Int := (l.length : Int) :: ci l
def rowsI (ls : List (List Nat)) : List Int := ls.flatMap rowI
def enc1 (c : C3) : List Int := (c.k : Int) :: (ci c.ns ++ rowsI c.ls)
def flat (cs : List C3) : List Int := cs.flatMap enc1
structure Good (c : C3) : Prop where
  k : c.k ≤ 22
  n : numN[c.k]? = some c.ns.length
  l : c.ls.length = lstN c.k
  s : ∀ l ∈ c.ls, l.length ≤ 6
theorem ci_len (l : List Nat) : (ci l).length = l.length := by
  unfold ci
  rw [List.length_map]
theorem ci_D (l : List Nat) : (ci l).map D.int = l.map fun n : Nat => D.int (n : Nat) := by
  unfold ci
  rw [List.map_map]
  rfl
/-- the cut out of the middle -/
theorem cut_mid (xs ys zs : List D) : cutD (xs ++ (ys ++ zs)) (some ((xs.length : Nat) : Int)) (some (((xs.length + ys.length : Nat)) : Int)) = ys := by
  unfold cutD
  rw [show HT.sIx (xs ++ (ys ++ zs)).length 0 (some ((xs.length : Nat) : Int)) = min xs.length (xs ++ (ys ++ zs)).length from HT.sIx_nat _ 0 xs.length,
    show HT.sIx (xs ++ (ys ++ zs)).length (xs ++ (ys ++ zs)).length (some (((xs.length + ys.length : Nat)) : Int)) = min (xs.length + ys.length) (xs ++ (ys ++ zs)).length from HT.sIx_nat _ _ (xs.length + ys.length)]
  have h1 : min xs.length (xs ++ (ys ++ zs)).length = xs.length := by
    rw [List.length_append]
    omega
  have h2 : min (xs.length + ys.length) (xs ++ (ys ++ zs)).length = xs.length + ys.length := by
    rw [List.length_append, List.length_append]
    omega
  rw [h1, h2, List.drop_left, Nat.add_sub_cancel_left, List.take_left]
theorem at_mid (xs zs : List D) (y : D) : atI (xs ++ y :: zs) ((xs.length : Nat) : Int) = some y := by
  refine atI_nat' ?_
  rw [List.getElem?_append_right (Nat.le_refl _), Nat.sub_self]
  rfl
section
variable {K : PySem.W.Frag} {mg : Str → Option Value} {A : Ad} {P : Program} {w : World} {base : Heap}
def R_lists (ds : List D) (r : Except Int D) : Prop := ∃ (pre rest : List Int) (ls : List (List Nat)), ds = [.sq ((pre ++ (rowsI ls ++ rest)).map D.int), .int (pre.length : Nat), .int (ls.length : Nat)] ∧ ls.length ≤ 1000 ∧
  r = .ok (.tup [.lst (ls.map encNs), .int ((pre.length + (rowsI ls).length : Nat) : Int)])
theorem rows_split (ls : List (List Nat)) {i : Nat} {l : List Nat} (h : ls[i]? = some l) : rowsI ls = rowsI (ls.take i) ++ (rowI l ++ rowsI (ls.drop (i + 1))) := by
  have e := split_at h
  unfold rowsI
  conv => lhs; rw [e]
  rw [List.flatMap_append, List.flatMap_cons]
theorem rows_more (ls : List (List Nat)) {i : Nat} {l : List Nat} (h : ls[i]? = some l) : rowsI (ls.take (i + 1)) = rowsI (ls.take i) ++ rowI l := by
  unfold rowsI
  rw [take_more' h, List.flatMap_append, List.flatMap_singleton]
theorem pu_lists_from (vs : List V) (H : Hp) (Q : VK) (E : XK) (hsp : spP K A.c A.ce R_lists vs H Q E) :
    t_lists_from K A { nx := fun _ H' => Q .non H', rt := Q } (L2.start ["calls", "at", "many", "found", "turn"] vs) H :=
  pure_of (k := 2) (by
    rintro ds r ⟨pre, rest, ls, rfl, hl, rfl⟩
    refine ⟨rfl, _, fit_outOf _, ?_⟩
    refine SD.out (r := .ok (.tup [.lst ((ls.take (List.range ls.length).length).map encNs), .int ((pre.length + (rowsI (ls.take (List.range ls.length).length)).length : Nat) : Int)])) ?_ (by rw [List.length_range, List.take_length])
    refine sd_seq (sd_setO (el_lst ad_nil (Nat.le_of_ble_eq_true rfl))) ?_
    refine sd_seq (sd_forP (ts := [4]) (fun i : Nat => D.int (i : Nat)) (List.range ls.length)
      (fun p => [.dat (.sq ((pre ++ (rowsI ls ++ rest)).map D.int)), .dat (.int ((pre.length + (rowsI (ls.take p.length)).length : Nat) : Int)), .dat (.int (ls.length : Nat)), .own ((ls.take p.length).map encNs), .any])
      (wd_range (n := (ls.length : Nat)) (ed_var rfl) ⟨by omega, by omega⟩) (.same (.same (.same (.same (.any .nil))))) ?_) (sd_freeze 3 rfl (sd_ret (ed_tup (ad_cons (ed_var rfl) (ad_cons (ed_var rfl) ad_nil)) (Nat.le_of_ble_eq_true rfl))))
    · rintro p a ⟨post, e⟩
      have hlen : p.length < ls.length := by
        have h := congrArg List.length e
        rw [List.length_range, List.length_append, List.length_cons] at h
        omega
      have hget := List.getElem?_eq_getElem hlen
      generalize ls[p.length] = l at hget
      refine ⟨_, gd_name, ?_⟩
      have e1 := rows_split ls hget
      have e2 := rows_more ls hget
      have eall : (pre ++ (rowsI ls ++ rest)).map D.int = (pre ++ rowsI (ls.take p.length)).map D.int ++ (D.int (l.length : Nat) :: ((ci l).map D.int ++ (rowsI (ls.drop (p.length + 1)) ++ rest).map D.int)) := by
        rw [e1]
        unfold rowI
        simp only [List.map_append, List.map_cons, List.append_assoc, List.cons_append]
      have hat : pre.length + (rowsI (ls.take p.length)).length = ((pre ++ rowsI (ls.take p.length)).map D.int).length := by
        rw [List.length_map, List.length_append]
      have hci : l.length = ((ci l).map D.int).length := by
        rw [List.length_map, ci_len]
      have more : pre.length + (rowsI (ls.take (p.length + 1))).length = pre.length + (rowsI (ls.take p.length)).length + (1 + l.length) := by
        rw [e2, List.length_append]
        unfold rowI
        rw [List.length_cons, ci_len]
        omega
      have eAt : ∀ x y : Sd, ED K A.c (tOp (rIx K) (tVar 0) (tVar 1)) [.dat (.sq ((pre ++ (rowsI ls ++ rest)).map D.int)), .dat (.int ((pre.length + (rowsI (ls.take p.length)).length : Nat) : Int)), .dat (.int (ls.length : Nat)), x, y] (.int (l.length : Nat)) := fun x y =>
        ed_op (ed_var rfl) (ed_var rfl) (rd_ix_sq (by rw [eall, hat]; exact at_mid _ _ _))
      refine sd_seq (sd_append (d := encNs l) rfl ((el_slSq (ed_var rfl) (od_some (i := ((pre.length + (rowsI (ls.take p.length)).length + 1 : Nat) : Int)) (ed_op (ed_var rfl) ed_int rd_addA)) (od_some (i := ((pre.length + (rowsI (ls.take p.length)).length + 1 + l.length : Nat) : Int)) ((ed_op (ed_op (ed_var rfl) ed_int rd_addA) (eAt _ _) rd_addA).is (by push_cast; rfl)))).is ?_).ed (by rw [List.length_map, List.length_take]; omega)) ?_
      · rw [← ci_D, eall, hat]
        have e3 : (pre ++ rowsI (ls.take p.length)).map D.int ++ (D.int (l.length : Nat) :: ((ci l).map D.int ++ (rowsI (ls.drop (p.length + 1)) ++ rest).map D.int)) = ((pre ++ rowsI (ls.take p.length)).map D.int ++ [D.int (l.length : Nat)]) ++ ((ci l).map D.int ++ (rowsI (ls.drop (p.length + 1)) ++ rest).map D.int) := by
          rw [List.append_assoc]
          rfl
        have e4 : ((pre ++ rowsI (ls.take p.length)).map D.int).length + 1 = ((pre ++ rowsI (ls.take p.length)).map D.int ++ [D.int (l.length : Nat)]).length := by
          rw [List.length_append]
          rfl
        have k := cut_mid ((pre ++ rowsI (ls.take p.length)).map D.int ++ [D.int (l.length : Nat)]) ((ci l).map D.int) ((rowsI (ls.drop (p.length + 1)) ++ rest).map D.int)
        rw [e3, e4]
        rw [← hci] at k
        exact k
      · show SD K A.c A.ce _ E _ (.nx [.dat (.sq ((pre ++ (rowsI ls ++ rest)).map D.int)), .dat (.int ((pre.length + (rowsI (ls.take (p ++ [a]).length)).length : Nat) : Int)), .dat (.int (ls.length : Nat)), .own ((ls.take (p ++ [a]).length).map encNs), .any])
        have em : (ls.take (p.length + 1)).map encNs = (ls.take p.length).map encNs ++ [encNs l] := by
          rw [take_more' hget, List.map_append]
          rfl
        have ep : (p ++ [a]).length = p.length + 1 := by rw [List.length_append, List.length_singleton]
        rw [ep, more, em]
        have fin := sd_aug (K := K) (C := A.c) (CE := A.ce) (E := E) (δ := [.dat (.sq ((pre ++ (rowsI ls ++ rest)).map D.int)), .dat (.int ((pre.length + (rowsI (ls.take p.length)).length : Nat) : Int)), .dat (.int (ls.length : Nat)), .own ((ls.take p.length).map encNs ++ [encNs l]), .dat (.int (a : Nat))]) (i := 1)
          (a := ((pre.length + (rowsI (ls.take p.length)).length : Nat) : Int)) (b := 1 + (l.length : Nat)) (f := fun i j => i + j) rfl (ed_op ed_int (eAt _ _) rd_addA)
        exact fin.weak (.same (.same (.same (.same (.any .nil)))))
    ) hsp
theorem pr_lists_from (T : Txt K mg A) : Cal0 P w K mg base 1 "lists_from" (spP K A.c A.ce R_lists) := cal_lists_from T (spP_len (by rintro ds r ⟨a, b, c, rfl, _⟩; rfl)) pu_lists_from
end
end Pd

/-! ## To2 -/
set_option Elab.async false
set_option linter.all false
set_option maxRecDepth 100000
set_option maxHeartbeats 2000000
set_option autoImplicit false
/-! answered, answer. -/
namespace Pd
open PySem PySem.Spec PyProof.Rows L2 Mt
open Lw (ci actP numN lstN deedN)
def dName : Nat → Str
  | 1 => "set_arrival" | 2 => "set_weight" | 3 => "set_target" | 4 => "set_limit" | 5 => "add_option" | 6 => "remove_option" | 7 => "set_cost"
  | 8 => "option_info" | 9 => "option_number" | 10 => "ask_allowed" | 11 => "ask_dominated" | 12 => "evaluate" | 13 => "ask_best" | 14 => "best_for" | 15 => "ask_frontier"
  | 16 => "ask_counts" | 17 => "ask_bound" | 18 => "ask_best_bound" | 19 => "improvement" | 20 => "reserve" | 21 => "compare_plans" | _ => "summary"
def numA (k : Nat) : Nat := numN.getD k 0
structure Tops (K : PySem.W.Frag) (mg : Str → Option Value) (A : Ad) : Prop extends Txt K mg A where
  deeds : ∀ k : Nat, 1 ≤ k → k ≤ 22 → ∃ f, mg (dName k) = some (.ref f) ∧ IDct K A.deeds (k : Nat) (some (.ref f))
  lists : ∀ k : Nat, k ≤ 22 → ∃ r, IDct K A.lists (k : Nat) r ∧ ∀ u, RelV (.int 0) u → RelV (.int (lstN k : Nat)) (r.getD u)
theorem CalX.up {P : Program} {w : World} {K : PySem.W.Frag} {mg : Str → Option Value} {base : Heap} {j k : Nat} {x : Str} {sp : Sp} (c : CalX P w K mg base j x sp) (h : j ≤ k) : CalX P w K mg base k x sp := by
  obtain ⟨f, fd, ps, F, r⟩ := c.ex
  exact ⟨f, fd, ps, F.mono h, r⟩
section
variable {K : PySem.W.Frag} {mg : Str → Option Value} {A : Ad} {P : Program} {w : World} {base : Heap}
theorem cal_deed (T : Txt K mg A) (M : MakX P w K mg base 1 "Option" (A.c 0) (sp_Option K A.c)) (k : Nat) (h1 : 1 ≤ k) (h2 : k ≤ 22) : CalX P w K mg base 9 (dName k) (spD K A.c A.ce (deedN k) (numA k) (lstN k)) := by
  match k, h1, h2 with
  | 1, _, _ => exact (pr_set_arrival T).up (by decide)
  | 2, _, _ => exact (pr_set_weight T).up (by decide)
  | 3, _, _ => exact (pr_set_target T).up (by decide)
  | 4, _, _ => exact (pr_set_limit T).up (by decide)
  | 5, _, _ => exact (pr_add_option T M).up (by decide)
  | 6, _, _ => exact (pr_remove_option T).up (by decide)
  | 7, _, _ => exact (pr_set_cost T).up (by decide)
  | 8, _, _ => exact ((pr_option_info T).imp spD_q).up (by decide)
  | 9, _, _ => exact ((pr_option_number T).imp spD_q).up (by decide)
  | 10, _, _ => exact ((pr_ask_allowed T).imp spD_q).up (by decide)
  | 11, _, _ => exact ((pr_ask_dominated T).imp spD_q).up (by decide)
  | 12, _, _ => exact ((pr_evaluate T).imp spD_q).up (by decide)
  | 13, _, _ => exact ((pr_ask_best T).imp spD_q).up (by decide)
  | 14, _, _ => exact ((pr_best_for T).imp spD_q).up (by decide)
  | 15, _, _ => exact ((pr_ask_frontier T).x.imp spD_q).up (by decide)
  | 16, _, _ => exact ((pr_ask_counts T).x.imp spD_q).up (by decide)
  | 17, _, _ => exact ((pr_ask_bound T).imp spD_q).up (by decide)
  | 18, _, _ => exact ((pr_ask_best_bound T).imp spD_q).up (by decide)
  | 19, _, _ => exact ((pr_improvement T).imp spD_q).up (by decide)
  | 20, _, _ => exact ((pr_reserve T).imp spD_q).up (by decide)
  | 21, _, _ => exact ((pr_compare_plans T).imp spD_q).up (by decide)
  | 22, _, _ => exact ((pr_summary T).x.imp spD_q).up (by decide)
  | k + 23, _, h => exact absurd h (by omega)
/-! ### the planner -/
structure Pl (K : PySem.W.Frag) (A : Ad) (H : Hp) (pa : Addr) (ft : Addr → Prop) (st : Option Lrx8.Model) : Prop where
  ob : ∃ dx x, H pa = some (.ins A.pl dx [("model", x)]) ∧ match st with
    | none => x = .non
    | some m => ∃ ma, x = .ref ma ∧ Tr K A.c H ma ft m
  nf : ¬ ft pa
theorem Pl.ex {H H' : Hp} {pa : Addr} {ft : Addr → Prop} {st : Option Lrx8.Model} (p : Pl K A H pa ft st) (e : Ex H H') : Pl K A H' pa ft st := by
  obtain ⟨⟨dx, x, h1, h2⟩, nf⟩ := p
  refine ⟨⟨dx, x, e _ _ h1, ?_⟩, nf⟩
  cases st with
  | none => exact h2
  | some m =>
    obtain ⟨ma, h3, t⟩ := h2
    exact ⟨ma, h3, t.ex e⟩
/-- what a call may touch -/
structure Fra (H H' : Hp) (pa : Addr) (ft ft' : Addr → Prop) : Prop where
  keep : ∀ a o, H a = some o → ¬ ft a → a ≠ pa → H' a = some o
  new : ∀ a, ft' a → ft a ∨ H a = none
def actE (st : Option Lrx8.Model) (k : Nat) (ns : List Nat) (ls : List (List Nat)) : Except Int (Option Lrx8.Model × List Int) :=
  if k = 0 then (match ns with
    | [n] => if (decide ((1 : Int) ≤ (n : Nat)) && decide ((n : Int) ≤ 4)) = true then .ok (some (new n), [0]) else .error (-22)
    | _ => .ok (st, []))
  else match st with
    | none => .error (-11)
    | some m => (deedN k m ns ls).map fun r => (some r.1, r.2)
theorem actP_eq (st : Option Lrx8.Model) (k : Nat) (ns : List Nat) (ls : List (List Nat)) : actP st k ns ls = match actE st k ns ls with
    | .ok r => r
    | .error c => (st, [c]) := by
  unfold actP actE
  by_cases h : k = 0
  · rw [if_pos h, if_pos h]
    match ns with
    | [] => rfl
    | [n] =>
      dsimp only
      split <;> rfl
    | _ :: _ :: _ => rfl
  · rw [if_neg h, if_neg h]
    cases st with
    | none => rfl
    | some m =>
      dsimp only
      unfold Lw.resD
      cases deedN k m ns ls <;> rfl
/-- what is handed to answered and answer -/
structure Ask (K : PySem.W.Frag) (A : Ad) (H : Hp) (vs : List V) (pa : Addr) (ft : Addr → Prop) (st : Option Lrx8.Model) (k : Nat) (ns : List Nat) (ls : List (List Nat)) : Prop where
  vs : ∃ gv, vs = [.ref pa, .int (k : Nat), gv] ∧ Is K A.c H gv (given ns ls)
  pl : Pl K A H pa ft st
  ok : ∀ m, st = some m → MOk m
  hk : k ≤ 22
  hn : numN[k]? = some ns.length
  hl : ls.length = lstN k
  hs : ∀ l ∈ ls, l.length ≤ 6
def sp_answered (K : PySem.W.Frag) (A : Ad) : Sp := fun vs H Q E => ∃ pa ft st k ns ls, Ask K A H vs pa ft st k ns ls ∧
  match actE st k ns ls with
  | .ok r => ∀ v H' ft', Pl K A H' pa ft' r.1 → Fra H H' pa ft ft' → H' v = some (.lst (r.2.map .int)) → Q (.ref v) H'
  | .error c => Err A.ce E H c
theorem sp_answered_len (vs : List V) (H : Hp) (Q : VK) (E : XK) (h : sp_answered K A vs H Q E) : vs.length = 3 := by
  obtain ⟨pa, ft, st, k, ns, ls, a, _⟩ := h
  obtain ⟨gv, rfl, _⟩ := a.vs
  rfl
/-- the deeds by their places -/
def DS (K : PySem.W.Frag) (mg : Str → Option Value) (A : Ad) (f : Addr) (sp : Sp) : Prop := ∃ k, 1 ≤ k ∧ k ≤ 22 ∧ mg (dName k) = some (.ref f) ∧ sp = spD K A.c A.ce (deedN k) (numA k) (lstN k)
def t_answered (K : PySem.W.Frag) (mg : Str → Option Value) (A : Ad) (E : XK) : TS :=
  tSeq (tIfS (tTest (tOp (rEqA K) (tVar 1) (tC (.int 0)))) (tSeq (sFld K (tVar 0) (tCall (sp_create K A.c A.ce) [] E (tCons (tVar 2) tNil)) "model") (tRet (tLst (tCons (tC (.int 0)) tNil)))) tNext)
    (tSeq (tIfS (tTest (tOp rIsN1 (tFld K (tVar 0) "model") (tC .non))) (L2.tRaiseRef A.ce (fun cls d _ H => E cls d H) (tCons (tC (.int (-11))) tNil)) tNext)
      (tSeq (tAsg (tOp (rIxI K) (tC (.ref A.deeds)) (tVar 1)) (gName 3)) (tRet (tCallB 3 (DS K mg A) E (tCons (tFld K (tVar 0) "model") (tCons (tVar 2) tNil))))))
theorem tr_not_pl {H : Hp} {pa ma : Addr} {ft : Addr → Prop} {m : Lrx8.Model} {o : HO} (t : Tr K A.c H ma ft m) (nf : ¬ ft pa) {H' : Hp} (k : ∀ a u, H a = some u → a ≠ pa → H' a = some u) (hp : H pa = some o) (hw : Wr o) : Tr K A.c H' ma ft m :=
  t.keep fun a u e w => k a u e fun z => by
    subst z
    rw [hp] at e
    cases e
    rcases w with w | w
    · exact nf w
    · exact w hw
theorem pu_answered (T : Tops K mg A) (vs : List V) (H : Hp) (Q : VK) (E : XK) (h : sp_answered K A vs H Q E) :
    t_answered K mg A E { nx := fun _ H' => Q .non H', rt := Q } (L2.start ["planner", "call", "given", "deed"] vs) H := by
  obtain ⟨pa, ft, st, k, ns, ls, a, hq⟩ := h
  obtain ⟨gv, rfl, hg⟩ := a.vs
  obtain ⟨⟨dx, x, hp, hst⟩, nf⟩ := a.pl
  have test : ∀ Q : Bool → Hp → Prop, (Q (decide ((k : Int) = 0)) H) → tTest (tOp (rEqA K) (tVar 1) (tC (.int 0))) (L2.start ["planner", "call", "given", "deed"] [.ref pa, .int (k : Nat), gv]) H Q := fun Q q =>
    ⟨_, rfl, .inl ⟨rfl, _, rfl, by
      have e : decide (V.int (k : Nat) = V.int 0) = decide ((k : Int) = 0) := decide_eq_decide.mpr ⟨fun z => by injection z, fun z => by rw [z]⟩
      rw [e]
      exact q⟩⟩
  refine test _ ?_
  by_cases h0 : k = 0
  · subst h0
    refine iteT ?_
    obtain ⟨n, rfl⟩ := len1 (Option.some.inj a.hn).symm
    obtain rfl := len0 a.hl
    refine ⟨gv, rfl, gv, n, rfl, hg, ?_⟩
    have e0 : actE st 0 [n] [] = if (decide ((1 : Int) ≤ (n : Nat)) && decide ((n : Int) ≤ 4)) = true then .ok (some (new n), [0]) else .error (-22) := rfl
    rw [e0] at hq
    by_cases q : (decide ((1 : Int) ≤ (n : Nat)) && decide ((n : Int) ≤ 4)) = true
    · rw [if_pos q] at hq ⊢
      intro ma H' ft' t ex hft
      have hp' := ex _ _ hp
      refine ⟨_, rfl, pa, A.pl, dx, _, rfl, hp', T.clsP, T.a_model, Nat.le_of_ble_eq_true rfl, ?_⟩
      refine ⟨Nat.le_of_ble_eq_true rfl, fun r hr => ?_⟩
      have nf' : ¬ ft' pa := fun z => by
        have := hft pa z
        rw [hp] at this
        cases this
      have keep : ∀ b u, H' b = some u → b ≠ pa → upd (upd H' pa (.ins A.pl dx (putF "model" (.ref ma) [("model", x)]))) r (.lst [.int 0]) b = some u := fun b u e n => by
        refine Ex.new hr _ _ ?_
        rw [upd_ne n]
        exact e
      refine hq r _ ft' ⟨⟨dx, .ref ma, ?_, ma, rfl, tr_not_pl t nf' keep hp' (.inl ⟨_, _, _, rfl⟩)⟩, nf'⟩ ⟨fun b u e _ n => keep b u (ex _ _ e) n, fun b hb => .inr (hft b hb)⟩ upd_same
      exact Ex.new hr _ _ upd_same
    · rw [if_neg q] at hq ⊢
      exact hq
  · have hi : decide ((k : Int) = 0) = false := decide_eq_false (by omega)
    rw [hi]
    refine iteF ?_
    unfold actE at hq
    rw [if_neg h0] at hq
    show tSeq _ _ _ _ _
    refine ⟨.ref pa, rfl, pa, A.pl, dx, _, x, rfl, hp, T.clsP, T.a_model, rfl, rfl, _, rfl, ?_⟩
    cases st with
    | none =>
      obtain rfl := hst
      refine iteT ?_
      exact ⟨_, rfl, fun dd hd => hq dd _ (Ex.new hd) upd_same⟩
    | some m =>
      obtain ⟨ma, rfl, t⟩ := hst
      refine iteF ?_
      obtain ⟨f, hf, hd⟩ := T.deeds k (by omega) a.hk
      show tSeq _ _ _ _ _
      refine ⟨_, rfl, A.deeds, k, _, .ref f, rfl, rfl, hd, rfl, ?_⟩
      refine ⟨f, _, rfl, ⟨k, by omega, a.hk, hf, rfl⟩, ?_⟩
      refine ⟨.ref pa, rfl, pa, A.pl, dx, _, .ref ma, rfl, hp, T.clsP, T.a_model, rfl, gv, rfl, ?_⟩
      have hn : ns.length = numA k := by
        unfold numA
        rw [List.getD_eq_getElem?_getD, a.hn]
        rfl
      refine ⟨ma, gv, ft, m, ns, ls, rfl, t, a.ok m rfl, hg, hn, a.hl, fun l hl => Nat.le_trans (a.hs l hl) (by decide), ?_⟩
      dsimp only at hq
      cases e : deedN k m ns ls with
      | error c =>
        rw [e] at hq
        exact hq
      | ok r =>
        rw [e] at hq
        intro v H' ft' t' fr1 fr2 hv
        have nf' : ¬ ft' pa := fun z => by
          rcases fr2 pa z with y | y
          · exact nf y
          · rw [hp] at y
            cases y
        exact hq v H' ft' ⟨⟨dx, _, fr1 _ _ hp nf, ma, rfl, t'⟩, nf'⟩ ⟨fun b u eb hb _ => fr1 b u eb hb, fr2⟩ hv
theorem pr_answered (T : Tops K mg A) (MO : MakX P w K mg base 1 "Option" (A.c 0) (sp_Option K A.c)) (MM : MakX P w K mg base 3 "Model" (A.c 2) (sp_Model K A.c)) : CalX P w K mg base 10 "answered" (sp_answered K A) := by
  obtain ⟨f, fd, F, g⟩ := T.f_answered
  have nd := sc_answered.nd
  refine ⟨f, fd, ["planner", "call", "given"], ?_, g, F.kp, F.binds fun _ _ _ _ _ _ us hl => match us, hl with | [_, _, _], _ => rfl⟩
  refine F.okX sc_answered sp_answered_len fun cdv A' outer s H vs Q E hr h => ⟨t_answered K mg A E, ?_, pu_answered T vs H Q E h⟩
  have hx : Passes (L2.CX P w) (cxOf (L2.CX P w) P w K mg base ["planner", "call", "given", "deed"] "answered" (defScope s_answered) f cdv A' outer s H E) E := passes_call (takes_of rfl rfl rfl rfl) fun _ _ _ _ h => h
  have hS : ∀ f sp, DS K mg A f sp → HeldX P w K mg base 9 f sp := fun f sp ⟨k, h1, h2, e, es⟩ => by
    rw [es]
    exact (cal_deed T.toTxt MO k h1 h2).held (Nat.le_refl _) e
  have c_create := pr_create (P := P) (w := w) (base := base) T.toTxt MM
  exact pss_cons (ps_if (pt_cmpR (op_eqA hr.units) (pv 1) pe_int (by first | exact nomark _ | rfl))
        (pss_cons (ps_fld (pv 0) (pe_cx c_create hr (by decide) rfl hx (by exact (pa_cons (pv 2) pa_nil))) rfl) (pss_one (ps_ret (pe_lst (pa_cons pe_int pa_nil))))) pss_nil)
      (pss_cons (ps_if (pt_cmpR op_isN (pe_fld (pv 0) rfl) pe_non (by first | exact nomark _ | rfl)) (pss_one (ps_raiseRef rfl T.ref hr (takes_of rfl rfl rfl rfl) (by exact (pa_cons (pe_gc2 rfl T.g_NOT_MADE) pa_nil)))) pss_nil)
      (pss_cons (ps_set (i := 3) nd rfl (by first | exact Or.inl rfl | exact Or.inr rfl) (pe_ix ix_idict (pe_gc2 rfl T.g_DEEDS) (pv 1) (fun _ _ => rfl)))
      (pss_one (ps_ret (pe_callB (i := 3) hS hr rfl (by first | exact Or.inl rfl | exact Or.inr (Or.inl rfl) | exact Or.inr (Or.inr rfl)) hx (by exact (pa_cons (pe_fld (pv 0) rfl) (pa_cons (pv 2) pa_nil))))))))
/-! ### answer -/
def sp_answer (K : PySem.W.Frag) (A : Ad) : Sp := fun vs H Q E => ∃ pa ft st k ns ls, Ask K A H vs pa ft st k ns ls ∧
  ∀ v H' ft', Pl K A H' pa ft' (actP st k ns ls).1 → Fra H H' pa ft ft' → H' v = some (.lst ((actP st k ns ls).2.map .int)) → Q (.ref v) H'
theorem sp_answer_len (vs : List V) (H : Hp) (Q : VK) (E : XK) (h : sp_answer K A vs H Q E) : vs.length = 3 := by
  obtain ⟨pa, ft, st, k, ns, ls, a, _⟩ := h
  obtain ⟨gv, rfl, _⟩ := a.vs
  rfl
def t_refused (A : Ad) : Addr → Value → Option Addr → TS := fun a cls d => tRet (tLst (tCons (L2.tCodeRef A.ce a cls d (tVar 3)) tNil))
def t_answer (K : PySem.W.Frag) (A : Ad) : TS := fun D σ H =>
  tRet (tCallS (sp_answered K A) (WE (wAs K (.ref A.ce) 3 (t_refused A) (fun _ _ _ _ => False) D)) (tCons (tVar 0) (tCons (tVar 1) (tCons (tVar 2) tNil)))) D σ H
theorem pu_answer (T : Tops K mg A) (vs : List V) (H : Hp) (Q : VK) (E : XK) (h : sp_answer K A vs H Q E) :
    t_answer K A { nx := fun _ H' => Q .non H', rt := Q } (L2.start ["planner", "call", "given", "refusal"] vs) H := by
  obtain ⟨pa, ft, st, k, ns, ls, a, hq⟩ := h
  obtain ⟨gv, hvs, hg⟩ := a.vs
  subst hvs
  refine ⟨_, rfl, _, rfl, _, rfl, pa, ft, st, k, ns, ls, a, ?_⟩
  rw [actP_eq] at hq
  cases e : actE st k ns ls with
  | ok r =>
    rw [e] at hq
    exact hq
  | error c =>
    rw [e] at hq
    intro x H' ex hx
    refine ⟨true, T.ref.te, fun _ b hb => ?_, fun q => Bool.noConfusion q⟩
    refine ⟨_, rfl, rfl, rfl, x, _, rfl, hx, Nat.le_of_ble_eq_true rfl, fun p hp => ?_⟩
    have ex2 := ex.trans (Ex.new (o := .lst [.int c]) hp)
    exact hq p _ ft (a.pl.ex ex2) ⟨fun b u eb _ _ => ex2 _ _ eb, fun b hb => .inl hb⟩ upd_same
theorem pr_answer (T : Tops K mg A) (c : CalX P w K mg base 10 "answered" (sp_answered K A)) : Cal0 P w K mg base 11 "answer" (sp_answer K A) := by
  obtain ⟨f, fd, F, g⟩ := T.f_answer
  obtain ⟨f2, fd2, ps2, F2, g2, kp2, b2⟩ := c.ex
  have nd := sc_answer.nd
  refine ⟨f, fd, ["planner", "call", "given"], ?_, g, F.kp, F.binds fun _ _ _ _ _ _ us hl => match us, hl with | [_, _, _], _ => rfl⟩
  refine F.ok sc_answer sp_answer_len fun cdv A' outer s H vs Q E hr h => ⟨t_answer K A, ?_, pu_answer T vs H Q E h⟩
  exact pss_one (ps_try_as (i := 3) (tb := fun W => tRet (tCallS (sp_answered K A) (WE W) (tCons (tVar 0) (tCons (tVar 1) (tCons (tVar 2) tNil))))) (ts := t_refused A) (Wout := fun _ _ _ _ => False) rfl rfl nd rfl rfl ⟨rfl, by decide, Or.inl T.ref.gC⟩ takes0
      (fun W pn xe tk _ => pss_one (ps_ret (by exact (pe_callS F2 hr rfl g2 kp2 b2 (fun σ => passAt tk σ) (by exact (pa_cons (pv 0) (pa_cons (pv 1) (pa_cons (pv 2) pa_nil))))))))
      (fun a oe cls d pn hz hf => pss_one (ps_ret (pe_lst (pa_cons (by exact (pe_codeRef T.ref hz hf (pv 3))) pa_nil)))))
end
end Pd

/-! ## To3 -/
set_option Elab.async false
set_option linter.all false
set_option maxRecDepth 100000
set_option maxHeartbeats 2000000
set_option autoImplicit false
/-! answers. -/
namespace Pd
open PySem PySem.Spec PyProof.Rows L2 Mt
open Lw (ci actP numN lstN deedN)
/-! ### the run -/
def runS : Option Lrx8.Model → List C3 → Option Lrx8.Model
  | st, [] => st
  | st, c :: r => runS (actP st c.k c.ns c.ls).1 r
def toldS : Option Lrx8.Model → List C3 → List (List Int)
  | _, [] => []
  | st, c :: r => (actP st c.k c.ns c.ls).2 :: toldS (actP st c.k c.ns c.ls).1 r
def foundI (cs : List C3) : List Int := PyFlat.told (toldS none cs)
theorem runS_app : ∀ (a b : List C3) (st : Option Lrx8.Model), runS st (a ++ b) = runS (runS st a) b
  | [], b, st => rfl
  | c :: a, b, st => runS_app a b _
theorem toldS_app : ∀ (a b : List C3) (st : Option Lrx8.Model), toldS st (a ++ b) = toldS st a ++ toldS (runS st a) b
  | [], b, st => rfl
  | c :: a, b, st => congrArg (List.cons _) (toldS_app a b _)
theorem told_app (a b : List (List Int)) : PyFlat.told (a ++ b) = PyFlat.told a ++ PyFlat.told b := List.flatMap_append
theorem found_app (a b : List C3) : foundI (a ++ b) = foundI a ++ PyFlat.told (toldS (runS none a) b) := by
  unfold foundI
  rw [toldS_app, told_app]
theorem found_one (a : List C3) (c : C3) : foundI (a ++ [c]) = foundI a ++ (((actP (runS none a) c.k c.ns c.ls).2.length : Int) :: (actP (runS none a) c.k c.ns c.ls).2) := by
  rw [found_app]
  show _ ++ PyFlat.told [_] = _
  unfold PyFlat.told
  rw [List.flatMap_singleton]
theorem run_ok : ∀ (cs : List C3) (st : Option Lrx8.Model), (∀ c ∈ cs, Good c) → (∀ m, st = some m → MOk m) → ∀ m, runS st cs = some m → MOk m
  | [], st, _, hst => hst
  | c :: r, st, hc, hst => run_ok r _ (fun d hd => hc d (by simp [hd])) (Lw.act_law hst c.k (hc c (by simp)).k c.ns c.ls (hc c (by simp)).n (hc c (by simp)).l).2
theorem flat_app (a b : List C3) : flat (a ++ b) = flat a ++ flat b := List.flatMap_append
theorem flat_one (a : List C3) (c : C3) : flat (a ++ [c]) = flat a ++ enc1 c := by
  rw [flat_app]
  show _ ++ List.flatMap _ [_] = _
  rw [List.flatMap_singleton]
theorem enc1_pos (c : C3) : 0 < (enc1 c).length := by
  unfold enc1
  rw [List.length_cons]
  omega
section
variable {K : PySem.W.Frag} {mg : Str → Option Value} {A : Ad} {P : Program} {w : World} {base : Heap} {δ : List Sd} {C : Nat → Addr} {ds es : List D} {te : TE} {d : D}
/-! ### Planner() -/
def sp_Planner (K : PySem.W.Frag) (A : Ad) : Sp := fun vs H Q E => ∃ (a dx : Addr), vs = [.ref a] ∧ H a = some (.ins A.pl dx []) ∧
  ∀ H', H' a = some (.ins A.pl dx [("model", .non)]) → (∀ b, b ≠ a → H' b = H b) → Q .non H'
theorem pu_Planner_init (T : Cst K mg A) (vs : List V) (H : Hp) (Q : VK) (E : XK) (h : sp_Planner K A vs H Q E) : t_Planner_init K A { nx := fun _ H' => Q .non H', rt := Q } (L2.start ["self"] vs) H := by
  obtain ⟨a, dx, rfl, e, q⟩ := h
  refine ⟨_, rfl, a, A.pl, dx, _, rfl, e, T.clsP, T.a_model, Nat.le_of_ble_eq_true rfl, ?_⟩
  exact q _ upd_same fun b hb => upd_ne hb
theorem mk_Planner (T : Txt K mg A) {f : Addr} {fd : FuncData} (F : Fun K "__init__" "Planner.__init__" s_Planner_init f fd) : FnOk P w K mg base CX0 1 f fd ["self"] (sp_Planner K A) :=
  cal_Planner_init T F (fun vs H Q E h => by obtain ⟨a, dx, rfl, _⟩ := h; rfl) (pu_Planner_init T.toCst)
/-! ### small rules -/
theorem rd_catW (h : ds.length + es.length ≤ 10000001) : RD K C rAddA (.lst ds) (.lst es) (.lst (ds ++ es)) := rd_r fun F H vx vy Q fh hx hy q => by
  cases hx with
  | lst e1 r1 =>
    cases hy with
    | lst e2 r2 =>
      exact ⟨_, _, _, _, rfl, rfl, fh _ _ e1, fh _ _ e2, by rw [r1.length, r2.length]; exact Nat.le_trans h (by decide), fun p hp =>
        q _ _ _ (.lay fh hp) (.lst upd_same ((r1.append r2).mono (Ex.new (fh.back hp))))⟩
theorem ed_lists (T : Tops K mg A) {i k : Nat} (hi : δ[i]? = some (Sd.dat (.int (k : Nat)))) (hk : k ≤ 22) : ED K C (tIGet K (tC (.ref A.lists)) (tVar i) (tC (.int 0))) δ (.int (lstN k : Nat)) := fun F σ H Q o q => by
  obtain ⟨r, hd, hr⟩ := T.lists k hk
  obtain ⟨v, h1, h2⟩ := o.dat i _ hi
  cases h2
  exact ⟨A.lists, rfl, ⟨_, _, hd⟩, _, h1, k, r, .int (lstN k : Nat), rfl, hd, hr, q _ F H (.refl o.fh) (.int _)⟩
theorem numbers_at {k n : Nat} (h : numN[k]? = some n) : atI (([1, 2, 2, 2, 2, 4, 2, 3, 2, 2, 1, 1, 0, 0, 2, 0, 0, 2, 0, 0, 0, 0, 0] : List Int).map D.int) ((k : Nat) : Int) = some (.int (n : Nat)) := by
  refine atI_nat' ?_
  have e : ([1, 2, 2, 2, 2, 4, 2, 3, 2, 2, 1, 1, 0, 0, 2, 0, 0, 2, 0, 0, 0, 0, 0] : List Int) = numN.map fun n : Nat => (n : Int) := rfl
  rw [e, List.map_map, List.getElem?_map, h]
  rfl
theorem Okf.adr {H0 F0 F H : Hp} {σ : L2.St} (ok : Okf K C H0 F0 δ F σ H) {i : Nat} {p : Addr} (h : δ[i]? = some (Sd.dat (.adr p))) : σ[i]? = some (some (.ref p)) := by
  obtain ⟨v, h1, h2⟩ := ok.ok.dat i _ h
  cases h2
  exact h1
theorem Pl.put {H : Hp} {pa fa : Addr} {ft : Addr → Prop} {st : Option Lrx8.Model} {o o' : HO} (p : Pl K A H pa ft st) (h : H fa = some o) (hw : Wr o) (nf : ¬ ft fa) (ne : fa ≠ pa) : Pl K A (upd H fa o') pa ft st := by
  obtain ⟨⟨dx, x, h1, h2⟩, nf1⟩ := p
  have keep : ∀ a u, H a = some u → a ≠ fa → upd H fa o' a = some u := fun a u e n => by
    rw [upd_ne n]
    exact e
  refine ⟨⟨dx, x, keep _ _ h1 ne.symm, ?_⟩, nf1⟩
  cases st with
  | none => exact h2
  | some m =>
    obtain ⟨ma, h3, t⟩ := h2
    exact ⟨ma, h3, tr_not_pl t nf keep h hw⟩
/-! ### the loop's invariant -/
def LI (K : PySem.W.Frag) (A : Ad) (a : Addr) (H0 : Hp) (pre : List C3) (σ : L2.St) (H : Hp) : Prop := ∃ pa fa ft o4 o5 o6 o7 o8,
  σ = [some (.ref a), some (.ref pa), some (.ref fa), some (.int ((flat pre).length : Nat)), o4, o5, o6, o7, o8] ∧ Ex H0 H ∧ H fa = some (.lst ((foundI pre).map V.int)) ∧ H0 fa = none ∧ Pl K A H pa ft (runS none pre) ∧ fa ≠ pa ∧ ¬ ft fa ∧ (∀ b, ft b → H0 b = none) ∧ H0 pa = none
def body (K : PySem.W.Frag) (A : Ad) : TS :=
  tSeq (tAsg (tOp (rIx K) (tVar 0) (tVar 3)) (gName 4))
  (tSeq (tAsg (tOp rAddA (tOp rAddA (tVar 3) (tC (.int 1))) (tOp (rIx K) (tC (.ref A.numbers)) (tVar 4))) (gName 5))
  (tSeq (tAsg (tCall (spP K A.c A.ce R_lists) [] E0 (tCons (tVar 0) (tCons (tVar 5) (tCons (tIGet K (tC (.ref A.lists)) (tVar 4) (tC (.int 0))) tNil)))) (gTup K 2 (gCons (gName 6) (gCons (gName 7) gNil))))
  (tSeq (tAsg (tCall (sp_answer K A) [] E0 (tCons (tVar 1) (tCons (tVar 4) (tCons (tOp rAddA (tSl (rSlL K) (tVar 0) (tPart (tOp rAddA (tVar 3) (tC (.int 1)))) (tPart (tVar 5))) (tVar 6)) tNil)))) (gName 8))
  (tSeq (tDrop (tBM K "list" rExtend (tVar 2) (tCons (tOp rAddA (tLst (tCons (tCB (rLen1 K) (tCons (tVar 8) tNil)) tNil)) (tVar 8)) tNil)))
  (tAsg (tVar 7) (gName 3))))))
theorem raw_call {sp : Sp} {t : TA} {E' : XK} {g : TG} {u : TS} {Z : Ends} {σ : L2.St} {H : Hp} (h : t σ H fun vs H1 => sp (vs ++ []) H1 (fun x H2 => g x σ H2 (u Z)) E') : tSeq (tAsg (tCall sp [] E' t) g) u Z σ H := h
theorem len9 {σ : L2.St} (h : σ.length = 9) : ∃ a b c d e f g i j, σ = [a, b, c, d, e, f, g, i, j] := by
  match σ, h with
  | [a, b, c, d, e, f, g, i, j], _ => exact ⟨a, b, c, d, e, f, g, i, j, rfl⟩
theorem body_ok (T : Tops K mg A) {a : Addr} {H0 : Hp} {cs pre post : List C3} {c : C3} (hcs : cs = pre ++ c :: post) (hg : ∀ c ∈ cs, Good c) (hL : SqL K H0 a ((flat cs).map V.int)) (hlen : (foundI cs).length ≤ 10000000) {σ : L2.St} {H : Hp} (I : LI K A a H0 pre σ H) (Z : Ends) (hZ : ∀ σ' H', LI K A a H0 (pre ++ [c]) σ' H' → Z.nx σ' H') : body K A Z σ H := by
  obtain ⟨pa, fa, ft, o4, o5, o6, o7, o8, rfl, ex0, hfa, hfa0, pl, nfp, nff, hft, hpa0⟩ := I
  have gc : Good c := hg c (by rw [hcs]; simp)
  -- the numbers
  have e1 : flat cs = flat pre ++ ((c.k : Int) :: (ci c.ns ++ (rowsI c.ls ++ flat post))) := by
    rw [hcs, flat_app]
    show flat pre ++ (enc1 c ++ flat post) = _
    unfold enc1
    simp only [List.cons_append, List.append_assoc]
  have e1D : (flat cs).map D.int = (flat pre).map D.int ++ (D.int (c.k : Nat) :: ((ci c.ns).map D.int ++ (rowsI c.ls ++ flat post).map D.int)) := by
    rw [e1, List.map_append, List.map_cons, List.map_append]
  have hat : (flat pre).length = ((flat pre).map D.int).length := by rw [List.length_map]
  have hL1 := ex0.sqL hL
  have ok0 : Okf K A.c H H [.dat (.at_ a (.sq ((flat cs).map D.int))), .dat (.adr pa), .dat (.adr fa), .dat (.int ((flat pre).length : Nat)), .any, .any, .any, .any, .any] H [some (.ref a), some (.ref pa), some (.ref fa), some (.int ((flat pre).length : Nat)), o4, o5, o6, o7, o8] H := by
    refine ⟨⟨Ex.refl H, rfl, fun i d h => ?_, fun i d h => ?_, fun i j p x y h => ?_⟩, .refl (Ex.refl H), fun i d p h => ?_⟩
    · match i, h with
      | 0, h =>
        cases h
        exact ⟨_, rfl, .at_ (.sq hL1 (.of_ints _))⟩
      | 1, h =>
        cases h
        exact ⟨_, rfl, .adr⟩
      | 2, h =>
        cases h
        exact ⟨_, rfl, .adr⟩
      | 3, h =>
        cases h
        exact ⟨_, rfl, .int _⟩
      | 4, h => cases h
      | 5, h => cases h
      | 6, h => cases h
      | 7, h => cases h
      | 8, h => cases h
      | n + 9, h => simp at h
    all_goals
      match i, h with
      | 0, h => cases h
      | 1, h => cases h
      | 2, h => cases h
      | 3, h => cases h
      | 4, h => cases h
      | 5, h => cases h
      | 6, h => cases h
      | 7, h => cases h
      | 8, h => cases h
      | n + 9, h => simp at h
  -- call
  refine sd_set (CE := 0) (E := E0) (d := .int (c.k : Nat)) (ed_op (ed_var rfl).forget (ed_var rfl) (rd_ix_sq (by rw [e1D, hat]; exact at_mid _ _ _))) H H H _ H _ ok0 fun F1 σ1 H1 ok1 => ?_
  -- behind
  refine sd_set (CE := 0) (E := E0) (d := .int (((flat pre).length + 1 + c.ns.length : Nat) : Int)) ((ed_op (ed_op (ed_var rfl) ed_int rd_addA) (ed_op (ed_ktup T.k_numbers) (ed_var rfl) (rd_ix_t (numbers_at gc.n))) rd_addA).is rfl) H H F1 σ1 H1 _ ok1 fun F2 σ2 H2 ok2 => ?_
  -- lists, end
  have hb : (flat pre).length + 1 + c.ns.length = (flat pre ++ ((c.k : Int) :: ci c.ns)).length := by
    rw [List.length_append, List.length_cons, ci_len]
    omega
  have e3 : flat cs = (flat pre ++ ((c.k : Int) :: ci c.ns)) ++ (rowsI c.ls ++ flat post) := by
    rw [e1]
    simp only [List.cons_append, List.append_assoc]
  have hls : c.ls.length ≤ 1000 := by
    rw [gc.l]
    unfold lstN
    split
    · decide
    · split <;> decide
  have hend : (flat pre).length + 1 + c.ns.length + (rowsI c.ls).length = (flat (pre ++ [c])).length := by
    rw [flat_one, List.length_append]
    unfold enc1
    rw [List.length_cons, List.length_append, ci_len]
    omega
  refine sd_asg (CE := 0) (E := E0) (d := .tup [.lst (c.ls.map encNs), .int (((flat (pre ++ [c])).length : Nat) : Int)]) (ed_call (CE := A.ce) (ds := [.sq ((flat cs).map D.int), .int (((flat pre).length + 1 + c.ns.length : Nat) : Int), .int (c.ls.length : Nat)])
    (ad_cons (ed_var rfl).forget (ad_cons (ed_var rfl) (ad_cons (gc.l ▸ ed_lists T rfl gc.k) ad_nil))) ⟨flat pre ++ ((c.k : Int) :: ci c.ns), flat post, c.ls, by rw [e3, hb], hls, by rw [← hb, hend]⟩) gd_pair H H F2 σ2 H2 _ ok2 fun F3 σ3 H3 ok3 => ?_
  -- told
  have hcut : cutD ((flat cs).map D.int) (some (((flat pre).length + 1 : Nat) : Int)) (some (((flat pre).length + 1 + c.ns.length : Nat) : Int)) = c.ns.map encN := by
    have k := cut_mid ((flat pre).map D.int ++ [D.int (c.k : Nat)]) ((ci c.ns).map D.int) ((rowsI c.ls ++ flat post).map D.int)
    have k2 : (flat pre).map D.int ++ (D.int (c.k : Nat) :: ((ci c.ns).map D.int ++ (rowsI c.ls ++ flat post).map D.int)) = ((flat pre).map D.int ++ [D.int (c.k : Nat)]) ++ ((ci c.ns).map D.int ++ (rowsI c.ls ++ flat post).map D.int) := by
      rw [List.append_assoc]
      rfl
    have k3 : ((flat pre).map D.int ++ [D.int (c.k : Nat)]).length = (flat pre).length + 1 := by
      rw [List.length_append, List.length_map]
      rfl
    have k4 : ((ci c.ns).map D.int).length = c.ns.length := by rw [List.length_map, ci_len]
    rw [e1D, k2]
    rw [k3, k4] at k
    rw [k, ci_D]
  have hnl : c.ns.length ≤ 1000 := by
    have := gc.n
    have hlt := (List.getElem?_eq_some_iff.mp this)
    obtain ⟨h1, h2⟩ := hlt
    have : ∀ n ∈ numN, n ≤ 1000 := by decide
    have := this _ (List.getElem_mem h1)
    omega
  have had : AD K A.c (tCons (tVar 1) (tCons (tVar 4) (tCons (tOp rAddA (tSl (rSlL K) (tVar 0) (tPart (tOp rAddA (tVar 3) (tC (.int 1)))) (tPart (tVar 5))) (tVar 6)) tNil)))
      [.dat (.at_ a (.sq ((flat cs).map D.int))), .dat (.adr pa), .dat (.adr fa), .dat (.int ((flat pre).length : Nat)), .dat (.int (c.k : Nat)), .dat (.int (((flat pre).length + 1 + c.ns.length : Nat) : Int)), .dat (.lst (c.ls.map encNs)), .dat (.int (((flat (pre ++ [c])).length : Nat) : Int)), .any] [.adr pa, .int (c.k : Nat), given c.ns c.ls] :=
    ad_cons (ed_var rfl) (ad_cons (ed_var rfl) (ad_cons (ed_op (((el_slSq (ed_var rfl).forget (od_some (i := (((flat pre).length + 1 : Nat) : Int)) (ed_op (ed_var rfl) ed_int rd_addA)) (od_some (i := (((flat pre).length + 1 + c.ns.length : Nat) : Int)) (ed_var rfl))).is hcut).ed) (ed_var rfl) (rd_catA (by rw [List.length_map, List.length_map]; omega))) ad_nil))
  dsimp only
  refine raw_call ?_
  refine had F3 σ3 H3 _ ok3.ok fun vs F4 H4 g4 is4 => ?_
  cases is4 with
  | cons i1 is4 =>
  cases is4 with
  | cons i2 is4 =>
  cases is4 with
  | cons i3 is4 =>
  cases is4
  cases i1
  cases i2
  rename_i gv
  have ex4 : Ex H H4 := ok3.ex.trans g4.h
  have hfa4 := ex4 _ _ hfa
  refine ⟨pa, ft, runS none pre, c.k, c.ns, c.ls, ⟨⟨gv, rfl, i3.mono g4.fh⟩, pl.ex ex4, run_ok pre none (fun d hd => hg d (by rw [hcs]; simp [hd])) (fun m hm => by cases hm), gc.k, gc.n, gc.l, gc.s⟩, fun v H5 ft' pl5 fr hv => ?_⟩
  -- found.extend
  have hfa5 := fr.keep _ _ hfa4 nff nfp
  have nff' : ¬ ft' fa := fun z => by
    rcases fr.new fa z with y | y
    · exact nff y
    · rw [hfa4] at y
      cases y
  generalize htold : (actP (runS none pre) c.k c.ns c.ls).2 = told at hv
  have hfound : foundI (pre ++ [c]) = foundI pre ++ ((told.length : Int) :: told) := by rw [found_one, htold]
  have hlen2 : (foundI pre).length + (1 + told.length) ≤ 10000000 := by
    have : foundI cs = foundI (pre ++ [c]) ++ PyFlat.told (toldS (runS none (pre ++ [c])) post) := by
      rw [← found_app, hcs]
      congr 1
      simp
    have h2 := congrArg List.length this
    rw [List.length_append, hfound, List.length_append, List.length_cons] at h2
    omega
  obtain ⟨x0, x1, x2, x3, x4, x5, x6, x7, x8, rfl⟩ := len9 ok3.ok.len
  have s0 : some x0 = some (some (V.ref a)) := ok3.slot (i := 0) (d := .sq ((flat cs).map D.int)) rfl
  have s1 : some x1 = some (some (V.ref pa)) := ok3.adr (i := 1) rfl
  have s2 : some x2 = some (some (V.ref fa)) := ok3.adr (i := 2) rfl
  have s7 : some x7 = some (some (V.int ((flat (pre ++ [c])).length : Nat))) := ok3.int (i := 7) rfl
  cases s0
  cases s1
  cases s2
  cases s7
  have ok5 : Ok K A.c [.any, .any, .any, .any, .any, .any, .any, .any, .dat (.lst (told.map D.int))] H5 [some (V.ref a), some (V.ref pa), some (V.ref fa), x3, x4, x5, x6, some (V.int ((flat (pre ++ [c])).length : Nat)), some (V.ref v)] H5 := by
    refine ⟨Ex.refl H5, rfl, fun i d h => ?_, fun i d h => ?_, fun i j p x y h => ?_⟩
    · match i, h with
      | 0, h => cases h
      | 1, h => cases h
      | 2, h => cases h
      | 3, h => cases h
      | 4, h => cases h
      | 5, h => cases h
      | 6, h => cases h
      | 7, h => cases h
      | 8, h =>
        cases h
        exact ⟨_, rfl, .lst hv (.of_ints _)⟩
      | n + 9, h => simp at h
    all_goals
      match i, h with
      | 0, h => cases h
      | 1, h => cases h
      | 2, h => cases h
      | 3, h => cases h
      | 4, h => cases h
      | 5, h => cases h
      | 6, h => cases h
      | 7, h => cases h
      | 8, h => cases h
      | n + 9, h => simp at h
  refine ⟨_, rfl, .inl ⟨rfl, _, .of hfa5⟩, ?_⟩
  refine (ed_op (ed_lst (ds := [.int (told.length : Nat)]) (ad_cons ((ed_cb (ds := [.lst (told.map D.int)]) (ad_cons (ed_var rfl) ad_nil) cd_len).is (by rw [List.length_map])) ad_nil) (Nat.le_of_ble_eq_true rfl)) (ed_var (d := .lst (told.map D.int)) rfl) (rd_catW (by rw [List.length_map]; show 1 + _ ≤ _; omega)) : ED K A.c _ _ _) H5 _ H5 _ ok5 fun y F6 H6 g6 i6 => ?_
  have i6' : Is K A.c F6 y (.lst (((told.length : Int) :: told).map D.int)) := i6
  cases i6' with
  | lst e6 r6 =>
  rename_i b6 ys
  have hys := r6.ints ((told.length : Int) :: told)
  subst hys
  have hfa6 := g6.h _ _ hfa5
  refine ⟨fa, b6, _, _, rfl, rfl, hfa6, g6.fh _ _ e6, by
    rw [List.length_map, List.length_map, List.length_cons]
    exact Nat.le_trans (by omega : (foundI pre).length + (told.length + 1) ≤ 10000000) (by decide), ?_⟩
  -- at = end
  refine ⟨_, rfl, ?_⟩
  refine hZ _ _ ⟨pa, fa, ft', x4, x5, x6, _, _, rfl, ?_, ?_, hfa0, ?_, nfp, nff', fun b hb => ?_, hpa0⟩
  · intro b u hb
    have nb : b ≠ fa := ne_of_none hb hfa0
    have npa : b ≠ pa := ne_of_none hb hpa0
    have nft : ¬ ft b := fun z => by
      have := hft b z
      rw [hb] at this
      cases this
    rw [upd_ne nb]
    exact g6.h _ _ (fr.keep _ _ (ex4 _ _ (ex0 _ _ hb)) nft npa)
  · rw [upd_same, hfound, List.map_append]
  · rw [runS_app]
    exact (pl5.ex g6.h).put hfa6 (.inr ⟨_, rfl⟩) nff' nfp
  · rcases fr.new b hb with y | y
    · exact hft b y
    · exact (ex0.trans ex4).back y
/-! ### answers -/
def sp_answers (K : PySem.W.Frag) : Sp := fun vs H Q E => ∃ (a : Addr) (cs : List C3), vs = [.ref a] ∧ SqL K H a ((flat cs).map V.int) ∧ (∀ c ∈ cs, Good c) ∧ (foundI cs).length ≤ 10000000 ∧
  ∀ (H' : Hp) (p : Addr), H' p = some (.lst ((foundI cs).map V.int)) → Q (.ref p) H'
theorem sp_answers_len (vs : List V) (H : Hp) (Q : VK) (E : XK) (h : sp_answers K vs H Q E) : vs.length = 1 := by
  obtain ⟨a, cs, rfl, _⟩ := h
  rfl
def t_answers (K : PySem.W.Frag) (A : Ad) : TS :=
  tSeq (tPar3 1 2 3 (tCons (tMake A.pl (sp_Planner K A) [] E0 tNil) (tCons (tLst tNil) (tCons (tC (.int 0)) tNil))))
  (tSeq (tWhile (tTest (tOp rLtA (tVar 3) (tCB (rLen1 K) (tCons (tVar 0) tNil)))) (body K A)) (tRet (tVar 2)))
theorem pu_answers (T : Tops K mg A) (vs : List V) (H : Hp) (Q : VK) (E : XK) (h : sp_answers K vs H Q E) :
    t_answers K A { nx := fun _ H' => Q .non H', rt := Q } (L2.start ["calls", "planner", "found", "at", "call", "behind", "lists", "end", "told"] vs) H := by
  obtain ⟨a, cs, rfl, hL, hg, hlen, q⟩ := h
  intro x dx hx hdx hne
  refine ⟨x, dx, rfl, upd_same, fun H1 e1 r1 => ⟨rfl, ?_⟩⟩
  refine ⟨Nat.le_of_ble_eq_true rfl, fun p hp => ?_⟩
  refine ⟨_, _, _, rfl, ?_⟩
  have ex1 : Ex H H1 := fun b u hb => by
    have n1 := ne_of_none hb hx
    have n2 := ne_of_none hb hdx
    rw [r1 b n1, upd_ne n1, upd_ne n2]
    exact hb
  have npx : p ≠ x := (ne_of_none e1 hp).symm
  refine ⟨fun m σ H' => ∃ pre post, cs = pre ++ post ∧ post.length = m ∧ LI K A a H pre σ H', ⟨_, [], cs, rfl, rfl, x, p, fun _ => False, _, _, _, _, _, rfl, ex1.trans (Ex.new hp), upd_same, ex1.back hp, ⟨⟨dx, .non, Ex.new hp _ _ e1, rfl⟩, id⟩, npx, id, fun b hb => hb.elim, hx⟩, ?_⟩
  rintro m σ H' ⟨pre, post, hcs, rfl, I⟩
  have I' := I
  obtain ⟨pa, fa, ft, o4, o5, o6, o7, o8, rfl, ex0, hfa, hfa0, pl, nfp, nff, hft, hpa0⟩ := I'
  refine ⟨_, rfl, _, rfl, a, _, rfl, .inl (ex0.sqL hL), _, _, rfl, rfl, _, rfl, ?_⟩
  cases post with
  | nil =>
    have hd : decide (((flat pre).length : Int) < (((flat cs).map V.int).length : Nat)) = false := by
      rw [hcs, List.append_nil, List.length_map]
      exact decide_eq_false (by omega)
    rw [hd]
    refine iteF ?_
    refine ⟨_, rfl, ?_⟩
    rw [List.append_nil] at hcs
    subst hcs
    exact q H' fa hfa
  | cons c post =>
    have hd : decide (((flat pre).length : Int) < (((flat cs).map V.int).length : Nat)) = true := by
      rw [hcs, List.length_map, flat_app, List.length_append]
      refine decide_eq_true ?_
      have := enc1_pos c
      have e : (flat (c :: post)).length = (enc1 c).length + (flat post).length := by
        show (enc1 c ++ flat post).length = _
        rw [List.length_append]
      omega
    rw [hd]
    refine iteT ⟨fun σ' H'' => LI K A a H (pre ++ [c]) σ' H'', fun σ' H'' k => ⟨post.length, Nat.lt_succ_self _, pre ++ [c], post, by rw [hcs, List.append_assoc]; rfl, rfl, k⟩, ?_⟩
    exact body_ok T hcs hg hL hlen I _ fun _ _ k => k
theorem ok_answers (T : Tops K mg A) {f : Addr} {fd : FuncData} (F : Fun K "answers" "answers" s_answers f fd) (c_Planner : MakX P w K mg base 1 "Planner" A.pl (sp_Planner K A)) (c_answer : Cal0 P w K mg base 11 "answer" (sp_answer K A)) : FnOk P w K mg base CX0 12 f fd ["calls"] (sp_answers K) := by
  have nd := sc_answers.nd
  have c_lists := pr_lists_from (P := P) (w := w) (base := base) T.toTxt
  refine F.ok sc_answers sp_answers_len fun cdv A' outer s H vs Q E hr h => ⟨t_answers K A, ?_, pu_answers T vs H Q E h⟩
  exact pss_cons (ps_par3 (i := 1) (j := 2) (l := 3) rfl nd rfl rfl rfl (by decide) (by decide) (by decide) rfl rfl rfl (pa_cons (pe_mx0 c_Planner hr (by decide) rfl) (pa_cons (pe_lst pa_nil) (pa_cons pe_int pa_nil))) (by rfl))
    (pss_cons (ps_while PassesOwn.never (pt_cmpR op_lt (pv 3) (L2.pe_callB call_len_seq (by rfl) T.b_len PySem.boot_len (pa_cons (pv 0) pa_nil)) (by first | exact nomark _ | rfl))
      (pss_cons (ps_set (i := 4) nd rfl (by first | exact Or.inl rfl | exact Or.inr rfl) (pe_ix ix_seq (pv 0) (pv 3) (fun _ _ => rfl)))
      (pss_cons (ps_set (i := 5) nd rfl (by first | exact Or.inl rfl | exact Or.inr rfl) (pe_op op_addA (pe_op op_addA (pv 3) pe_int) (pe_ix ix_seq (pe_gc2 rfl T.g_NUMBERS) (pv 4) (fun _ _ => rfl))))
      (pss_cons (ps_asg (pe_c0 c_lists hr (by decide) rfl (by exact (pa_cons (pv 0) (pa_cons (pv 5) (pa_cons (pe_iget (pe_gc2 rfl T.g_LISTS) (pv 4) pe_int ⟨rfl, rfl, rfl, rfl⟩) pa_nil))))) (pg_tup rfl (pgs_cons (pg_name (i := 6) nd rfl (by first | exact Or.inl rfl | exact Or.inr rfl)) (pgs_cons (pg_name (i := 7) nd rfl (by first | exact Or.inl rfl | exact Or.inr rfl)) pgs_nil))))
      (pss_cons (ps_set (i := 8) nd rfl (by first | exact Or.inl rfl | exact Or.inr rfl) (pe_c0 c_answer hr (by decide) rfl (by exact (pa_cons (pv 1) (pa_cons (pv 4) (pa_cons (pe_op op_addA (pe_slice sl_list (pv 0) (po_some (pe_op op_addA (pv 3) pe_int)) (po_some (pv 5))) (pv 6)) pa_nil))))))
      (pss_cons (ps_expr (pe_bm PySem.F.plainAttrs_list PySem.F.slot_list_extend PySem.F.type_list_extend mt_extend (pv 2) (pa_cons (pe_op op_addA (pe_lst (pa_cons (L2.pe_callB call_len_seq (by rfl) T.b_len PySem.boot_len (pa_cons (pv 8) pa_nil)) pa_nil)) (pv 8)) pa_nil)))
      (pss_one (ps_set (i := 3) nd rfl (by first | exact Or.inl rfl | exact Or.inr rfl) (pv 7)))))))))
    (pss_one (ps_ret (pv 2))))
end
end Pd

/-! ## Fl -/
set_option Elab.async false
set_option linter.all false
set_option maxRecDepth 100000
set_option maxHeartbeats 2000000
set_option autoImplicit false
/-! The list of numbers that is handed in, and what is due of it. -/
namespace Pd
open Mt
open Lw (ci actP numN lstN callI)
theorem shape_k {p : Int} {n r : Nat} (h : PyLrx8.shape p = some (n, r)) : ∃ k : Nat, p = k ∧ k ≤ 22 ∧ numN[k]? = some n ∧ r = lstN k := by
  unfold PyLrx8.shape at h
  by_cases h0 : p = 0
  · rw [if_pos h0] at h
    cases h
    exact ⟨0, h0, by decide, rfl, rfl⟩
  rw [if_neg h0] at h
  by_cases h1 : p = 1
  · rw [if_pos h1] at h
    cases h
    exact ⟨1, h1, by decide, rfl, rfl⟩
  rw [if_neg h1] at h
  by_cases h2 : p = 2
  · rw [if_pos h2] at h
    cases h
    exact ⟨2, h2, by decide, rfl, rfl⟩
  rw [if_neg h2] at h
  by_cases h3 : p = 3
  · rw [if_pos h3] at h
    cases h
    exact ⟨3, h3, by decide, rfl, rfl⟩
  rw [if_neg h3] at h
  by_cases h4 : p = 4
  · rw [if_pos h4] at h
    cases h
    exact ⟨4, h4, by decide, rfl, rfl⟩
  rw [if_neg h4] at h
  by_cases h5 : p = 5
  · rw [if_pos h5] at h
    cases h
    exact ⟨5, h5, by decide, rfl, rfl⟩
  rw [if_neg h5] at h
  by_cases h6 : p = 6
  · rw [if_pos h6] at h
    cases h
    exact ⟨6, h6, by decide, rfl, rfl⟩
  rw [if_neg h6] at h
  by_cases h7 : p = 7
  · rw [if_pos h7] at h
    cases h
    exact ⟨7, h7, by decide, rfl, rfl⟩
  rw [if_neg h7] at h
  by_cases h8 : p = 8
  · rw [if_pos h8] at h
    cases h
    exact ⟨8, h8, by decide, rfl, rfl⟩
  rw [if_neg h8] at h
  by_cases h9 : p = 9
  · rw [if_pos h9] at h
    cases h
    exact ⟨9, h9, by decide, rfl, rfl⟩
  rw [if_neg h9] at h
  by_cases h10 : p = 10
  · rw [if_pos h10] at h
    cases h
    exact ⟨10, h10, by decide, rfl, rfl⟩
  rw [if_neg h10] at h
  by_cases h11 : p = 11
  · rw [if_pos h11] at h
    cases h
    exact ⟨11, h11, by decide, rfl, rfl⟩
  rw [if_neg h11] at h
  by_cases h12 : p = 12
  · rw [if_pos h12] at h
    cases h
    exact ⟨12, h12, by decide, rfl, rfl⟩
  rw [if_neg h12] at h
  by_cases h13 : p = 13
  · rw [if_pos h13] at h
    cases h
    exact ⟨13, h13, by decide, rfl, rfl⟩
  rw [if_neg h13] at h
  by_cases h14 : p = 14
  · rw [if_pos h14] at h
    cases h
    exact ⟨14, h14, by decide, rfl, rfl⟩
  rw [if_neg h14] at h
  by_cases h15 : p = 15
  · rw [if_pos h15] at h
    cases h
    exact ⟨15, h15, by decide, rfl, rfl⟩
  rw [if_neg h15] at h
  by_cases h16 : p = 16
  · rw [if_pos h16] at h
    cases h
    exact ⟨16, h16, by decide, rfl, rfl⟩
  rw [if_neg h16] at h
  by_cases h17 : p = 17
  · rw [if_pos h17] at h
    cases h
    exact ⟨17, h17, by decide, rfl, rfl⟩
  rw [if_neg h17] at h
  by_cases h18 : p = 18
  · rw [if_pos h18] at h
    cases h
    exact ⟨18, h18, by decide, rfl, rfl⟩
  rw [if_neg h18] at h
  by_cases h19 : p = 19
  · rw [if_pos h19] at h
    cases h
    exact ⟨19, h19, by decide, rfl, rfl⟩
  rw [if_neg h19] at h
  by_cases h20 : p = 20
  · rw [if_pos h20] at h
    cases h
    exact ⟨20, h20, by decide, rfl, rfl⟩
  rw [if_neg h20] at h
  by_cases h21 : p = 21
  · rw [if_pos h21] at h
    cases h
    exact ⟨21, h21, by decide, rfl, rfl⟩
  rw [if_neg h21] at h
  by_cases h22 : p = 22
  · rw [if_pos h22] at h
    cases h
    exact ⟨22, h22, by decide, rfl, rfl⟩
  rw [if_neg h22] at h
  cases h
theorem bound_k (k : Nat) (h : k ≤ 22) : PyLrx8.bound (k : Nat) = (List.replicate (numN.getD k 0) (0, 4294967295), List.replicate (lstN k) (0, 4294967295, 0, 6)) := by
  have e : ∀ k ∈ List.range 23, PyLrx8.bound (k : Nat) = (List.replicate (numN.getD k 0) (0, 4294967295), List.replicate (lstN k) (0, 4294967295, 0, 6)) := by decide
  exact e k (List.mem_range.mpr (by omega))
theorem each_nn : ∀ (n : Nat) (a : List Int), a.length = n → PyInside.each (List.replicate n (0, 4294967295)) a = true → ∀ x ∈ a, 0 ≤ x
  | 0, [], _, _, x, hx => absurd hx (by simp)
  | n + 1, y :: a, hl, h, x, hx => by
    rw [List.replicate_succ] at h
    unfold PyInside.each PyInside.within at h
    simp only [Bool.and_eq_true, decide_eq_true_eq] at h
    rcases List.mem_cons.mp hx with rfl | hx
    · exact h.1.1
    · exact each_nn n a (by simpa using hl) h.2 x hx
theorem lists_nn : ∀ (n : Nat) (xs : List (List Int)), xs.length = n → PyInside.lists (List.replicate n (0, 4294967295, 0, 6)) xs = true → ∀ l ∈ xs, l.length ≤ 6 ∧ ∀ x ∈ l, 0 ≤ x
  | 0, [], _, _, x, hx => absurd hx (by simp)
  | n + 1, y :: a, hl, h, l, hx => by
    rw [List.replicate_succ] at h
    unfold PyInside.lists PyInside.within at h
    simp only [Bool.and_eq_true, decide_eq_true_eq, List.all_eq_true] at h
    rcases List.mem_cons.mp hx with rfl | hx
    · exact ⟨h.1.1.2, fun x hx => (h.1.2 x hx).1⟩
    · exact lists_nn n a (by simpa using hl) h.2 l hx
theorem ci_back {a : List Int} (h : ∀ x ∈ a, 0 ≤ x) : ci (a.map Int.toNat) = a := by
  unfold ci
  rw [List.map_map]
  have : a.map ((fun n : Nat => (n : Int)) ∘ Int.toNat) = a.map id := List.map_congr_left fun x hx => Int.toNat_of_nonneg (h x hx)
  rw [this, List.map_id]
def callC (c : C3) : List (List Int) := callI c.k c.ns c.ls
theorem call_of {c : List (List Int)} (h : PyFlat.okCall PyLrx8.shape c) (hb : PyInside.call PyLrx8.bound c = true) : ∃ d : C3, c = callC d ∧ Good d := by
  obtain ⟨p, a, xs, rfl, hs⟩ := h
  obtain ⟨k, rfl, hk, hn, hr⟩ := shape_k hs
  unfold PyInside.call at hb
  dsimp only at hb
  rw [bound_k k hk, Bool.and_eq_true] at hb
  have hl : a.length = numN.getD k 0 := by
    rw [List.getD_eq_getElem?_getD, hn]
    rfl
  have h1 := each_nn _ a hl hb.1
  have h2 := lists_nn _ xs hr hb.2
  refine ⟨⟨k, a.map Int.toNat, xs.map fun l => l.map Int.toNat⟩, ?_, ⟨hk, by dsimp only; rw [List.length_map]; exact hn, by dsimp only; rw [List.length_map]; exact hr, fun l hl => ?_⟩⟩
  · unfold callC callI
    dsimp only
    rw [ci_back h1, List.map_map]
    have : xs.map (ci ∘ fun l => l.map Int.toNat) = xs.map id := List.map_congr_left fun l hl => ci_back (h2 l hl).2
    rw [this, List.map_id]
  · dsimp only at hl
    obtain ⟨l', hl', rfl⟩ := List.mem_map.mp hl
    rw [List.length_map]
    exact (h2 l' hl').1
theorem calls_of : ∀ raw : List (List (List Int)), (∀ c ∈ raw, PyFlat.okCall PyLrx8.shape c) → (∀ c ∈ raw, PyInside.call PyLrx8.bound c = true) → ∃ cs : List C3, raw = cs.map callC ∧ ∀ c ∈ cs, Good c
  | [], _, _ => ⟨[], rfl, fun c h => absurd h (by simp)⟩
  | c :: raw, h1, h2 => by
    obtain ⟨cs, e, hg⟩ := calls_of raw (fun d hd => h1 d (by simp [hd])) fun d hd => h2 d (by simp [hd])
    obtain ⟨d, ed, gd⟩ := call_of (h1 c (by simp)) (h2 c (by simp))
    refine ⟨d :: cs, by rw [e, ed]; rfl, fun x hx => ?_⟩
    rcases List.mem_cons.mp hx with rfl | hx
    · exact gd
    · exact hg x hx
theorem putRows_eq : ∀ ls : List (List Nat), PyFlat.putRows (ls.map ci) = rowsI ls
  | [] => rfl
  | l :: ls => by
    show PyFlat.putRow (ci l) ++ PyFlat.putRows (ls.map ci) = rowI l ++ rowsI ls
    rw [putRows_eq ls]
    unfold PyFlat.putRow rowI
    rw [ci_len]
theorem put_eq : ∀ cs : List C3, PyFlat.put (cs.map callC) = flat cs
  | [] => rfl
  | c :: cs => by
    show PyFlat.put1 (callC c) ++ PyFlat.put (cs.map callC) = enc1 c ++ flat cs
    rw [put_eq cs]
    congr 1
    show ((c.k : Int) :: ci c.ns) ++ PyFlat.putRows (c.ls.map ci) = _
    rw [putRows_eq]
    rfl
theorem whole_id (c : List (List Int)) : PyLrx8.whole c = c := by
  unfold PyLrx8.whole
  split <;> rfl
theorem played_eq : ∀ (cs : List C3) (st : Option Lrx8.Model), (∀ c ∈ cs, Good c) → (∀ m, st = some m → MOk m) → PyFlat.played Lrx8Neutral.step st (cs.map callC) = toldS st cs
  | [], _, _, _ => rfl
  | c :: cs, st, hg, hst => by
    have g := hg c (by simp)
    obtain ⟨e, h⟩ := Lw.act_law hst c.k g.k c.ns c.ls g.n g.l
    show (Lrx8Neutral.step st (callC c)).2 :: PyFlat.played Lrx8Neutral.step (Lrx8Neutral.step st (callC c)).1 (cs.map callC) = _
    have e' : Lrx8Neutral.step st (callC c) = actP st c.k c.ns c.ls := e
    rw [e', played_eq cs _ (fun d hd => hg d (by simp [hd])) h]
    rfl
/-- what is asked of a list, and what is due of it -/
theorem asked_flat {l : List Int} (h : PyLrx8.answers_asked l = true) : ∃ cs : List C3, l = flat cs ∧ (∀ c ∈ cs, Good c) ∧ PyLrx8.answers l = foundI cs ∧ (foundI cs).length ≤ 10000000 := by
  unfold PyLrx8.answers_asked at h
  cases e : PyFlat.calls PyLrx8.shape l.length l with
  | none =>
    rw [e] at h
    cases h
  | some raw =>
    rw [e] at h
    simp only [Bool.and_eq_true] at h
    obtain ⟨h1, h2⟩ := PyFlat.put_calls _ _ _ e
    have h3 : ∀ c ∈ raw, PyInside.call PyLrx8.bound c = true := List.all_eq_true.mp h.1.1.2
    obtain ⟨cs, rfl, hg⟩ := calls_of raw h2 h3
    have ea : PyLrx8.answers l = foundI cs := by
      unfold PyLrx8.answers PyLrx8.calls
      rw [e]
      dsimp only
      have ew : (cs.map callC).map PyLrx8.whole = cs.map callC := by
        rw [show PyLrx8.whole = id from funext whole_id, List.map_id]
      rw [ew]
      unfold foundI
      exact congrArg PyFlat.told (played_eq cs none hg fun m hm => by cases hm)
    refine ⟨cs, by rw [h1, put_eq], hg, ea, ?_⟩
    have h4 := h.2
    rw [ea] at h4
    unfold PyFlat.short at h4
    exact of_decide_eq_true h4
end Pd

/-! ## En1 -/
set_option Elab.async false
set_option linter.all false
set_option maxRecDepth 100000
set_option maxHeartbeats 2000000
set_option autoImplicit false
/-! From what the written part says to what the defs lean on. -/
namespace Pd
open PySem PySem.Spec PyProof.Rows L2 Mt
open Lw (ci actP numN lstN callI)
section
variable {P : Program} {w : World} {K : PySem.W.Frag} {h : Heap} {mg : Str → Option Value}
theorem def_mk (X : K.In h) (G : h.Ns mainGlobals mg) {x : Str} {st : Stmt} {f : Addr} {oc : Value} {od an : Option Addr} {osl : Array (Option Value)} {kV doc pm cdv ct : Value} (a : PySem.W.nsIn K mainGlobals x = some (some (.ref f)))
    (l : K.lookup f = some ⟨oc, od, .func (PySem.W.fnOf x x (defArgs st) (defBody st) (defScope st) .none kV doc pm an cdv ct), osl⟩) (c : PySem.W.codeIn K cdv x = true) (k : PySem.W.keepIn K (.ref f) = true) :
    ∃ f fd, Fun K x x st f fd ∧ mg x = some (.ref f) := ⟨f, _, fun_mk l c k, PySem.W.mg_of X G a⟩
theorem int_mk (X : K.In h) (G : h.Ns mainGlobals mg) {x : Str} {i : Int} {t : Tok} (a : PySem.W.nsIn K mainGlobals x = some (some (.int i t))) : ∃ u, mg x = some u ∧ RelV (.int i) u := ⟨_, PySem.W.mg_of X G a, t, rfl⟩
theorem ref_mk {x : Str} {a : Addr} (e : mg x = some (.ref a)) : ∃ u, mg x = some u ∧ RelV (.ref a) u := ⟨_, e, rfl⟩
theorem tup_mk (X : K.In h) (G : h.Ns mainGlobals mg) {x : Str} {a : Addr} {ns : List Int} {od : Option Addr} {its : Array Value} {n : Nat} {osl : Array (Option Value)} (e : PySem.W.nsIn K mainGlobals x = some (some (.ref a))) (l : K.lookup a = some ⟨.type "tuple", od, .seq its n, osl⟩)
    (hs : its.size ≤ 1000) (hv : Vals (ns.map V.int) its.toList) : ∃ a, mg x = some (.ref a) ∧ ∀ H, SqT K H a (ns.map V.int) :=
  ⟨a, PySem.W.mg_of X G e, fun H => .inr ⟨_, its, n, l, rfl, rfl, Nat.le_trans hs (by decide), hv⟩⟩
theorem none_mk (X : K.In h) (G : h.Ns mainGlobals mg) {x : Str} (e : PySem.W.nsIn K mainGlobals x = some none) : mg x = none := PySem.W.mg_none_of X G e
/-- a class of the program with its __init__ -/
structure ClsF (K : PySem.W.Frag) (mg : Str → Option Value) (x qual : Str) (st : Stmt) (as : List Str) (C : Addr) : Prop where
  g : mg x = some (.ref C)
  c : Cls K C
  m : ∃ f fd, Mk K C f ∧ Fun K "__init__" qual st f fd
  n : ∀ a ∈ as, NoAttr K C a
theorem cls_mk (X : K.In h) (G : h.Ns mainGlobals mg) {x qual : Str} {st : Stmt} {as : List Str} {C f : Addr} {oc : Value} {od an : Option Addr} {osl : Array (Option Value)} {kV doc pm cdv ct : Value}
    (g : PySem.W.nsIn K mainGlobals x = some (some (.ref C))) (pg : PySem.W.plainGet K C Str.empty = true) (hd : PySem.W.hasDictIn K C = true) (po : PySem.W.plainOver K C = true) (sa : PySem.W.findIn K (.ref C) "__setattr__" = some (some (.builtin "object.__setattr__")))
    (mk : PySem.W.makesIn K C = true) (ini : PySem.W.findIn K (.ref C) "__init__" = some (some (.ref f))) (isf : PySem.W.isFn K (.ref f) = true) (kp : PySem.W.keepIn K (.ref C) = true)
    (l : K.lookup f = some ⟨oc, od, .func (PySem.W.fnOf "__init__" qual (defArgs st) (defBody st) (defScope st) .none kV doc pm an cdv ct), osl⟩) (c : PySem.W.codeIn K cdv qual = true) (k : PySem.W.keepIn K (.ref f) = true)
    (n : ∀ a ∈ as, PySem.W.findIn K (.ref C) a = some none) : ∃ C, ClsF K mg x qual st as C :=
  ⟨C, PySem.W.mg_of X G g, ⟨pg, hd, po, sa⟩, ⟨f, _, ⟨mk, ini, isf, kp⟩, fun_mk l c k⟩, n⟩
theorem exm_self {S : Addr} (h1 : PySem.W.subIn K (.ref S) (.type "BaseException") = some true) (h2 : PySem.W.isClsIn K S = true) (h3 : PySem.W.typeIn K (.ref S) = some (.type "type")) (h4 : PySem.W.subIn K (.ref S) (.ref S) = some true) :
    PySem.W.exmOne K (.ref S) (.ref S) = some true := by
  have e1 : (PySem.W.subIn K (.ref S) (.type "BaseException") == some true) = true := by rw [h1] <;> rfl
  have e2 : ((PySem.W.clsIn K S).isSome && PySem.W.typeIn K (.ref S) == some (.type "type")) = true := by
    have h2' : (PySem.W.clsIn K S).isSome = true := h2
    rw [h2', h3] <;> rfl
  show (if (PySem.W.subIn K (.ref S) (.type "BaseException") == some true) = true then (if ((PySem.W.clsIn K S).isSome && PySem.W.typeIn K (.ref S) == some (.type "type")) = true then PySem.W.subIn K (.ref S) (.ref S) else none) else none) = some true
  rw [if_pos e1, if_pos e2]
  exact h4
theorem ref_all (X : K.In h) (G : h.Ns mainGlobals mg) {C f1 : Addr} {nm q : Str} {N : Addr} {bs : List Value} {sn : List Str} {sub : List Value} {ab : Bool} {col : Option Bool} {dd : Option Addr} {m0 m1 m2 m3 m5 : Option Value}
    {od1 an1 : Option Addr} {sl1 : Array (Option Value)} {oc1 dc1 pm1 cd1 ct1 : Value} {p1 p2 q1 q2 q3 q4 : Pos}
    (aC : PySem.W.nsIn K mainGlobals "Refused" = some (some (.ref C)))
    (xL : K.lookup C = some (excClassObj nm q C N bs [.type "Exception", .type "BaseException", .type "object"] true sn sub ab col dd m0 m1 m2 m3 m5 "Exception.__new__"))
    (sa : PySem.W.findIn K (.ref C) "__setattr__" = some (some (.builtin "object.__setattr__"))) (ga : PySem.W.findIn K (.ref C) "__getattribute__" = some (some (.builtin "BaseException.__getattribute__"))) (gg : PySem.W.findIn K (.ref C) "__getattr__" = some none)
    (nb : PySem.W.findIn K (.ref C) "code" = some none) (a1 : PySem.W.findIn K (.ref C) "__init__" = some (some (.ref f1))) (t1 : PySem.W.typeIn K (.ref f1) = some (.type "function"))
    (l1 : K.lookup f1 = some ⟨oc1, od1, .func (PySem.W.fnOf "__init__" "Refused.__init__" (PySem.RefX.iA p1 p2) (PySem.RefX.iB q1 q2 q3 q4) PySem.RefX.iS .none .none dc1 pm1 an1 cd1 ct1), sl1⟩) (c1 : PySem.W.codeIn K cd1 "Refused.__init__" = true)
    (kC : PySem.W.keepIn K (.ref C) = true) (eC : PySem.W.subIn K (.ref C) (.type "BaseException") = some true) (tC : PySem.W.typeIn K (.ref C) = some (.type "type")) (hC : PySem.W.hasDictIn K C = true) (iC : PySem.W.isClsIn K C = true) (sC : PySem.W.subIn K (.ref C) (.ref C) = some true) :
    ∃ C f, PySem.RefX.RefTxt K mg C f :=
  ⟨C, f1, { gC := PySem.W.mg_of X G aC, cls := ⟨nm, q, N, bs, sn, sub, ab, col, dd, m0, m1, m2, m3, m5, xL⟩, sa := sa, ga := ga, gg := gg, noN := nb, iC := a1, tC := t1, kC := kC, exC := eC, tyC := tC, hdC := hC, te := exm_self eC iC tC sC, fn := ⟨_, _, _, _, _, _, _, _, _, _, _, _, _, _, l1, c1⟩ }⟩
/-! ### the two written dicts -/
def keyB (e : DictEntry) : Bool := match e.key with
  | .int k _ => decide (e.hash = hashInt k)
  | _ => false
theorem keysI_of : ∀ {l : List DictEntry}, l.all keyB = true → KeysI l
  | [], _ => trivial
  | e :: r, h => by
    rw [List.all_cons, Bool.and_eq_true] at h
    refine ⟨?_, keysI_of h.2⟩
    have h1 := h.1
    unfold keyB at h1
    split at h1
    · rename_i k t e1
      exact ⟨k, t, e1, of_decide_eq_true h1⟩
    · cases h1
def adrAt (es : Array DictEntry) (k : Nat) : Addr := match findBy Value.isInt es (k : Int) with
  | some (.ref f) => f
  | _ => 0
def isR (r : Option Value) : Bool := match r with
  | some (.ref _) => true
  | _ => false
theorem adr_of {es : Array DictEntry} {k : Nat} (h : isR (findBy Value.isInt es (k : Int)) = true) : findBy Value.isInt es (k : Int) = some (.ref (adrAt es k)) := by
  unfold adrAt
  generalize findBy Value.isInt es (k : Int) = r at h
  unfold isR at h
  split at h
  · rfl
  · cases h
theorem all3 {p : Str → Prop} {a b c : Str} (h1 : p a) (h2 : p b) (h3 : p c) : ∀ x ∈ [a, b, c], p x := fun x hx => by
  rcases List.mem_cons.mp hx with rfl | hx
  · exact h1
  · rcases List.mem_cons.mp hx with rfl | hx
    · exact h2
    · rw [List.mem_singleton.mp hx]
      exact h3
theorem all1 {p : Str → Prop} {a : Str} (h1 : p a) : ∀ x ∈ [a], p x := fun x hx => by
  rw [List.mem_singleton.mp hx]
  exact h1
theorem deeds_mk (X : K.In h) (G : h.Ns mainGlobals mg) {d : Addr} {es : Array DictEntry} {n : Nat} (g : PySem.W.nsIn K mainGlobals "DEEDS" = some (some (.ref d))) (l : K.lookup d = some ⟨.type "dict", none, .dict es n, #[]⟩) (ky : es.toList.all keyB = true) (lo : (d == sysModules) = false)
    (hf : ((List.range 22).all fun k => isR (findBy Value.isInt es ((k + 1 : Nat) : Int))) = true) (n1 : PySem.W.nsIn K mainGlobals (dName 1) = some (some (.ref (adrAt es 1)))) (n2 : PySem.W.nsIn K mainGlobals (dName 2) = some (some (.ref (adrAt es 2)))) (n3 : PySem.W.nsIn K mainGlobals (dName 3) = some (some (.ref (adrAt es 3)))) (n4 : PySem.W.nsIn K mainGlobals (dName 4) = some (some (.ref (adrAt es 4)))) (n5 : PySem.W.nsIn K mainGlobals (dName 5) = some (some (.ref (adrAt es 5)))) (n6 : PySem.W.nsIn K mainGlobals (dName 6) = some (some (.ref (adrAt es 6)))) (n7 : PySem.W.nsIn K mainGlobals (dName 7) = some (some (.ref (adrAt es 7)))) (n8 : PySem.W.nsIn K mainGlobals (dName 8) = some (some (.ref (adrAt es 8)))) (n9 : PySem.W.nsIn K mainGlobals (dName 9) = some (some (.ref (adrAt es 9)))) (n10 : PySem.W.nsIn K mainGlobals (dName 10) = some (some (.ref (adrAt es 10)))) (n11 : PySem.W.nsIn K mainGlobals (dName 11) = some (some (.ref (adrAt es 11)))) (n12 : PySem.W.nsIn K mainGlobals (dName 12) = some (some (.ref (adrAt es 12)))) (n13 : PySem.W.nsIn K mainGlobals (dName 13) = some (some (.ref (adrAt es 13)))) (n14 : PySem.W.nsIn K mainGlobals (dName 14) = some (some (.ref (adrAt es 14)))) (n15 : PySem.W.nsIn K mainGlobals (dName 15) = some (some (.ref (adrAt es 15)))) (n16 : PySem.W.nsIn K mainGlobals (dName 16) = some (some (.ref (adrAt es 16)))) (n17 : PySem.W.nsIn K mainGlobals (dName 17) = some (some (.ref (adrAt es 17)))) (n18 : PySem.W.nsIn K mainGlobals (dName 18) = some (some (.ref (adrAt es 18)))) (n19 : PySem.W.nsIn K mainGlobals (dName 19) = some (some (.ref (adrAt es 19)))) (n20 : PySem.W.nsIn K mainGlobals (dName 20) = some (some (.ref (adrAt es 20)))) (n21 : PySem.W.nsIn K mainGlobals (dName 21) = some (some (.ref (adrAt es 21)))) (n22 : PySem.W.nsIn K mainGlobals (dName 22) = some (some (.ref (adrAt es 22)))) :
    ∃ d, mg "DEEDS" = some (.ref d) ∧ ∀ k : Nat, 1 ≤ k → k ≤ 22 → ∃ f, mg (dName k) = some (.ref f) ∧ IDct K d (k : Nat) (some (.ref f)) := by
  refine ⟨d, PySem.W.mg_of X G g, fun k h1 h2 => ?_⟩
  have dct : ∀ j : Nat, 1 ≤ j ∧ j ≤ 22 → IDct K d (j : Nat) (some (.ref (adrAt es j))) := fun j hj => by
    obtain ⟨i, rfl⟩ : ∃ i, j = i + 1 := ⟨j - 1, by omega⟩
    have z := List.all_eq_true.mp hf i (List.mem_range.mpr (by omega))
    exact ⟨⟨es, n, l, keysI_of ky, adr_of z⟩, lo⟩
  match k, h1, h2 with
  | 1, _, _ => exact ⟨_, PySem.W.mg_of X G n1, dct 1 (by decide)⟩
  | 2, _, _ => exact ⟨_, PySem.W.mg_of X G n2, dct 2 (by decide)⟩
  | 3, _, _ => exact ⟨_, PySem.W.mg_of X G n3, dct 3 (by decide)⟩
  | 4, _, _ => exact ⟨_, PySem.W.mg_of X G n4, dct 4 (by decide)⟩
  | 5, _, _ => exact ⟨_, PySem.W.mg_of X G n5, dct 5 (by decide)⟩
  | 6, _, _ => exact ⟨_, PySem.W.mg_of X G n6, dct 6 (by decide)⟩
  | 7, _, _ => exact ⟨_, PySem.W.mg_of X G n7, dct 7 (by decide)⟩
  | 8, _, _ => exact ⟨_, PySem.W.mg_of X G n8, dct 8 (by decide)⟩
  | 9, _, _ => exact ⟨_, PySem.W.mg_of X G n9, dct 9 (by decide)⟩
  | 10, _, _ => exact ⟨_, PySem.W.mg_of X G n10, dct 10 (by decide)⟩
  | 11, _, _ => exact ⟨_, PySem.W.mg_of X G n11, dct 11 (by decide)⟩
  | 12, _, _ => exact ⟨_, PySem.W.mg_of X G n12, dct 12 (by decide)⟩
  | 13, _, _ => exact ⟨_, PySem.W.mg_of X G n13, dct 13 (by decide)⟩
  | 14, _, _ => exact ⟨_, PySem.W.mg_of X G n14, dct 14 (by decide)⟩
  | 15, _, _ => exact ⟨_, PySem.W.mg_of X G n15, dct 15 (by decide)⟩
  | 16, _, _ => exact ⟨_, PySem.W.mg_of X G n16, dct 16 (by decide)⟩
  | 17, _, _ => exact ⟨_, PySem.W.mg_of X G n17, dct 17 (by decide)⟩
  | 18, _, _ => exact ⟨_, PySem.W.mg_of X G n18, dct 18 (by decide)⟩
  | 19, _, _ => exact ⟨_, PySem.W.mg_of X G n19, dct 19 (by decide)⟩
  | 20, _, _ => exact ⟨_, PySem.W.mg_of X G n20, dct 20 (by decide)⟩
  | 21, _, _ => exact ⟨_, PySem.W.mg_of X G n21, dct 21 (by decide)⟩
  | 22, _, _ => exact ⟨_, PySem.W.mg_of X G n22, dct 22 (by decide)⟩
  | k + 23, _, h => exact absurd h (by omega)
def lstO (k : Nat) : Option Int := if k = 12 ∨ k = 19 ∨ k = 20 then some 1 else if k = 21 then some 2 else none
def isO : Option Value → Option Int → Bool
  | none, none => true
  | some (.int j _), some i => decide (i = j)
  | _, _ => false
theorem isO_some {r : Option Value} {i : Int} (h : isO r (some i) = true) : ∃ t, r = some (.int i t) := by
  unfold isO at h
  split at h
  · rename_i e
    cases e
  · rename_i j t i' e
    cases e
    have := of_decide_eq_true h
    subst this
    exact ⟨t, rfl⟩
  · cases h
theorem isO_none {r : Option Value} (h : isO r none = true) : r = none := by
  unfold isO at h
  split at h
  · rfl
  · rename_i e
    cases e
  · cases h
theorem lists_mk (X : K.In h) (G : h.Ns mainGlobals mg) {d : Addr} {es : Array DictEntry} {n : Nat} (g : PySem.W.nsIn K mainGlobals "LISTS" = some (some (.ref d))) (l : K.lookup d = some ⟨.type "dict", none, .dict es n, #[]⟩) (ky : es.toList.all keyB = true) (lo : (d == sysModules) = false)
    (hf : ((List.range 23).all fun k => isO (findBy Value.isInt es ((k : Nat) : Int)) (lstO k)) = true) :
    ∃ d, mg "LISTS" = some (.ref d) ∧ ∀ k : Nat, k ≤ 22 → ∃ r, IDct K d (k : Nat) r ∧ ∀ u, RelV (.int 0) u → RelV (.int (lstN k : Nat)) (r.getD u) := by
  refine ⟨d, PySem.W.mg_of X G g, fun k h2 => ⟨_, ⟨⟨es, n, l, keysI_of ky, rfl⟩, lo⟩, fun u hu => ?_⟩⟩
  have e := List.all_eq_true.mp hf k (List.mem_range.mpr (by omega))
  unfold lstO at e
  unfold lstN
  generalize findBy Value.isInt es ((k : Nat) : Int) = r at e
  have key : ∀ i : Int, isO r (some i) = true → RelV (.int i) (r.getD u) := fun i z => by
    obtain ⟨t, rfl⟩ := isO_some z
    exact ⟨t, rfl⟩
  by_cases h1 : k = 12 ∨ k = 19 ∨ k = 20
  · rw [if_pos h1] at e ⊢
    exact key 1 e
  · rw [if_neg h1] at e ⊢
    by_cases h3 : k = 21
    · rw [if_pos h3] at e ⊢
      exact key 2 e
    · rw [if_neg h3] at e ⊢
      rw [isO_none e]
      exact hu
/-! ### all of it -/
theorem end_mk {fa : Addr} (hfa : mg "answers" = some (.ref fa)) (F : Fns K mg)
    (g_PERCENT : ∃ u, mg "PERCENT" = some u ∧ RelV (.int 100) u) (g_MOST_PERCENT : ∃ u, mg "MOST_PERCENT" = some u ∧ RelV (.int 300) u) (g_NOT_MADE : ∃ u, mg "NOT_MADE" = some u ∧ RelV (.int (-11)) u) (g_NOT_THERE : ∃ u, mg "NOT_THERE" = some u ∧ RelV (.int (-2)) u)
    (g_OUT_OF_RANGE : ∃ u, mg "OUT_OF_RANGE" = some u ∧ RelV (.int (-22)) u) (g_TOO_MANY : ∃ u, mg "TOO_MANY" = some u ∧ RelV (.int (-28)) u) (g_NONE_SUCH : ∃ u, mg "NONE_SUCH" = some u ∧ RelV (.int (-33)) u) (g_MOST_RATE : ∃ u, mg "MOST_RATE" = some u ∧ RelV (.int 100000) u) (g_MOST_NUMBER : ∃ u, mg "MOST_NUMBER" = some u ∧ RelV (.int 1000000) u)
    (t_NOUGHT : ∃ a, mg "NOUGHT" = some (.ref a) ∧ ∀ H, SqT K H a (([0, 1] : List Int).map V.int)) (t_ONE : ∃ a, mg "ONE" = some (.ref a) ∧ ∀ H, SqT K H a (([1, 1] : List Int).map V.int))
    (t_NUMBERS : ∃ a, mg "NUMBERS" = some (.ref a) ∧ ∀ H, SqT K H a (([1, 2, 2, 2, 2, 4, 2, 3, 2, 2, 1, 1, 0, 0, 2, 0, 0, 2, 0, 0, 0, 0, 0] : List Int).map V.int))
    (b_len : mg "len" = none) (b_abs : mg "abs" = none) (b_sum : mg "sum" = none) (b_sorted : mg "sorted" = none) (b_list : mg "list" = none) (b_int : mg "int" = none) (b_range : mg "range" = none) (b_enumerate : mg "enumerate" = none) (b_zip : mg "zip" = none)
    (cO : ∃ C, ClsF K mg "Option" "Option.__init__" s_Option_init ["servers", "rate", "cost"] C) (cS : ∃ C, ClsF K mg "Station" "Station.__init__" s_Station_init ["arrival", "weight", "options"] C)
    (cM : ∃ C, ClsF K mg "Model" "Model.__init__" s_Model_init ["stations", "target", "limit"] C) (cP : ∃ C, ClsF K mg "Planner" "Planner.__init__" s_Planner_init ["model"] C)
    (rf : ∃ C f, PySem.RefX.RefTxt K mg C f)
    (dd : ∃ d, mg "DEEDS" = some (.ref d) ∧ ∀ k : Nat, 1 ≤ k → k ≤ 22 → ∃ f, mg (dName k) = some (.ref f) ∧ IDct K d (k : Nat) (some (.ref f)))
    (dl : ∃ d, mg "LISTS" = some (.ref d) ∧ ∀ k : Nat, k ≤ 22 → ∃ r, IDct K d (k : Nat) r ∧ ∀ u, RelV (.int 0) u → RelV (.int (lstN k : Nat)) (r.getD u)) :
    ∃ fd : FuncData, (∀ (s : Shared) (us : List Value), us.length = (["calls"] : List Str).length → BindsTo s fd ⟨us, []⟩ ((["calls"] : List Str).zip us)) ∧ ∀ base : Heap, K.In base → base.Ns mainGlobals mg → FnOk P w K mg base CX0 30 fa fd ["calls"] (sp_answers K) := by
  obtain ⟨aN, gN, kN⟩ := t_NOUGHT
  obtain ⟨a1, g1, k1⟩ := t_ONE
  obtain ⟨aU, gU, kU⟩ := t_NUMBERS
  obtain ⟨CO, cO⟩ := cO
  obtain ⟨CS, cS⟩ := cS
  obtain ⟨CM, cM⟩ := cM
  obtain ⟨CP, cP⟩ := cP
  obtain ⟨CE, fE, rf⟩ := rf
  obtain ⟨aD, gD, kD⟩ := dd
  obtain ⟨aL, gL, kL⟩ := dl
  have T : Tops K mg ⟨fun i => match i with | 0 => CO | 1 => CS | _ => CM, CE, fE, CP, aN, a1, aU, aL, aD⟩ :=
    { toFns := F, g_PERCENT := g_PERCENT, g_MOST_PERCENT := g_MOST_PERCENT, g_NOT_MADE := g_NOT_MADE, g_NOT_THERE := g_NOT_THERE, g_OUT_OF_RANGE := g_OUT_OF_RANGE, g_TOO_MANY := g_TOO_MANY, g_NONE_SUCH := g_NONE_SUCH, g_MOST_RATE := g_MOST_RATE, g_MOST_NUMBER := g_MOST_NUMBER,
      g_NOUGHT := ref_mk gN, g_ONE := ref_mk g1, g_NUMBERS := ref_mk gU, g_LISTS := ref_mk gL, g_DEEDS := ref_mk gD, k_nought := kN, k_one := k1, k_numbers := kU,
      b_len := b_len, b_abs := b_abs, b_sum := b_sum, b_sorted := b_sorted, b_list := b_list, b_int := b_int, b_range := b_range, b_enumerate := b_enumerate, b_zip := b_zip,
      cls0 := cO.c, cls1 := cS.c, cls2 := cM.c, clsP := cP.c,
      a_servers := cO.n _ (by simp), a_rate := cO.n _ (by simp), a_cost := cO.n _ (by simp), a_arrival := cS.n _ (by simp), a_weight := cS.n _ (by simp), a_options := cS.n _ (by simp),
      a_stations := cM.n _ (by simp), a_target := cM.n _ (by simp), a_limit := cM.n _ (by simp), a_model := cP.n _ (by simp), ref := rf, deeds := kD, lists := kL }
  obtain ⟨f, fd, FA, gA⟩ := F.f_answers
  have ef : f = fa := by
    rw [hfa] at gA
    injection gA with gA
    injection gA with gA
    exact gA.symm
  subst ef
  have answersOk : ∀ base : Heap, FnOk P w K mg base CX0 12 f fd ["calls"] (sp_answers K) := fun base => by
    obtain ⟨fO, fdO, mO, FO⟩ := cO.m
    obtain ⟨fS, fdS, mS, FS⟩ := cS.m
    obtain ⟨fM, fdM, mM, FM⟩ := cM.m
    obtain ⟨fP, fdP, mP, FP⟩ := cP.m
    have MO : MakX P w K mg base 1 "Option" CO (sp_Option K (fun i => match i with | 0 => CO | 1 => CS | _ => CM)) := ⟨fO, fdO, _, mO, mk_Option T.toTxt FO, cO.g, FO.binds fun _ _ _ _ _ _ us hl => match us, hl with | [_, _, _, _], _ => rfl⟩
    have MS : MakX P w K mg base 1 "Station" CS (sp_Station K (fun i => match i with | 0 => CO | 1 => CS | _ => CM)) := ⟨fS, fdS, _, mS, mk_Station T.toTxt FS, cS.g, FS.binds fun _ _ _ _ _ _ us hl => match us, hl with | [_], _ => rfl⟩
    have GM : FnOk P w K mg base CX0 3 fM fdM ["self", "many"] (sp_Model K (fun i => match i with | 0 => CO | 1 => CS | _ => CM)) := cal_Model_init T.toTxt FM MS (fun vs H Q E h => by obtain ⟨a, dx, n, rfl, _⟩ := h; rfl) (pu_Model_init T.toCst)
    have MM : MakX P w K mg base 3 "Model" CM (sp_Model K (fun i => match i with | 0 => CO | 1 => CS | _ => CM)) := ⟨fM, fdM, _, mM, GM, cM.g, FM.binds fun _ _ _ _ _ _ us hl => match us, hl with | [_, _], _ => rfl⟩
    have MP : MakX P w K mg base 1 "Planner" CP (sp_Planner K ⟨fun i => match i with | 0 => CO | 1 => CS | _ => CM, CE, fE, CP, aN, a1, aU, aL, aD⟩) := ⟨fP, fdP, _, mP, mk_Planner T.toTxt FP, cP.g, FP.binds fun _ _ _ _ _ _ us hl => match us, hl with | [_], _ => rfl⟩
    exact ok_answers T FA MP (pr_answer T (pr_answered T MO MM))
  obtain ⟨oc, od, kV, doc, pm, an, cdv, ct, osl, rfl, lk, hcd⟩ := FA.ex
  exact ⟨_, fun s us hu => match us, hu with | [_], _ => .of_eq rfl, fun base _ _ => (answersOk base).mono (by decide)⟩
end
end Pd

/-! ## En2 -/
set_option Elab.async false
set_option linter.all false
open PySem PySem.W PyProof.Rows
set_option maxRecDepth 100000 in
set_option maxHeartbeats 80000000 in
theorem PySem.Challenge.cw_stationplans_s01_answers_holds : PySem.Challenge.rw_stationplans_s01_answers.Holds := by
  w_on; k_headS; (case hw => exact ⟨[.list [.int 13]], by decide +kernel, by decide +kernel⟩)
  k_fillS
  refine L2.walk_specK (r := PySem.Challenge.rw_stationplans_s01_answers) (k := 30) (CX := L2.CX0) (ps := ["calls"]) (sp := Pd.sp_answers) (by decide +kernel) rfl rfl ⟨rfl, by decide, by decide⟩ (fun w h Y => PySem.W.kIn_of Y) ?F ?S (fun _ _ _ _ z => z)
  case F =>
    intro w mg fa h Y KX G hmg
    have f_common := by
      refine' Pd.def_mk (x := "common") (st := Pd.s_common) KX G ?a ?l ?c ?k
      (case a => k_is); (case l => k_is); (case c => k_is); (case k => k_is)
    have f_fraction := by
      refine' Pd.def_mk (x := "fraction") (st := Pd.s_fraction) KX G ?a ?l ?c ?k
      (case a => k_is); (case l => k_is); (case c => k_is); (case k => k_is)
    have f_plus := by
      refine' Pd.def_mk (x := "plus") (st := Pd.s_plus) KX G ?a ?l ?c ?k
      (case a => k_is); (case l => k_is); (case c => k_is); (case k => k_is)
    have f_minus := by
      refine' Pd.def_mk (x := "minus") (st := Pd.s_minus) KX G ?a ?l ?c ?k
      (case a => k_is); (case l => k_is); (case c => k_is); (case k => k_is)
    have f_times := by
      refine' Pd.def_mk (x := "times") (st := Pd.s_times) KX G ?a ?l ?c ?k
      (case a => k_is); (case l => k_is); (case c => k_is); (case k => k_is)
    have f_over := by
      refine' Pd.def_mk (x := "over") (st := Pd.s_over) KX G ?a ?l ?c ?k
      (case a => k_is); (case l => k_is); (case c => k_is); (case k => k_is)
    have f_is_less := by
      refine' Pd.def_mk (x := "is_less") (st := Pd.s_is_less) KX G ?a ?l ?c ?k
      (case a => k_is); (case l => k_is); (case c => k_is); (case k => k_is)
    have f_whole := by
      refine' Pd.def_mk (x := "whole") (st := Pd.s_whole) KX G ?a ?l ?c ?k
      (case a => k_is); (case l => k_is); (case c => k_is); (case k => k_is)
    have f_sum_of := by
      refine' Pd.def_mk (x := "sum_of") (st := Pd.s_sum_of) KX G ?a ?l ?c ?k
      (case a => k_is); (case l => k_is); (case c => k_is); (case k => k_is)
    have f_has_all := by
      refine' Pd.def_mk (x := "has_all") (st := Pd.s_has_all) KX G ?a ?l ?c ?k
      (case a => k_is); (case l => k_is); (case c => k_is); (case k => k_is)
    have f_least_value := by
      refine' Pd.def_mk (x := "least_value") (st := Pd.s_least_value) KX G ?a ?l ?c ?k
      (case a => k_is); (case l => k_is); (case c => k_is); (case k => k_is)
    have f_bound_for := by
      refine' Pd.def_mk (x := "bound_for") (st := Pd.s_bound_for) KX G ?a ?l ?c ?k
      (case a => k_is); (case l => k_is); (case c => k_is); (case k => k_is)
    have f_breakpoints_of := by
      refine' Pd.def_mk (x := "breakpoints_of") (st := Pd.s_breakpoints_of) KX G ?a ?l ?c ?k
      (case a => k_is); (case l => k_is); (case c => k_is); (case k => k_is)
    have f_best_bound := by
      refine' Pd.def_mk (x := "best_bound") (st := Pd.s_best_bound) KX G ?a ?l ?c ?k
      (case a => k_is); (case l => k_is); (case c => k_is); (case k => k_is)
    have f_load_of := by
      refine' Pd.def_mk (x := "load_of") (st := Pd.s_load_of) KX G ?a ?l ?c ?k
      (case a => k_is); (case l => k_is); (case c => k_is); (case k => k_is)
    have f_utilization := by
      refine' Pd.def_mk (x := "utilization") (st := Pd.s_utilization) KX G ?a ?l ?c ?k
      (case a => k_is); (case l => k_is); (case c => k_is); (case k => k_is)
    have f_is_option_allowed := by
      refine' Pd.def_mk (x := "is_option_allowed") (st := Pd.s_is_option_allowed) KX G ?a ?l ?c ?k
      (case a => k_is); (case l => k_is); (case c => k_is); (case k => k_is)
    have f_blocked := by
      refine' Pd.def_mk (x := "blocked") (st := Pd.s_blocked) KX G ?a ?l ?c ?k
      (case a => k_is); (case l => k_is); (case c => k_is); (case k => k_is)
    have f_number_of := by
      refine' Pd.def_mk (x := "number_of") (st := Pd.s_number_of) KX G ?a ?l ?c ?k
      (case a => k_is); (case l => k_is); (case c => k_is); (case k => k_is)
    have f_weighted_number := by
      refine' Pd.def_mk (x := "weighted_number") (st := Pd.s_weighted_number) KX G ?a ?l ?c ?k
      (case a => k_is); (case l => k_is); (case c => k_is); (case k => k_is)
    have f_rows_of := by
      refine' Pd.def_mk (x := "rows_of") (st := Pd.s_rows_of) KX G ?a ?l ?c ?k
      (case a => k_is); (case l => k_is); (case c => k_is); (case k => k_is)
    have f_table_of := by
      refine' Pd.def_mk (x := "table_of") (st := Pd.s_table_of) KX G ?a ?l ?c ?k
      (case a => k_is); (case l => k_is); (case c => k_is); (case k => k_is)
    have f_dominates := by
      refine' Pd.def_mk (x := "dominates") (st := Pd.s_dominates) KX G ?a ?l ?c ?k
      (case a => k_is); (case l => k_is); (case c => k_is); (case k => k_is)
    have f_allowed_options := by
      refine' Pd.def_mk (x := "allowed_options") (st := Pd.s_allowed_options) KX G ?a ?l ?c ?k
      (case a => k_is); (case l => k_is); (case c => k_is); (case k => k_is)
    have f_dominated_options := by
      refine' Pd.def_mk (x := "dominated_options") (st := Pd.s_dominated_options) KX G ?a ?l ?c ?k
      (case a => k_is); (case l => k_is); (case c => k_is); (case k => k_is)
    have f_is_plan := by
      refine' Pd.def_mk (x := "is_plan") (st := Pd.s_is_plan) KX G ?a ?l ?c ?k
      (case a => k_is); (case l => k_is); (case c => k_is); (case k => k_is)
    have f_value_of := by
      refine' Pd.def_mk (x := "value_of") (st := Pd.s_value_of) KX G ?a ?l ?c ?k
      (case a => k_is); (case l => k_is); (case c => k_is); (case k => k_is)
    have f_all_plans := by
      refine' Pd.def_mk (x := "all_plans") (st := Pd.s_all_plans) KX G ?a ?l ?c ?k
      (case a => k_is); (case l => k_is); (case c => k_is); (case k => k_is)
    have f_is_feasible := by
      refine' Pd.def_mk (x := "is_feasible") (st := Pd.s_is_feasible) KX G ?a ?l ?c ?k
      (case a => k_is); (case l => k_is); (case c => k_is); (case k => k_is)
    have f_is_better := by
      refine' Pd.def_mk (x := "is_better") (st := Pd.s_is_better) KX G ?a ?l ?c ?k
      (case a => k_is); (case l => k_is); (case c => k_is); (case k => k_is)
    have f_best_of := by
      refine' Pd.def_mk (x := "best_of") (st := Pd.s_best_of) KX G ?a ?l ?c ?k
      (case a => k_is); (case l => k_is); (case c => k_is); (case k => k_is)
    have f_best_plan := by
      refine' Pd.def_mk (x := "best_plan") (st := Pd.s_best_plan) KX G ?a ?l ?c ?k
      (case a => k_is); (case l => k_is); (case c => k_is); (case k => k_is)
    have f_by_cost := by
      refine' Pd.def_mk (x := "by_cost") (st := Pd.s_by_cost) KX G ?a ?l ?c ?k
      (case a => k_is); (case l => k_is); (case c => k_is); (case k => k_is)
    have f_frontier := by
      refine' Pd.def_mk (x := "frontier") (st := Pd.s_frontier) KX G ?a ?l ?c ?k
      (case a => k_is); (case l => k_is); (case c => k_is); (case k => k_is)
    have f_counted := by
      refine' Pd.def_mk (x := "counted") (st := Pd.s_counted) KX G ?a ?l ?c ?k
      (case a => k_is); (case l => k_is); (case c => k_is); (case k => k_is)
    have f_changed_plans := by
      refine' Pd.def_mk (x := "changed_plans") (st := Pd.s_changed_plans) KX G ?a ?l ?c ?k
      (case a => k_is); (case l => k_is); (case c => k_is); (case k => k_is)
    have f_improved := by
      refine' Pd.def_mk (x := "improved") (st := Pd.s_improved) KX G ?a ?l ?c ?k
      (case a => k_is); (case l => k_is); (case c => k_is); (case k => k_is)
    have f_holds_at := by
      refine' Pd.def_mk (x := "holds_at") (st := Pd.s_holds_at) KX G ?a ?l ?c ?k
      (case a => k_is); (case l => k_is); (case c => k_is); (case k => k_is)
    have f_reserve_of := by
      refine' Pd.def_mk (x := "reserve_of") (st := Pd.s_reserve_of) KX G ?a ?l ?c ?k
      (case a => k_is); (case l => k_is); (case c => k_is); (case k => k_is)
    have f_is_allowed_now := by
      refine' Pd.def_mk (x := "is_allowed_now") (st := Pd.s_is_allowed_now) KX G ?a ?l ?c ?k
      (case a => k_is); (case l => k_is); (case c => k_is); (case k => k_is)
    have f_need := by
      refine' Pd.def_mk (x := "need") (st := Pd.s_need) KX G ?a ?l ?c ?k
      (case a => k_is); (case l => k_is); (case c => k_is); (case k => k_is)
    have f_station_at := by
      refine' Pd.def_mk (x := "station_at") (st := Pd.s_station_at) KX G ?a ?l ?c ?k
      (case a => k_is); (case l => k_is); (case c => k_is); (case k => k_is)
    have f_option_at := by
      refine' Pd.def_mk (x := "option_at") (st := Pd.s_option_at) KX G ?a ?l ?c ?k
      (case a => k_is); (case l => k_is); (case c => k_is); (case k => k_is)
    have f_fraction_in := by
      refine' Pd.def_mk (x := "fraction_in") (st := Pd.s_fraction_in) KX G ?a ?l ?c ?k
      (case a => k_is); (case l => k_is); (case c => k_is); (case k => k_is)
    have f_create := by
      refine' Pd.def_mk (x := "create") (st := Pd.s_create) KX G ?a ?l ?c ?k
      (case a => k_is); (case l => k_is); (case c => k_is); (case k => k_is)
    have f_set_arrival := by
      refine' Pd.def_mk (x := "set_arrival") (st := Pd.s_set_arrival) KX G ?a ?l ?c ?k
      (case a => k_is); (case l => k_is); (case c => k_is); (case k => k_is)
    have f_set_weight := by
      refine' Pd.def_mk (x := "set_weight") (st := Pd.s_set_weight) KX G ?a ?l ?c ?k
      (case a => k_is); (case l => k_is); (case c => k_is); (case k => k_is)
    have f_set_target := by
      refine' Pd.def_mk (x := "set_target") (st := Pd.s_set_target) KX G ?a ?l ?c ?k
      (case a => k_is); (case l => k_is); (case c => k_is); (case k => k_is)
    have f_set_limit := by
      refine' Pd.def_mk (x := "set_limit") (st := Pd.s_set_limit) KX G ?a ?l ?c ?k
      (case a => k_is); (case l => k_is); (case c => k_is); (case k => k_is)
    have f_add_option := by
      refine' Pd.def_mk (x := "add_option") (st := Pd.s_add_option) KX G ?a ?l ?c ?k
      (case a => k_is); (case l => k_is); (case c => k_is); (case k => k_is)
    have f_remove_option := by
      refine' Pd.def_mk (x := "remove_option") (st := Pd.s_remove_option) KX G ?a ?l ?c ?k
      (case a => k_is); (case l => k_is); (case c => k_is); (case k => k_is)
    have f_set_cost := by
      refine' Pd.def_mk (x := "set_cost") (st := Pd.s_set_cost) KX G ?a ?l ?c ?k
      (case a => k_is); (case l => k_is); (case c => k_is); (case k => k_is)
    have f_option_info := by
      refine' Pd.def_mk (x := "option_info") (st := Pd.s_option_info) KX G ?a ?l ?c ?k
      (case a => k_is); (case l => k_is); (case c => k_is); (case k => k_is)
    have f_option_number := by
      refine' Pd.def_mk (x := "option_number") (st := Pd.s_option_number) KX G ?a ?l ?c ?k
      (case a => k_is); (case l => k_is); (case c => k_is); (case k => k_is)
    have f_listed := by
      refine' Pd.def_mk (x := "listed") (st := Pd.s_listed) KX G ?a ?l ?c ?k
      (case a => k_is); (case l => k_is); (case c => k_is); (case k => k_is)
    have f_ask_allowed := by
      refine' Pd.def_mk (x := "ask_allowed") (st := Pd.s_ask_allowed) KX G ?a ?l ?c ?k
      (case a => k_is); (case l => k_is); (case c => k_is); (case k => k_is)
    have f_ask_dominated := by
      refine' Pd.def_mk (x := "ask_dominated") (st := Pd.s_ask_dominated) KX G ?a ?l ?c ?k
      (case a => k_is); (case l => k_is); (case c => k_is); (case k => k_is)
    have f_plan_value := by
      refine' Pd.def_mk (x := "plan_value") (st := Pd.s_plan_value) KX G ?a ?l ?c ?k
      (case a => k_is); (case l => k_is); (case c => k_is); (case k => k_is)
    have f_evaluate := by
      refine' Pd.def_mk (x := "evaluate") (st := Pd.s_evaluate) KX G ?a ?l ?c ?k
      (case a => k_is); (case l => k_is); (case c => k_is); (case k => k_is)
    have f_shown := by
      refine' Pd.def_mk (x := "shown") (st := Pd.s_shown) KX G ?a ?l ?c ?k
      (case a => k_is); (case l => k_is); (case c => k_is); (case k => k_is)
    have f_ask_best := by
      refine' Pd.def_mk (x := "ask_best") (st := Pd.s_ask_best) KX G ?a ?l ?c ?k
      (case a => k_is); (case l => k_is); (case c => k_is); (case k => k_is)
    have f_best_for := by
      refine' Pd.def_mk (x := "best_for") (st := Pd.s_best_for) KX G ?a ?l ?c ?k
      (case a => k_is); (case l => k_is); (case c => k_is); (case k => k_is)
    have f_ask_frontier := by
      refine' Pd.def_mk (x := "ask_frontier") (st := Pd.s_ask_frontier) KX G ?a ?l ?c ?k
      (case a => k_is); (case l => k_is); (case c => k_is); (case k => k_is)
    have f_ask_counts := by
      refine' Pd.def_mk (x := "ask_counts") (st := Pd.s_ask_counts) KX G ?a ?l ?c ?k
      (case a => k_is); (case l => k_is); (case c => k_is); (case k => k_is)
    have f_ask_bound := by
      refine' Pd.def_mk (x := "ask_bound") (st := Pd.s_ask_bound) KX G ?a ?l ?c ?k
      (case a => k_is); (case l => k_is); (case c => k_is); (case k => k_is)
    have f_ask_best_bound := by
      refine' Pd.def_mk (x := "ask_best_bound") (st := Pd.s_ask_best_bound) KX G ?a ?l ?c ?k
      (case a => k_is); (case l => k_is); (case c => k_is); (case k => k_is)
    have f_improvement := by
      refine' Pd.def_mk (x := "improvement") (st := Pd.s_improvement) KX G ?a ?l ?c ?k
      (case a => k_is); (case l => k_is); (case c => k_is); (case k => k_is)
    have f_reserve := by
      refine' Pd.def_mk (x := "reserve") (st := Pd.s_reserve) KX G ?a ?l ?c ?k
      (case a => k_is); (case l => k_is); (case c => k_is); (case k => k_is)
    have f_compare_plans := by
      refine' Pd.def_mk (x := "compare_plans") (st := Pd.s_compare_plans) KX G ?a ?l ?c ?k
      (case a => k_is); (case l => k_is); (case c => k_is); (case k => k_is)
    have f_summary := by
      refine' Pd.def_mk (x := "summary") (st := Pd.s_summary) KX G ?a ?l ?c ?k
      (case a => k_is); (case l => k_is); (case c => k_is); (case k => k_is)
    have f_answered := by
      refine' Pd.def_mk (x := "answered") (st := Pd.s_answered) KX G ?a ?l ?c ?k
      (case a => k_is); (case l => k_is); (case c => k_is); (case k => k_is)
    have f_answer := by
      refine' Pd.def_mk (x := "answer") (st := Pd.s_answer) KX G ?a ?l ?c ?k
      (case a => k_is); (case l => k_is); (case c => k_is); (case k => k_is)
    have f_lists_from := by
      refine' Pd.def_mk (x := "lists_from") (st := Pd.s_lists_from) KX G ?a ?l ?c ?k
      (case a => k_is); (case l => k_is); (case c => k_is); (case k => k_is)
    have f_answers := by
      refine' Pd.def_mk (x := "answers") (st := Pd.s_answers) KX G ?a ?l ?c ?k
      (case a => k_is); (case l => k_is); (case c => k_is); (case k => k_is)
    have g_PERCENT := by
      refine' Pd.int_mk (x := "PERCENT") (i := (100)) KX G ?a
      (case a => k_is)
    have g_MOST_PERCENT := by
      refine' Pd.int_mk (x := "MOST_PERCENT") (i := (300)) KX G ?a
      (case a => k_is)
    have g_NOT_MADE := by
      refine' Pd.int_mk (x := "NOT_MADE") (i := (-11)) KX G ?a
      (case a => k_is)
    have g_NOT_THERE := by
      refine' Pd.int_mk (x := "NOT_THERE") (i := (-2)) KX G ?a
      (case a => k_is)
    have g_OUT_OF_RANGE := by
      refine' Pd.int_mk (x := "OUT_OF_RANGE") (i := (-22)) KX G ?a
      (case a => k_is)
    have g_TOO_MANY := by
      refine' Pd.int_mk (x := "TOO_MANY") (i := (-28)) KX G ?a
      (case a => k_is)
    have g_NONE_SUCH := by
      refine' Pd.int_mk (x := "NONE_SUCH") (i := (-33)) KX G ?a
      (case a => k_is)
    have g_MOST_RATE := by
      refine' Pd.int_mk (x := "MOST_RATE") (i := (100000)) KX G ?a
      (case a => k_is)
    have g_MOST_NUMBER := by
      refine' Pd.int_mk (x := "MOST_NUMBER") (i := (1000000)) KX G ?a
      (case a => k_is)
    have t_NOUGHT := by
      refine' Pd.tup_mk (x := "NOUGHT") (ns := [0, 1]) KX G ?e ?l ?hs ?hv
      (case e => k_is); (case l => k_is); (case hs => decide); (case hv => repeat (first | exact .nil | refine .cons ⟨_, rfl⟩ ?_))
    have t_ONE := by
      refine' Pd.tup_mk (x := "ONE") (ns := [1, 1]) KX G ?e ?l ?hs ?hv
      (case e => k_is); (case l => k_is); (case hs => decide); (case hv => repeat (first | exact .nil | refine .cons ⟨_, rfl⟩ ?_))
    have t_NUMBERS := by
      refine' Pd.tup_mk (x := "NUMBERS") (ns := [1, 2, 2, 2, 2, 4, 2, 3, 2, 2, 1, 1, 0, 0, 2, 0, 0, 2, 0, 0, 0, 0, 0]) KX G ?e ?l ?hs ?hv
      (case e => k_is); (case l => k_is); (case hs => decide); (case hv => repeat (first | exact .nil | refine .cons ⟨_, rfl⟩ ?_))
    have b_len := by
      refine' Pd.none_mk (x := "len") KX G ?e
      (case e => k_is)
    have b_abs := by
      refine' Pd.none_mk (x := "abs") KX G ?e
      (case e => k_is)
    have b_sum := by
      refine' Pd.none_mk (x := "sum") KX G ?e
      (case e => k_is)
    have b_sorted := by
      refine' Pd.none_mk (x := "sorted") KX G ?e
      (case e => k_is)
    have b_list := by
      refine' Pd.none_mk (x := "list") KX G ?e
      (case e => k_is)
    have b_int := by
      refine' Pd.none_mk (x := "int") KX G ?e
      (case e => k_is)
    have b_range := by
      refine' Pd.none_mk (x := "range") KX G ?e
      (case e => k_is)
    have b_enumerate := by
      refine' Pd.none_mk (x := "enumerate") KX G ?e
      (case e => k_is)
    have b_zip := by
      refine' Pd.none_mk (x := "zip") KX G ?e
      (case e => k_is)
    have cO := by
      refine' Pd.cls_mk (x := "Option") (qual := "Option.__init__") (st := Pd.s_Option_init) (as := ["servers", "rate", "cost"]) KX G ?g ?pg ?hd ?po ?sa ?mk ?ini ?isf ?kp ?l ?c ?k ?n
      (case g => k_is); (case pg => k_is); (case hd => k_is); (case po => k_is); (case sa => k_is); (case mk => k_is); (case ini => k_is); (case isf => k_is); (case kp => k_is); (case l => k_is); (case c => k_is); (case k => k_is)
      (case n => (refine' Pd.all3 ?n1 ?n2 ?n3; (case n1 => k_is); (case n2 => k_is); (case n3 => k_is)))
    have cS := by
      refine' Pd.cls_mk (x := "Station") (qual := "Station.__init__") (st := Pd.s_Station_init) (as := ["arrival", "weight", "options"]) KX G ?g ?pg ?hd ?po ?sa ?mk ?ini ?isf ?kp ?l ?c ?k ?n
      (case g => k_is); (case pg => k_is); (case hd => k_is); (case po => k_is); (case sa => k_is); (case mk => k_is); (case ini => k_is); (case isf => k_is); (case kp => k_is); (case l => k_is); (case c => k_is); (case k => k_is)
      (case n => (refine' Pd.all3 ?n1 ?n2 ?n3; (case n1 => k_is); (case n2 => k_is); (case n3 => k_is)))
    have cM := by
      refine' Pd.cls_mk (x := "Model") (qual := "Model.__init__") (st := Pd.s_Model_init) (as := ["stations", "target", "limit"]) KX G ?g ?pg ?hd ?po ?sa ?mk ?ini ?isf ?kp ?l ?c ?k ?n
      (case g => k_is); (case pg => k_is); (case hd => k_is); (case po => k_is); (case sa => k_is); (case mk => k_is); (case ini => k_is); (case isf => k_is); (case kp => k_is); (case l => k_is); (case c => k_is); (case k => k_is)
      (case n => (refine' Pd.all3 ?n1 ?n2 ?n3; (case n1 => k_is); (case n2 => k_is); (case n3 => k_is)))
    have cP := by
      refine' Pd.cls_mk (x := "Planner") (qual := "Planner.__init__") (st := Pd.s_Planner_init) (as := ["model"]) KX G ?g ?pg ?hd ?po ?sa ?mk ?ini ?isf ?kp ?l ?c ?k ?n
      (case g => k_is); (case pg => k_is); (case hd => k_is); (case po => k_is); (case sa => k_is); (case mk => k_is); (case ini => k_is); (case isf => k_is); (case kp => k_is); (case l => k_is); (case c => k_is); (case k => k_is)
      (case n => (refine' Pd.all1 ?n1; (case n1 => k_is)))
    have rf := by
      refine' Pd.ref_all KX G ?aC ?xL ?sa ?ga ?gg ?nb ?a1 ?t1 ?l1 ?c1 ?kC ?eC ?tC ?hC ?iC ?sC
      (case aC => k_is); (case xL => k_is); (case sa => k_is); (case ga => k_is); (case gg => k_is); (case nb => k_is)
      (case a1 => k_is); (case t1 => k_is); (case l1 => k_is); (case c1 => k_is)
      (case kC => k_is); (case eC => k_is); (case tC => k_is); (case hC => k_is); (case iC => k_is); (case sC => first | rfl | k_is)
    have dd := by
      refine' Pd.deeds_mk KX G ?g ?l ?ky ?lo ?hf ?n1 ?n2 ?n3 ?n4 ?n5 ?n6 ?n7 ?n8 ?n9 ?n10 ?n11 ?n12 ?n13 ?n14 ?n15 ?n16 ?n17 ?n18 ?n19 ?n20 ?n21 ?n22
      (case g => k_is); (case l => k_is); (case ky => first | decide +kernel | rfl); (case lo => first | rfl | decide); (case hf => first | decide +kernel | rfl)
      (case n1 => k_is); (case n2 => k_is); (case n3 => k_is); (case n4 => k_is); (case n5 => k_is); (case n6 => k_is); (case n7 => k_is); (case n8 => k_is); (case n9 => k_is); (case n10 => k_is); (case n11 => k_is); (case n12 => k_is); (case n13 => k_is); (case n14 => k_is); (case n15 => k_is); (case n16 => k_is); (case n17 => k_is); (case n18 => k_is); (case n19 => k_is); (case n20 => k_is); (case n21 => k_is); (case n22 => k_is)
    have dl := by
      refine' Pd.lists_mk KX G ?g ?l ?ky ?lo ?hf
      (case g => k_is); (case l => k_is); (case ky => first | decide +kernel | rfl); (case lo => first | rfl | decide); (case hf => first | decide +kernel | rfl)
    exact Pd.end_mk hmg ⟨f_common, f_fraction, f_plus, f_minus, f_times, f_over, f_is_less, f_whole, f_sum_of, f_has_all, f_least_value, f_bound_for, f_breakpoints_of, f_best_bound, f_load_of, f_utilization, f_is_option_allowed, f_blocked, f_number_of, f_weighted_number, f_rows_of, f_table_of, f_dominates, f_allowed_options, f_dominated_options, f_is_plan, f_value_of, f_all_plans, f_is_feasible, f_is_better, f_best_of, f_best_plan, f_by_cost, f_frontier, f_counted, f_changed_plans, f_improved, f_holds_at, f_reserve_of, f_is_allowed_now, f_need, f_station_at, f_option_at, f_fraction_in, f_create, f_set_arrival, f_set_weight, f_set_target, f_set_limit, f_add_option, f_remove_option, f_set_cost, f_option_info, f_option_number, f_listed, f_ask_allowed, f_ask_dominated, f_plan_value, f_evaluate, f_shown, f_ask_best, f_best_for, f_ask_frontier, f_ask_counts, f_ask_bound, f_ask_best_bound, f_improvement, f_reserve, f_compare_plans, f_summary, f_answered, f_answer, f_lists_from, f_answers⟩ g_PERCENT g_MOST_PERCENT g_NOT_MADE g_NOT_THERE g_OUT_OF_RANGE g_TOO_MANY g_NONE_SUCH g_MOST_RATE g_MOST_NUMBER t_NOUGHT t_ONE t_NUMBERS b_len b_abs b_sum b_sorted b_list b_int b_range b_enumerate b_zip cO cS cM cP rf dd dl
  case S =>
    intro K H xs a hO hwi hask hx
    cases hx with
    | cons h1 h2 =>
      cases h2
      cases h1 with
      | lst hs ha =>
        have e := L2.ints_dw a.1 _ ha
        subst e
        obtain ⟨cs, e1, e2, e3, e4⟩ := Pd.asked_flat (l := a.1) hask
        rw [e1] at hs
        refine ⟨_, cs, rfl, hs, e2, e4, fun H' p hp => ?_⟩
        rw [← e3] at hp
        exact .lst (L2.SqL.of hp) (L2.dw_ints _)
#print axioms PySem.Challenge.cw_stationplans_s01_answers_holds

