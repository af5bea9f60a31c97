import PyProof.Rows.All
import Wide.All
import OpenK.AllK
import Wide.FinOn
import PyProof.EqAt
import PyProof.EqKinds
import PyProof.TupleCall
import HandS.ForMost
import HandS.ForExc
import HandS.IsInst
import HandS.More
import HandS.Deep
import HandS.Flow
import HandS.Strs
import HandS.ExcOwn
import HandS.TryOnly
import HandS.ExcIs
import KE.KExcIs
import HandS.SetFor
import PySem.Challenge.RW_ropeclock_k05_whole_walked_by_lightings
set_option Elab.async false
set_option linter.all false
set_option maxRecDepth 100000
set_option maxHeartbeats 4000000
namespace L2.RC
open PySem PySem.Spec PyProof.Rows

/-! ### data in the tracked heap -/
mutual
inductive Rp (K : PySem.W.Frag) (F : Hp) : V → PyData → Prop
  | non : Rp K F .non .none
  | bl (b : Bool) : Rp K F (.bl b) (.bool b)
  | int (i : Int) : Rp K F (.int i) (.int i)
  | str (x : Str) : Rp K F (.str x) (.str x)
  | lst {a : Addr} {xs : List V} {ds : List PyData} : F a = some (.lst xs) → RpAll K F xs ds → Rp K F (.ref a) (.list ds)
  | tup {a : Addr} {xs : List V} {ds : List PyData} : SqT K F a xs → RpAll K F xs ds → Rp K F (.ref a) (.tuple ds)
inductive RpAll (K : PySem.W.Frag) (F : Hp) : List V → List PyData → Prop
  | nil : RpAll K F [] []
  | cons {v : V} {vs : List V} {d : PyData} {ds : List PyData} : Rp K F v d → RpAll K F vs ds → RpAll K F (v :: vs) (d :: ds)
end
theorem seqT_same {K : PySem.W.Frag} {H H' : Hp} {a : Addr} {xs : List V} (e : Same H H') (h : SqT K H a xs) : SqT K H' a xs := by
  rcases h with (h | ⟨o, h⟩) | h
  · exact .inl (.inl (e _ _ h))
  · exact .inl (.inr ⟨o, e _ _ h⟩)
  · exact .inr h
section
variable {K : PySem.W.Frag} {F F' H H' : Hp}
mutual
theorem Rp.mono (s : Same F F') : ∀ (d : PyData) (v : V), Rp K F v d → Rp K F' v d
  | .none, _, h => by cases h; exact .non
  | .bool b, _, h => by cases h; exact .bl b
  | .int i, _, h => by cases h; exact .int i
  | .str x, _, h => by cases h; exact .str x
  | .list ds, _, h => by
    cases h with
    | lst h1 h2 => exact .lst (s _ _ h1) (RpAll.mono s ds _ h2)
  | .tuple ds, _, h => by
    cases h with
    | tup h1 h2 => exact .tup (seqT_same s h1) (RpAll.mono s ds _ h2)
  | .dict _, _, h => by cases h
theorem RpAll.mono (s : Same F F') : ∀ (ds : List PyData) (vs : List V), RpAll K F vs ds → RpAll K F' vs ds
  | [], _, h => by cases h; exact .nil
  | d :: ds, _, h => by
    cases h with
    | cons h1 h2 => exact .cons (Rp.mono s d _ h1) (RpAll.mono s ds _ h2)
end
mutual
theorem Rp.dp (s : Same F H) : ∀ (d : PyData) (v : V), Rp K F v d → Dp K H v d
  | .none, _, h => by cases h; exact .non
  | .bool b, _, h => by cases h; exact .bl b
  | .int i, _, h => by cases h; exact .int i
  | .str x, _, h => by cases h; exact .str x
  | .list ds, _, h => by
    cases h with
    | lst h1 h2 => exact .lst (SqL.of (s _ _ h1)) (RpAll.dp s ds _ h2)
  | .tuple ds, _, h => by
    cases h with
    | tup h1 h2 => exact .tup (seqT_same s h1) (RpAll.dp s ds _ h2)
  | .dict _, _, h => by cases h
theorem RpAll.dp (s : Same F H) : ∀ (ds : List PyData) (vs : List V), RpAll K F vs ds → DpAll K H vs ds
  | [], _, h => by cases h; exact .nil
  | d :: ds, _, h => by
    cases h with
    | cons h1 h2 => exact .cons (Rp.dp s d _ h1) (RpAll.dp s ds _ h2)
end
theorem RpAll.length : ∀ {vs : List V} {ds : List PyData}, RpAll K F vs ds → vs.length = ds.length
  | _, _, .nil => rfl
  | _, _, .cons _ t => congrArg (· + 1) (RpAll.length t)
theorem RpAll.get : ∀ {vs : List V} {ds : List PyData} {i : Nat} {d : PyData}, RpAll K F vs ds → ds[i]? = some d → ∃ v, vs[i]? = some v ∧ Rp K F v d
  | _, _, _, _, .nil, e => by simp at e
  | _, _, 0, _, .cons r _, e => by simp at e; subst e; exact ⟨_, rfl, r⟩
  | _, _, i + 1, d, .cons _ t, e => by
    obtain ⟨v, h1, h2⟩ := RpAll.get (i := i) (d := d) t (by simpa using e)
    exact ⟨v, by simpa using h1, h2⟩
theorem RpAll.getV : ∀ {vs : List V} {ds : List PyData} {i : Nat} {v : V}, RpAll K F vs ds → vs[i]? = some v → ∃ d, ds[i]? = some d ∧ Rp K F v d
  | _, _, _, _, .nil, e => by simp at e
  | _, _, 0, _, .cons r _, e => by simp at e; subst e; exact ⟨_, rfl, r⟩
  | _, _, i + 1, v, .cons _ t, e => by
    obtain ⟨d, h1, h2⟩ := RpAll.getV (i := i) (v := v) t (by simpa using e)
    exact ⟨d, by simpa using h1, h2⟩
theorem RpAll.append : ∀ {vs ws : List V} {ds es : List PyData}, RpAll K F vs ds → RpAll K F ws es → RpAll K F (vs ++ ws) (ds ++ es)
  | _, _, _, _, .nil, h => h
  | _, _, _, _, .cons r t, h => .cons r (RpAll.append t h)
theorem RpAll.take : ∀ {vs : List V} {ds : List PyData} (n : Nat), RpAll K F vs ds → RpAll K F (vs.take n) (ds.take n)
  | _, _, 0, _ => .nil
  | _, _, _ + 1, .nil => .nil
  | _, _, n + 1, .cons r t => .cons r (RpAll.take n t)
theorem RpAll.drop : ∀ {vs : List V} {ds : List PyData} (n : Nat), RpAll K F vs ds → RpAll K F (vs.drop n) (ds.drop n)
  | _, _, 0, h => h
  | _, _, _ + 1, .nil => .nil
  | _, _, n + 1, .cons _ t => RpAll.drop n t
theorem RpAll.set : ∀ {vs : List V} {ds : List PyData} {v : V} {d : PyData} (n : Nat), RpAll K F vs ds → Rp K F v d → RpAll K F (vs.set n v) (ds.set n d)
  | _, _, _, _, _, .nil, _ => .nil
  | _, _, _, _, 0, .cons _ t, r => .cons r t
  | _, _, _, _, n + 1, .cons q t, r => .cons q (RpAll.set n t r)
theorem RpAll.ints : ∀ {vs : List V} {ns : List Int}, RpAll K F vs (ns.map PyData.int) → vs = ns.map V.int
  | _, [], h => by cases h; rfl
  | _, n :: ns, h => by
    cases h with
    | cons h1 h2 => cases h1; exact congrArg _ (RpAll.ints h2)
theorem rpAll_ints : ∀ (ns : List Int), RpAll K F (ns.map V.int) (ns.map PyData.int)
  | [] => .nil
  | n :: ns => .cons (.int n) (rpAll_ints ns)
theorem RpAll.strs : ∀ {vs : List V} {ns : List Str}, RpAll K F vs (ns.map PyData.str) → vs = ns.map V.str
  | _, [], h => by cases h; rfl
  | _, n :: ns, h => by
    cases h with
    | cons h1 h2 => cases h1; exact congrArg _ (RpAll.strs h2)
theorem rpAll_strs : ∀ (ns : List Str), RpAll K F (ns.map V.str) (ns.map PyData.str)
  | [] => .nil
  | n :: ns => .cons (.str n) (rpAll_strs ns)
theorem RpAll.bls : ∀ {vs : List V} {ns : List Bool}, RpAll K F vs (ns.map PyData.bool) → vs = ns.map V.bl
  | _, [], h => by cases h; rfl
  | _, n :: ns, h => by
    cases h with
    | cons h1 h2 => cases h1; exact congrArg _ (RpAll.bls h2)
end

/-! ### growth -/
structure Grow (F H F' H' : Hp) : Prop where
  hh : Same H H'
  ff : Same F F'
  fh : Same F' H'
  ag : ∀ a o, H a = some o → F' a = F a
theorem Grow.refl {F H : Hp} (s : Same F H) : Grow F H F H := ⟨.refl _, .refl _, s, fun _ _ _ => rfl⟩
theorem Grow.trans {F H F1 H1 F2 H2 : Hp} (a : Grow F H F1 H1) (b : Grow F1 H1 F2 H2) : Grow F H F2 H2 :=
  ⟨a.hh.trans b.hh, a.ff.trans b.ff, b.fh, fun c o h => (b.ag c o (a.hh c o h)).trans (a.ag c o h)⟩
theorem same_upd {H : Hp} {p : Addr} {o : HO} (h : H p = none) : Same H (upd H p o) := fun b x e => by
  rw [upd_ne (ne_of_none e h)]
  exact e
theorem none_of {F H : Hp} {p : Addr} (s : Same F H) (h : H p = none) : F p = none := s.free h
/-- a new frozen object -/
theorem Grow.froz {F H : Hp} {p : Addr} {o : HO} (s : Same F H) (h : H p = none) : Grow F H (upd F p o) (upd H p o) :=
  ⟨same_upd h, same_upd (none_of s h), fun b x e => by
    by_cases hb : b = p
    · subst hb; rw [upd_same] at e ⊢; exact e
    · rw [upd_ne hb] at e ⊢; exact s _ _ e, fun a x e => by rw [upd_ne (ne_of_none e h)]⟩
/-- a new object that is not frozen -/
theorem Grow.own {F H : Hp} {p : Addr} {o : HO} (s : Same F H) (h : H p = none) : Grow F H F (upd H p o) :=
  ⟨same_upd h, .refl _, s.trans (same_upd h), fun _ _ _ => rfl⟩

/-! ### the slots of a def as data -/
inductive Sl where
  | un
  | fz (d : PyData)
  | ow (ds : List PyData)
  | br (ds : List PyData)
  | pw (a : Addr) (ds : List PyData)
abbrev DEnv := List Sl
/-- the slot holds a list that the def may change -/
def Sl.own : Sl → Bool
  | .ow _ => true
  | .pw _ _ => true
  | _ => false
def SlOk (K : PySem.W.Frag) (F H0 H : Hp) (o : Option (Option V)) : Sl → Prop
  | .un => True
  | .fz d => ∃ v, o = some (some v) ∧ Rp K F v d
  | .ow ds => ∃ a vs, o = some (some (.ref a)) ∧ H a = some (.lst vs) ∧ F a = none ∧ H0 a = none ∧ RpAll K F vs ds
  | .br ds => ∃ a vs, o = some (some (.ref a)) ∧ SqL K H0 a vs ∧ RpAll K F vs ds
  | .pw a ds => ∃ vs, o = some (some (.ref a)) ∧ H a = some (.lst vs) ∧ F a = none ∧ H0 a = none ∧ RpAll K F vs ds
/-- no two own slots hold one list -/
abbrev SepOk (ρ : DEnv) (σ : St) : Prop := ∀ (i j : Nat) (a : Addr) (s t : Sl), ρ[i]? = some s → ρ[j]? = some t → s.own = true → t.own = true → σ[i]? = some (some (V.ref a)) → σ[j]? = some (some (V.ref a)) → i = j
theorem getD_set {α : Type} {l : List α} {i j : Nat} {x y : α} (h : (l.set i x)[j]? = some y) : (j = i ∧ y = x) ∨ (j ≠ i ∧ l[j]? = some y) := by
  by_cases e : i = j
  · subst e
    by_cases hl : i < l.length
    · rw [List.getElem?_set_self hl] at h
      exact .inl ⟨rfl, (Option.some.inj h).symm⟩
    · rw [List.getElem?_eq_none (by rw [List.length_set]; omega)] at h
      cases h
  · rw [List.getElem?_set_ne e] at h
    exact .inr ⟨fun z => e z.symm, h⟩
section
variable {ρ : DEnv} {σ : St} {i : Nat} {s : Sl}
theorem sep_rho (S : SepOk ρ σ) (h : s.own = false) : SepOk (ρ.set i s) σ := fun j k a x y h1 h2 o1 o2 h3 h4 => by
  rcases getD_set h1 with ⟨_, rfl⟩ | ⟨_, h1⟩
  · rw [h] at o1; cases o1
  · rcases getD_set h2 with ⟨_, rfl⟩ | ⟨_, h2⟩
    · rw [h] at o2; cases o2
    · exact S j k a x y h1 h2 o1 o2 h3 h4
theorem sep_set {o : Option V} (S : SepOk ρ σ) (h : s.own = false) : SepOk (ρ.set i s) (σ.set i o) := fun j k a x y h1 h2 o1 o2 h3 h4 => by
  rcases getD_set h1 with ⟨_, rfl⟩ | ⟨hj, h1⟩
  · rw [h] at o1; cases o1
  · rcases getD_set h2 with ⟨_, rfl⟩ | ⟨hk, h2⟩
    · rw [h] at o2; cases o2
    · rw [List.getElem?_set_ne (Ne.symm hj)] at h3
      rw [List.getElem?_set_ne (Ne.symm hk)] at h4
      exact S j k a x y h1 h2 o1 o2 h3 h4
theorem sep_re {s0 : Sl} (S : SepOk ρ σ) (h : ρ[i]? = some s0) (ho : s0.own = true) : SepOk (ρ.set i s) σ := fun j k a x y h1 h2 o1 o2 h3 h4 => by
  have f : ∀ (j : Nat) (x : Sl), (ρ.set i s)[j]? = some x → x.own = true → ∃ z, ρ[j]? = some z ∧ z.own = true := fun j x h1 o1 => by
    rcases getD_set h1 with ⟨rfl, _⟩ | ⟨_, h1⟩
    · exact ⟨_, h, ho⟩
    · exact ⟨_, h1, o1⟩
  obtain ⟨z1, f1, p1⟩ := f j x h1 o1
  obtain ⟨z2, f2, p2⟩ := f k y h2 o2
  exact S j k a z1 z2 f1 f2 p1 p2 h3 h4
theorem sep_new {p : Addr} (S : SepOk ρ σ) (old : ∀ (j : Nat) (x : Sl), ρ[j]? = some x → x.own = true → σ[j]? ≠ some (some (V.ref p))) : SepOk (ρ.set i s) (σ.set i (some (V.ref p))) := fun j k a x y h1 h2 o1 o2 h3 h4 => by
  have at1 : ∀ j : Nat, (σ.set i (some (V.ref p)))[j]? = some (some (V.ref a)) → j = i → a = p := fun j h e => by
    subst e
    rcases getD_set h with ⟨_, e⟩ | ⟨e, _⟩
    · cases e; rfl
    · exact absurd rfl e
  rcases getD_set h1 with ⟨rfl, _⟩ | ⟨hj, k1⟩
  · have ea := at1 _ h3 rfl
    subst ea
    rcases getD_set h2 with ⟨rfl, _⟩ | ⟨hk, k2⟩
    · rfl
    · rw [List.getElem?_set_ne (Ne.symm hk)] at h4
      exact absurd h4 (old k y k2 o2)
  · rw [List.getElem?_set_ne (Ne.symm hj)] at h3
    rcases getD_set h2 with ⟨rfl, _⟩ | ⟨hk, k2⟩
    · have ea := at1 _ h4 rfl
      subst ea
      exact absurd h3 (old j x k1 o1)
    · rw [List.getElem?_set_ne (Ne.symm hk)] at h4
      exact S j k a x y k1 k2 o1 o2 h3 h4
theorem sep_any {j : Nat} {o : Option V} (S : SepOk ρ σ) (h : ρ[j]? = some s) (ho : s.own = false) : SepOk ρ (σ.set j o) := fun i k a x y h1 h2 o1 o2 h3 h4 => by
  have n1 : j ≠ i := fun z => by rw [z, h1] at h; cases h; rw [ho] at o1; cases o1
  have n2 : j ≠ k := fun z => by rw [z, h2] at h; cases h; rw [ho] at o2; cases o2
  rw [List.getElem?_set_ne n1] at h3
  rw [List.getElem?_set_ne n2] at h4
  exact S i k a x y h1 h2 o1 o2 h3 h4
end
structure StF (K : PySem.W.Frag) (F0 H0 F : Hp) (ρ : DEnv) (σ : St) (H : Hp) : Prop where
  gr : Grow F0 H0 F H
  sl : ∀ (i : Nat) (s : Sl), ρ[i]? = some s → SlOk K F H0 H σ[i]? s
  sep : SepOk ρ σ
  len : ρ.length = σ.length
/-- a value, whose own list (if it is one) need not be frozen -/
def Rw (K : PySem.W.Frag) (F H : Hp) (v : V) (d : PyData) : Prop :=
  Rp K F v d ∨ ∃ a vs ds, v = .ref a ∧ d = .list ds ∧ SqL K H a vs ∧ RpAll K F vs ds
section
variable {K : PySem.W.Frag} {F F' H H' F0 H0 F1 H1 : Hp} {ρ : DEnv} {σ : St} {v : V} {d : PyData}
theorem SlOk.grow {o : Option (Option V)} {s : Sl} (h : SlOk K F H0 H o s) (g : Grow F H F' H') : SlOk K F' H0 H' o s := by
  cases s with
  | un => trivial
  | fz d => obtain ⟨v, e, r⟩ := h; exact ⟨v, e, Rp.mono g.ff _ _ r⟩
  | ow ds => obtain ⟨a, vs, e, r, f, z, q⟩ := h; exact ⟨a, vs, e, g.hh _ _ r, (g.ag _ _ r).trans f, z, RpAll.mono g.ff _ _ q⟩
  | br ds => obtain ⟨a, vs, e, r, q⟩ := h; exact ⟨a, vs, e, r, RpAll.mono g.ff _ _ q⟩
  | pw a ds => obtain ⟨vs, e, r, f, z, q⟩ := h; exact ⟨vs, e, g.hh _ _ r, (g.ag _ _ r).trans f, z, RpAll.mono g.ff _ _ q⟩
theorem StF.grow (s : StF K F0 H0 F ρ σ H) (g : Grow F H F' H') : StF K F0 H0 F' ρ σ H' :=
  ⟨s.gr.trans g, fun i x e => (s.sl i x e).grow g, s.sep, s.len⟩
theorem Rw.grow (h : Rw K F H v d) (g : Grow F H F' H') : Rw K F' H' v d := by
  rcases h with h | ⟨a, vs, ds, e1, e2, h1, h2⟩
  · exact .inl (Rp.mono g.ff _ _ h)
  · exact .inr ⟨a, vs, ds, e1, e2, g.hh.seq h1, RpAll.mono g.ff _ _ h2⟩
theorem Rw.int {i : Int} (h : Rw K F H v (.int i)) : v = .int i := by
  rcases h with h | ⟨_, _, _, _, e, _⟩
  · cases h; rfl
  · cases e
theorem Rw.bool {i : Bool} (h : Rw K F H v (.bool i)) : v = .bl i := by
  rcases h with h | ⟨_, _, _, _, e, _⟩
  · cases h; rfl
  · cases e
theorem Rw.str {i : Str} (h : Rw K F H v (.str i)) : v = .str i := by
  rcases h with h | ⟨_, _, _, _, e, _⟩
  · cases h; rfl
  · cases e
theorem Rw.list {ds : List PyData} (s : Same F H) (h : Rw K F H v (.list ds)) : ∃ a vs, v = .ref a ∧ SqL K H a vs ∧ RpAll K F vs ds := by
  rcases h with h | ⟨a, vs, ds', e1, e2, h1, h2⟩
  · cases h with
    | lst h1 h2 => exact ⟨_, _, rfl, SqL.of (s _ _ h1), h2⟩
  · cases e2; exact ⟨a, vs, e1, h1, h2⟩
theorem Rw.tuple {ds : List PyData} (s : Same F H) (h : Rw K F H v (.tuple ds)) : ∃ a vs, v = .ref a ∧ SqT K H a vs ∧ RpAll K F vs ds := by
  rcases h with h | ⟨a, vs, ds', e1, e2, h1, h2⟩
  · cases h with
    | tup h1 h2 => exact ⟨_, _, rfl, seqT_same s h1, h2⟩
  · cases e2
theorem Rw.dp (s : Same F H) (h : Rw K F H v d) : Dp K H v d := by
  rcases h with h | ⟨a, vs, ds', e1, e2, h1, h2⟩
  · exact Rp.dp s _ _ h
  · subst e1; subst e2; exact .lst h1 (RpAll.dp s _ _ h2)
theorem Rw.isNone (h : Rw K F H v d) : decide (v = .non) = (match d with | .none => true | _ => false) := by
  rcases h with h | ⟨a, vs, ds', e1, e2, h1, h2⟩
  · cases h <;> simp
  · subst e1; subst e2; simp
end

/-! ### outcomes -/
inductive Ex where
  | late (k : Int)
  | noplan
inductive Out where
  | nx (ρ : DEnv)
  | bk (ρ : DEnv)
  | ct (ρ : DEnv)
  | rt (d : PyData)
  | rs (x : Ex)
  | no
/-- what an exception must come to -/
abbrev EXX := Ex → Hp → Prop
def OutOk (K : PySem.W.Frag) (F0 H0 : Hp) (D : Ends) (EX : EXX) : Out → Prop
  | .nx ρ => ∀ F σ H, StF K F0 H0 F ρ σ H → D.nx σ H
  | .bk ρ => ∀ F σ H, StF K F0 H0 F ρ σ H → D.bk σ H
  | .ct ρ => ∀ F σ H, StF K F0 H0 F ρ σ H → D.ct σ H
  | .rt d => ∀ v F H, Grow F0 H0 F H → Rp K F v d → D.rt v H
  | .rs x => EX x H0
  | .no => False

/-! ### judgements -/
abbrev EFn := DEnv → Option PyData
abbrev OFn := DEnv → Option (List PyData)
abbrev TFn := DEnv → Option Bool
abbrev SFn := DEnv → Out
def EsOk (K : PySem.W.Frag) (te : TE) (f : EFn) : Prop := ∀ F0 H0 F ρ σ H Q d, StF K F0 H0 F ρ σ H → f ρ = some d → (∀ v F' H', Grow F H F' H' → Rp K F' v d → Q v H') → te σ H Q
def EwOk (K : PySem.W.Frag) (te : TE) (f : EFn) : Prop := ∀ F0 H0 F ρ σ H Q d, StF K F0 H0 F ρ σ H → f ρ = some d → (∀ v F' H', Grow F H F' H' → Rw K F' H' v d → Q v H') → te σ H Q
def EoOk (K : PySem.W.Frag) (te : TE) (f : OFn) : Prop := ∀ F0 H0 F ρ σ H Q ds, StF K F0 H0 F ρ σ H → f ρ = some ds →
  (∀ p vs F' H', Grow F H F' H' → H p = none → F' p = none → H' p = some (.lst vs) → RpAll K F' vs ds → Q (.ref p) H') → te σ H Q
def ETOk (K : PySem.W.Frag) (tt : TT) (f : TFn) : Prop := ∀ F0 H0 F ρ σ H Q b, StF K F0 H0 F ρ σ H → f ρ = some b → (∀ F' H', Grow F H F' H' → Q b H') → tt σ H Q
def SsOk (K : PySem.W.Frag) (EX : EXX) (ts : TS) (f : SFn) : Prop := ∀ F0 H0 F ρ σ H D, StF K F0 H0 F ρ σ H → OutOk K F0 H0 D EX (f ρ) → ts D σ H
structure DEs (X : Cx) (e : Expr) (f : EFn) : Prop where
  ex : ∃ te, PE X e te ∧ EsOk X.K te f
structure DEw (X : Cx) (e : Expr) (f : EFn) : Prop where
  ex : ∃ te, PE X e te ∧ EwOk X.K te f
structure DEo (X : Cx) (e : Expr) (f : OFn) : Prop where
  ex : ∃ te, PE X e te ∧ EoOk X.K te f
structure DT (X : Cx) (e : Expr) (f : TFn) : Prop where
  ex : ∃ tt, PT X e tt ∧ ETOk X.K tt f
structure DW (X : Cx) (e : Expr) (f : TFn) : Prop where
  ex : ∃ tt, PW X e tt ∧ ETOk X.K tt f
structure DS (X : Cx) (EX : EXX) (st : Stmt) (f : SFn) : Prop where
  ex : ∃ ts, PS X st ts ∧ SsOk X.K EX ts f
structure DSs (X : Cx) (EX : EXX) (st : List Stmt) (f : SFn) : Prop where
  ex : ∃ ts, PSs X st ts ∧ SsOk X.K EX ts f

section
variable {X : Cx} {EX : EXX} {e a b : Expr} {pos : Pos} {f fa fb : EFn}
theorem DEs.w (h : DEs X e f) : DEw X e f := by
  obtain ⟨te, p, h⟩ := h.ex
  exact ⟨te, p, fun F0 H0 F ρ σ H Q d S e q => h F0 H0 F ρ σ H Q d S e fun v F' H' g r => q v F' H' g (.inl r)⟩
def lstD (f : OFn) : EFn := fun ρ => (f ρ).map PyData.list
theorem DEo.s {fo : OFn} (h : DEo X e fo) : DEs X e (lstD fo) := by
  obtain ⟨te, p, h⟩ := h.ex
  refine ⟨te, p, fun F0 H0 F ρ σ H Q d S e q => ?_⟩
  obtain ⟨ds, e1, e2⟩ := Option.map_eq_some_iff.mp e
  subst e2
  refine h F0 H0 F ρ σ H Q ds S e1 fun p vs F' H' g n1 n2 hp r => ?_
  refine q _ (upd F' p (.lst vs)) H' ⟨g.hh, g.ff.trans (same_upd n2), fun b x e => ?_, fun b x e => ?_⟩ (.lst upd_same (RpAll.mono (same_upd n2) _ _ r))
  · by_cases hb : b = p
    · subst hb; rw [upd_same] at e; rw [hp]; exact e
    · rw [upd_ne hb] at e; exact g.fh _ _ e
  · rw [upd_ne (ne_of_none e n1)]; exact g.ag b x e

/-! ### names and constants -/
def eVar (i : Nat) : EFn := fun ρ => match ρ[i]? with | some (.fz d) => some d | _ => none
/-- a list's name, read -/
def eSeq (i : Nat) : EFn := fun ρ => match ρ[i]? with | some (.fz d) => some d | some (.ow ds) => some (.list ds) | some (.br ds) => some (.list ds) | some (.pw _ ds) => some (.list ds) | _ => none
theorem de_var (i : Nat) {x : Str} (hN : X.N[i]? = some x := by rfl) (hv : Vis X.env.scope x := by first | exact Or.inl rfl | exact Or.inr (Or.inl rfl) | exact Or.inr (Or.inr rfl)) (hd : (x == ("__debug__" : Str)) = false := by decide)
    (hcd : (x == ("__classdict__" : Str)) = false := by decide) : DEs X (.Name x pos) (eVar i) := by
  refine ⟨_, pe_var hN hv hd hcd, fun F0 H0 F ρ σ H Q d S e q => ?_⟩
  unfold eVar at e
  cases hs : ρ[i]? with
  | none => rw [hs] at e; cases e
  | some s =>
    rw [hs] at e
    cases s with
    | fz d' =>
      cases e
      obtain ⟨v, e1, r⟩ := S.sl i _ hs
      exact ⟨v, e1, q v F H (.refl S.gr.fh) r⟩
    | un => cases e
    | ow ds => cases e
    | br ds => cases e
    | pw a ds => cases e
theorem de_seq (i : Nat) {x : Str} (hN : X.N[i]? = some x := by rfl) (hv : Vis X.env.scope x := by first | exact Or.inl rfl | exact Or.inr (Or.inl rfl) | exact Or.inr (Or.inr rfl)) (hd : (x == ("__debug__" : Str)) = false := by decide)
    (hcd : (x == ("__classdict__" : Str)) = false := by decide) : DEw X (.Name x pos) (eSeq i) := by
  refine ⟨_, pe_var hN hv hd hcd, fun F0 H0 F ρ σ H Q d S e q => ?_⟩
  unfold eSeq at e
  cases hs : ρ[i]? with
  | none => rw [hs] at e; cases e
  | some s =>
    rw [hs] at e
    cases s with
    | fz d' =>
      cases e
      obtain ⟨v, e1, r⟩ := S.sl i _ hs
      exact ⟨v, e1, q v F H (.refl S.gr.fh) (.inl r)⟩
    | un => cases e
    | ow ds =>
      cases e
      obtain ⟨a, vs, e1, h1, _, _, r⟩ := S.sl i _ hs
      exact ⟨_, e1, q _ F H (.refl S.gr.fh) (.inr ⟨a, vs, ds, rfl, rfl, SqL.of h1, r⟩)⟩
    | br ds =>
      cases e
      obtain ⟨a, vs, e1, h1, r⟩ := S.sl i _ hs
      exact ⟨_, e1, q _ F H (.refl S.gr.fh) (.inr ⟨a, vs, ds, rfl, rfl, S.gr.hh.seq h1, r⟩)⟩
    | pw a ds =>
      cases e
      obtain ⟨vs, e1, h1, _, _, r⟩ := S.sl i _ hs
      exact ⟨_, e1, q _ F H (.refl S.gr.fh) (.inr ⟨a, vs, ds, rfl, rfl, SqL.of h1, r⟩)⟩
def eC (d : PyData) : EFn := fun _ => some d
theorem des_c {te : TE} {v : V} {d : PyData} (h : PE X e (tC v)) (r : ∀ F, Rp X.K F v d) : DEs X e (eC d) :=
  ⟨_, h, fun F0 H0 F ρ σ H Q d' S e q => by cases e; exact q v F H (.refl S.gr.fh) (r F)⟩
theorem de_int {i j} : DEs X (.Constant (.int i) j pos) (eC (.int i)) := des_c (te := tC (.int i)) pe_int fun _ => .int i
theorem de_bl {i j} : DEs X (.Constant (.bool i) j pos) (eC (.bool i)) := des_c (te := tC (.bl i)) pe_bl fun _ => .bl i
theorem de_non {j} : DEs X (.Constant .none j pos) (eC .none) := des_c (te := tC .non) pe_non fun _ => .non
theorem de_str {i j} : DEs X (.Constant (.str i) j pos) (eC (.str i)) := des_c (te := tC (.str i)) pe_str fun _ => .str i
/-- a module's constant: a text -/
theorem de_gstr {x : Str} {z : Str} {t : Tok} (hm : X.mg x = some (.str z t)) (hg : Gl X x := by rfl) (hd : (x == ("__debug__" : Str)) = false := by decide) : DEs X (.Name x pos) (eC (.str z)) := des_c (te := tC (.str z)) (pe_glob (v := .str z) hg hm ⟨_, rfl⟩ hd) fun _ => .str z
/-- a module's constant: a pair of ints -/
theorem de_gpair {x : Str} {c : Addr} {i j : Int} {o : Obj} {n : Nat} {t u : Tok} (hm : X.mg x = some (.ref c)) (hk : X.K.lookup c = some o) (hc : o.cls = .type "tuple") (ho : o.data = .seq #[.int i t, .int j u] n) (hg : Gl X x := by rfl) (hd : (x == ("__debug__" : Str)) = false := by decide) :
    DEs X (.Name x pos) (eC (.tuple [.int i, .int j])) :=
  des_c (te := tC (.ref c)) (pe_glob (v := .ref c) hg hm rfl hd) fun _ => .tup (xs := [.int i, .int j]) (.inr ⟨o, _, n, hk, hc, ho, by show 2 ≤ sizeLine; decide, .cons ⟨_, rfl⟩ (.cons ⟨_, rfl⟩ .nil)⟩) (.cons (.int i) (.cons (.int j) .nil))

/-! ### operators -/
def eBin (g : PyData → PyData → Option PyData) (fa fb : EFn) : EFn := fun ρ => (fa ρ).bind fun x => (fb ρ).bind fun y => g x y
theorem bind2 {g : PyData → PyData → Option PyData} {ρ : DEnv} {d : PyData} (e : eBin g fa fb ρ = some d) : ∃ x y, fa ρ = some x ∧ fb ρ = some y ∧ g x y = some d := by
  unfold eBin at e
  obtain ⟨x, e1, e⟩ := Option.bind_eq_some_iff.mp e
  obtain ⟨y, e2, e⟩ := Option.bind_eq_some_iff.mp e
  exact ⟨x, y, e1, e2, e⟩
def VOk2 (K : PySem.W.Frag) (r : R2) (g : PyData → PyData → Option PyData) : Prop :=
  ∀ F H x y d e z Q, Same F H → Rw K F H x d → Rw K F H y e → g d e = some z → (∀ v F' H', Grow F H F' H' → Rp K F' v z → Q v H') → r x y H Q
theorem es_bin {r : R2} {ta tb : TE} {g : PyData → PyData → Option PyData} (hg : VOk2 X.K r g) (ha : EwOk X.K ta fa) (hb : EwOk X.K tb fb) : EsOk X.K (tOp r ta tb) (eBin g fa fb) := by
  intro F0 H0 F ρ σ H Q d S e q
  obtain ⟨x, y, e1, e2, e3⟩ := bind2 e
  refine ha F0 H0 F ρ σ H _ x S e1 fun v F1 H1 g1 r1 => ?_
  refine hb F0 H0 F1 ρ σ H1 _ y (S.grow g1) e2 fun w F2 H2 g2 r2 => ?_
  exact hg F2 H2 v w x y d Q g2.fh (r1.grow g2) r2 e3 fun u F3 H3 g3 r3 => q u F3 H3 ((g1.trans g2).trans g3) r3
theorem de_bin {op : Operator} {r : R2} {g : PyData → PyData → Option PyData} (ho : OpR X (binaryOp op) r) (hg : VOk2 X.K r g) (ha : DEw X a fa) (hb : DEw X b fb) : DEs X (.BinOp a op b pos) (eBin g fa fb) := by
  obtain ⟨ta, pa, ha⟩ := ha.ex
  obtain ⟨tb, pb, hb⟩ := hb.ex
  exact ⟨_, pe_op ho pa pb, es_bin hg ha hb⟩
def mulOk (i j : Int) : Bool := decide (i.natAbs < 2 ^ 64) || decide (j.natAbs < 2 ^ 64)
def dAdd : PyData → PyData → Option PyData
  | .int i, .int j => some (.int (i + j))
  | .str i, .str j => if i.length + j.length ≤ sizeLine then some (.str (i ++ j)) else none
  | _, _ => none
def dSub : PyData → PyData → Option PyData
  | .int i, .int j => some (.int (i - j))
  | _, _ => none
def dMul : PyData → PyData → Option PyData
  | .int i, .int j => if mulOk i j = true then some (.int (i * j)) else none
  | _, _ => none
def dDiv : PyData → PyData → Option PyData
  | .int i, .int j => if 0 < j ∧ j < 1073741824 then some (.int (i / j)) else none
  | _, _ => none
def dMod : PyData → PyData → Option PyData
  | .int i, .int j => if 0 < j then some (.int (i % j)) else none
  | _, _ => none
def dPow : PyData → PyData → Option PyData
  | .int i, .int j => if 0 ≤ j ∧ j ≤ 1000000 ∧ i.natAbs < 2 ^ 64 then some (.int (i ^ j.toNat)) else none
  | _, _ => none
theorem vok_add {K : PySem.W.Frag} : VOk2 K (fun x y H Q => rI0 (fun i j => .int (i + j)) x y H Q ∨ ∃ i j, x = .str i ∧ y = .str j ∧ i.length + j.length ≤ sizeLine ∧ Q (.str (i ++ j)) H) dAdd := by
  intro F H x y d e z Q s rx ry hz q
  cases d <;> cases e <;> simp only [dAdd, reduceCtorEq, Option.ite_none_right_eq_some, Option.some.injEq] at hz
  · subst hz
    exact .inl ⟨_, _, rx.int, ry.int, q _ F H (.refl s) (.int _)⟩
  · obtain ⟨h1, h2⟩ := hz
    subst h2
    exact .inr ⟨_, _, rx.str, ry.str, h1, q _ F H (.refl s) (.str _)⟩
theorem vok_sub {K : PySem.W.Frag} : VOk2 K (rI0 fun i j => .int (i - j)) dSub := by
  intro F H x y d e z Q s rx ry hz q
  cases d <;> cases e <;> simp only [dSub, reduceCtorEq, Option.some.injEq] at hz
  subst hz
  exact ⟨_, _, rx.int, ry.int, q _ F H (.refl s) (.int _)⟩
theorem natAbs_lt {i : Int} (h : i.natAbs < 2 ^ 64) : -(2 ^ 64) < i ∧ i < 2 ^ 64 := by omega
theorem vok_mul {K : PySem.W.Frag} : VOk2 K (rI CMul fun i j => .int (i * j)) dMul := by
  intro F H x y d e z Q s rx ry hz q
  cases d <;> cases e <;> simp only [dMul, reduceCtorEq, Option.ite_none_right_eq_some, Option.some.injEq] at hz
  obtain ⟨h1, h2⟩ := hz
  subst h2
  refine ⟨_, _, rx.int, ry.int, ?_, q _ F H (.refl s) (.int _)⟩
  unfold mulOk at h1
  rw [Bool.or_eq_true] at h1
  rcases h1 with h1 | h1
  · exact .inl (natAbs_lt (of_decide_eq_true h1))
  · exact .inr (natAbs_lt (of_decide_eq_true h1))
theorem vok_div {K : PySem.W.Frag} : VOk2 K (rI CDiv fun i j => .int (i / j)) dDiv := by
  intro F H x y d e z Q s rx ry hz q
  cases d <;> cases e <;> simp only [dDiv, reduceCtorEq, Option.ite_none_right_eq_some, Option.some.injEq] at hz
  obtain ⟨h1, h2⟩ := hz
  subst h2
  exact ⟨_, _, rx.int, ry.int, h1, q _ F H (.refl s) (.int _)⟩
theorem vok_mod {K : PySem.W.Frag} : VOk2 K (rI (fun _ j => 0 < j) fun i j => .int (i % j)) dMod := by
  intro F H x y d e z Q s rx ry hz q
  cases d <;> cases e <;> simp only [dMod, reduceCtorEq, Option.ite_none_right_eq_some, Option.some.injEq] at hz
  obtain ⟨h1, h2⟩ := hz
  subst h2
  exact ⟨_, _, rx.int, ry.int, h1, q _ F H (.refl s) (.int _)⟩
theorem vok_pow {K : PySem.W.Frag} : VOk2 K (rI CPow fun i j => .int (i ^ j.toNat)) dPow := by
  intro F H x y d e z Q s rx ry hz q
  cases d <;> cases e <;> simp only [dPow, reduceCtorEq, Option.ite_none_right_eq_some, Option.some.injEq] at hz
  obtain ⟨h1, h2⟩ := hz
  subst h2
  exact ⟨_, _, rx.int, ry.int, h1, q _ F H (.refl s) (.int _)⟩
theorem de_add (ha : DEw X a fa) (hb : DEw X b fb) : DEs X (.BinOp a .Add b pos) (eBin dAdd fa fb) := de_bin (op_add.or op_add_str) vok_add ha hb
theorem de_sub (ha : DEw X a fa) (hb : DEw X b fb) : DEs X (.BinOp a .Sub b pos) (eBin dSub fa fb) := de_bin op_sub vok_sub ha hb
theorem de_mul (ha : DEw X a fa) (hb : DEw X b fb) : DEs X (.BinOp a .Mult b pos) (eBin dMul fa fb) := de_bin op_mul vok_mul ha hb
theorem de_div (ha : DEw X a fa) (hb : DEw X b fb) : DEs X (.BinOp a .FloorDiv b pos) (eBin dDiv fa fb) := de_bin op_fdiv vok_div ha hb
theorem de_mod (ha : DEw X a fa) (hb : DEw X b fb) : DEs X (.BinOp a .Mod b pos) (eBin dMod fa fb) := de_bin op_mod vok_mod ha hb
theorem de_pow (ha : DEw X a fa) (hb : DEw X b fb) : DEs X (.BinOp a .Pow b pos) (eBin dPow fa fb) := de_bin op_pow vok_pow ha hb
end
end L2.RC

namespace L2.RC
open PySem PySem.Spec PyProof.Rows
section
variable {X : Cx} {EX : EXX} {e a b c : Expr} {pos : Pos} {f fa fb : EFn}
/-! ### the one reading of a function of the slots -/
def cEs (K : PySem.W.Frag) (f : EFn) : TE := fun σ H Q => ∃ F0 H0 F ρ d, StF K F0 H0 F ρ σ H ∧ f ρ = some d ∧ ∀ v F' H', Grow F H F' H' → Rp K F' v d → Q v H'
def cET (K : PySem.W.Frag) (f : TFn) : TT := fun σ H Q => ∃ F0 H0 F ρ d, StF K F0 H0 F ρ σ H ∧ f ρ = some d ∧ ∀ F' H', Grow F H F' H' → Q d H'
theorem DEs.can (h : DEs X e f) : PE X e (cEs X.K f) := by
  obtain ⟨te, p, h⟩ := h.ex
  exact ⟨fun pins s σ H Q I ⟨F0, H0, F, ρ, d, S, e, q⟩ => p.run pins s σ H Q I (h F0 H0 F ρ σ H Q d S e q)⟩
theorem DT.can {ft : TFn} (h : DT X e ft) : PT X e (cET X.K ft) := by
  obtain ⟨te, p, h⟩ := h.ex
  exact ⟨fun pins s σ H Q I ⟨F0, H0, F, ρ, d, S, e, q⟩ => p.run pins s σ H Q I (h F0 H0 F ρ σ H Q d S e q)⟩

/-! ### comparisons -/
theorem de_cmp {op : CmpOp} {r : R2} {g : PyData → PyData → Option PyData} (ho : OpR X (compareOp op) r) (hg : VOk2 X.K r g) (ha : DEw X a fa) (hb : DEw X b fb) (hm : behindInMarks op b = false) : DEs X (.Compare a [op] [b] pos) (eBin g fa fb) := by
  obtain ⟨ta, pa, ha⟩ := ha.ex
  obtain ⟨tb, pb, hb⟩ := hb.ex
  exact ⟨_, pe_cmpR ho pa pb hm, es_bin hg ha hb⟩
/-- a bool's value as a test -/
def tOf (f : EFn) : TFn := fun ρ => match f ρ with | some (.bool b) => some b | _ => none
theorem tOf_some {ρ : DEnv} {k : Bool} (e : tOf f ρ = some k) : f ρ = some (.bool k) := by
  unfold tOf at e
  cases q : f ρ with
  | none => rw [q] at e; cases e
  | some d =>
    rw [q] at e
    cases d <;> first | (cases e; rfl) | cases e
theorem et_of {K : PySem.W.Frag} {te : TE} (h : EsOk K te f) : ETOk K (tTest te) (tOf f) := by
  intro F0 H0 F ρ σ H Q k S e q
  refine h F0 H0 F ρ σ H _ _ S (tOf_some e) fun v F' H' g r => ?_
  cases r
  exact ⟨k, rfl, q F' H' g⟩
theorem dt_cmp {op : CmpOp} {r : R2} {g : PyData → PyData → Option PyData} (ho : OpR X (compareOp op) r) (hg : VOk2 X.K r g) (ha : DEw X a fa) (hb : DEw X b fb) (hm : behindInMarks op b = false) : DT X (.Compare a [op] [b] pos) (tOf (eBin g fa fb)) := by
  obtain ⟨ta, pa, ha⟩ := ha.ex
  obtain ⟨tb, pb, hb⟩ := hb.ex
  exact ⟨_, pt_cmpR ho pa pb hm, et_of (es_bin hg ha hb)⟩
def dLt : PyData → PyData → Option PyData
  | .int i, .int j => some (.bool (decide (i < j)))
  | _, _ => none
def dLe : PyData → PyData → Option PyData
  | .int i, .int j => some (.bool (decide (i ≤ j)))
  | _, _ => none
def dGt : PyData → PyData → Option PyData
  | .int i, .int j => some (.bool (decide (j < i)))
  | _, _ => none
def dGe : PyData → PyData → Option PyData
  | .int i, .int j => some (.bool (decide (j ≤ i)))
  | _, _ => none
def dEq (x y : PyData) : Option PyData := if (SeqAt.shaped x && SeqAt.shaped y) = true then some (.bool (PyData.eqv x y)) else none
def dNe (x y : PyData) : Option PyData := if (SeqAt.shaped x && SeqAt.shaped y) = true then some (.bool (!PyData.eqv x y)) else none
def isN : PyData → Bool
  | .none => true
  | _ => false
def dIs (x y : PyData) : Option PyData := match y with
  | .none => some (.bool (isN x))
  | _ => none
def dIsNot (x y : PyData) : Option PyData := match y with
  | .none => some (.bool (!isN x))
  | _ => none
def dIn (x y : PyData) : Option PyData := match y with
  | .list ds => if (SeqAt.shaped x && SeqAt.shaped (.list ds)) = true then some (.bool (ds.any fun z => PyData.eqv z x)) else none
  | _ => none
def dNotIn (x y : PyData) : Option PyData := match y with
  | .list ds => if (SeqAt.shaped x && SeqAt.shaped (.list ds)) = true then some (.bool (!ds.any fun z => PyData.eqv z x)) else none
  | _ => none
section
variable {K : PySem.W.Frag}
theorem vok_lt : VOk2 K (rI0 fun i j => .bl (decide (i < j))) dLt := by
  intro F H x y d e z Q s rx ry hz q
  cases d <;> cases e <;> simp only [dLt, reduceCtorEq, Option.some.injEq] at hz
  subst hz
  exact ⟨_, _, rx.int, ry.int, q _ F H (.refl s) (.bl _)⟩
theorem vok_le : VOk2 K (rI0 fun i j => .bl (decide (i ≤ j))) dLe := by
  intro F H x y d e z Q s rx ry hz q
  cases d <;> cases e <;> simp only [dLe, reduceCtorEq, Option.some.injEq] at hz
  subst hz
  exact ⟨_, _, rx.int, ry.int, q _ F H (.refl s) (.bl _)⟩
theorem vok_gt : VOk2 K (rI0 fun i j => .bl (decide (j < i))) dGt := by
  intro F H x y d e z Q s rx ry hz q
  cases d <;> cases e <;> simp only [dGt, reduceCtorEq, Option.some.injEq] at hz
  subst hz
  exact ⟨_, _, rx.int, ry.int, q _ F H (.refl s) (.bl _)⟩
theorem vok_ge : VOk2 K (rI0 fun i j => .bl (decide (j ≤ i))) dGe := by
  intro F H x y d e z Q s rx ry hz q
  cases d <;> cases e <;> simp only [dGe, reduceCtorEq, Option.some.injEq] at hz
  subst hz
  exact ⟨_, _, rx.int, ry.int, q _ F H (.refl s) (.bl _)⟩
theorem vok_eq : VOk2 K (rEqD K) dEq := by
  intro F H x y d e z Q s rx ry hz q
  unfold dEq at hz
  rw [Option.ite_none_right_eq_some, Bool.and_eq_true] at hz
  obtain ⟨⟨h1, h2⟩, h3⟩ := hz
  cases h3
  exact ⟨d, e, rx.dp s, ry.dp s, h1, h2, q _ F H (.refl s) (.bl _)⟩
theorem vok_ne : VOk2 K (rNeD K) dNe := by
  intro F H x y d e z Q s rx ry hz q
  unfold dNe at hz
  rw [Option.ite_none_right_eq_some, Bool.and_eq_true] at hz
  obtain ⟨⟨h1, h2⟩, h3⟩ := hz
  cases h3
  exact ⟨d, e, rx.dp s, ry.dp s, h1, h2, q _ F H (.refl s) (.bl _)⟩
theorem rw_isN {F H : Hp} {v : V} {d : PyData} (h : Rw K F H v d) : decide (v = .non) = isN d := by
  rcases h with h | ⟨a, vs, ds', e1, e2, h1, h2⟩
  · cases h <;> simp [isN]
  · subst e1; subst e2; simp [isN]
theorem rw_none {F H : Hp} {v : V} (h : Rw K F H v .none) : v = .non := by
  rcases h with h | ⟨a, vs, ds', e1, e2, h1, h2⟩
  · cases h; rfl
  · cases e2
theorem vok_is : VOk2 K (fun x y H Q => y = .non ∧ Q (.bl (decide (x = .non))) H) dIs := by
  intro F H x y d e z Q s rx ry hz q
  cases e <;> simp only [dIs, reduceCtorEq, Option.some.injEq] at hz
  subst hz
  refine ⟨rw_none ry, ?_⟩
  rw [rw_isN rx]
  exact q _ F H (.refl s) (.bl _)
theorem vok_isnot : VOk2 K (fun x y H Q => y = .non ∧ Q (.bl (!decide (x = .non))) H) dIsNot := by
  intro F H x y d e z Q s rx ry hz q
  cases e <;> simp only [dIsNot, reduceCtorEq, Option.some.injEq] at hz
  subst hz
  refine ⟨rw_none ry, ?_⟩
  rw [rw_isN rx]
  exact q _ F H (.refl s) (.bl _)
theorem vok_in : VOk2 K (rInD K) dIn := by
  intro F H x y d e z Q s rx ry hz q
  cases e <;> simp only [dIn, reduceCtorEq] at hz
  rw [Option.ite_none_right_eq_some, Bool.and_eq_true] at hz
  obtain ⟨⟨h1, h2⟩, h3⟩ := hz
  cases h3
  exact ⟨d, _, rx.dp s, ry.dp s, h1, h2, q _ F H (.refl s) (.bl _)⟩
theorem vok_notin : VOk2 K (rNotInD K) dNotIn := by
  intro F H x y d e z Q s rx ry hz q
  cases e <;> simp only [dNotIn, reduceCtorEq] at hz
  rw [Option.ite_none_right_eq_some, Bool.and_eq_true] at hz
  obtain ⟨⟨h1, h2⟩, h3⟩ := hz
  cases h3
  exact ⟨d, _, rx.dp s, ry.dp s, h1, h2, q _ F H (.refl s) (.bl _)⟩
end
theorem hu65 {A : Around} {k : Nat} (hr : Room k A) : A.units + 65 < cLine := by have := hr.un; omega
theorem hu64 {A : Around} {k : Nat} (hr : Room k A) : A.units + 64 < cLine := hr.units

/-! ### and, or, not, if -/
def eAnd (fa fb : EFn) : EFn := fun ρ => match fa ρ with | some (.bool true) => fb ρ | some (.bool false) => some (.bool false) | _ => none
def eOr (fa fb : EFn) : EFn := fun ρ => match fa ρ with | some (.bool true) => some (.bool true) | some (.bool false) => fb ρ | _ => none
def eNot (fa : EFn) : EFn := fun ρ => match fa ρ with | some (.bool k) => some (.bool !k) | _ => none
def tAnd2 (fa fb : TFn) : TFn := fun ρ => match fa ρ with | some true => fb ρ | some false => some false | none => none
def tOr2 (fa fb : TFn) : TFn := fun ρ => match fa ρ with | some true => some true | some false => fb ρ | none => none
def tNot2 (fa : TFn) : TFn := fun ρ => (fa ρ).map (!·)
def eIf (ft : TFn) (fa fb : EFn) : EFn := fun ρ => match ft ρ with | some true => fa ρ | some false => fb ρ | none => none
variable {rest : List Expr} {ft fu : TFn}
theorem de_and (ha : DEs X a fa) (hb : DEs X (.BoolOp .And (b :: rest) pos) fb) : DEs X (.BoolOp .And (a :: b :: rest) pos) (eAnd fa fb) := by
  obtain ⟨ta, pa, ha⟩ := ha.ex
  obtain ⟨tb, pb, hb⟩ := hb.ex
  refine ⟨_, pe_and pa pb, fun F0 H0 F ρ σ H Q d S e q => ?_⟩
  unfold eAnd at e
  cases h : fa ρ with
  | none => rw [h] at e; cases e
  | some d' =>
    rw [h] at e
    refine ha F0 H0 F ρ σ H _ d' S h fun v F1 H1 g r => ?_
    cases d' <;> first | cases e | skip
    rename_i k
    cases r
    refine ⟨k, rfl, ?_⟩
    cases k with
    | true => exact iteT (hb F0 H0 F1 ρ σ H1 Q d (S.grow g) e fun v F2 H2 g2 r2 => q v F2 H2 (g.trans g2) r2)
    | false => cases e; exact iteF (q _ F1 H1 g (.bl _))
theorem de_or (ha : DEs X a fa) (hb : DEs X (.BoolOp .Or (b :: rest) pos) fb) : DEs X (.BoolOp .Or (a :: b :: rest) pos) (eOr fa fb) := by
  obtain ⟨ta, pa, ha⟩ := ha.ex
  obtain ⟨tb, pb, hb⟩ := hb.ex
  refine ⟨_, pe_or pa pb, fun F0 H0 F ρ σ H Q d S e q => ?_⟩
  unfold eOr at e
  cases h : fa ρ with
  | none => rw [h] at e; cases e
  | some d' =>
    rw [h] at e
    refine ha F0 H0 F ρ σ H _ d' S h fun v F1 H1 g r => ?_
    cases d' <;> first | cases e | skip
    rename_i k
    cases r
    refine ⟨k, rfl, ?_⟩
    cases k with
    | false => exact iteF (hb F0 H0 F1 ρ σ H1 Q d (S.grow g) e fun v F2 H2 g2 r2 => q v F2 H2 (g.trans g2) r2)
    | true => cases e; exact iteT (q _ F1 H1 g (.bl _))
theorem de_one {op} (ha : DEs X a fa) : DEs X (.BoolOp op [a] pos) fa := by
  obtain ⟨ta, pa, ha⟩ := ha.ex
  exact ⟨_, pe_one pa, ha⟩
theorem de_not (ha : DEs X a fa) : DEs X (.UnaryOp .Not a pos) (eNot fa) := by
  obtain ⟨ta, pa, ha⟩ := ha.ex
  refine ⟨_, pe_not pa, fun F0 H0 F ρ σ H Q d S e q => ?_⟩
  unfold eNot at e
  cases h : fa ρ with
  | none => rw [h] at e; cases e
  | some d' =>
    rw [h] at e
    refine ha F0 H0 F ρ σ H _ d' S h fun v F1 H1 g r => ?_
    cases d' <;> first | (cases e; done) | skip
    rename_i k
    cases e
    cases r
    exact ⟨k, rfl, q _ F1 H1 g (.bl _)⟩
theorem et_and {K : PySem.W.Frag} {tx ty : TT} (ha : ETOk K tx ft) (hb : ETOk K ty fu) : ETOk K (tAnd tx ty) (tAnd2 ft fu) := by
  intro F0 H0 F ρ σ H Q d S e q
  unfold tAnd2 at e
  cases h : ft ρ with
  | none => rw [h] at e; cases e
  | some k =>
    rw [h] at e
    refine ha F0 H0 F ρ σ H _ k S h fun F1 H1 g => ?_
    cases k with
    | true => exact iteT (hb F0 H0 F1 ρ σ H1 Q d (S.grow g) e fun F2 H2 g2 => q F2 H2 (g.trans g2))
    | false => cases e; exact iteF (q F1 H1 g)
theorem et_or {K : PySem.W.Frag} {tx ty : TT} (ha : ETOk K tx ft) (hb : ETOk K ty fu) : ETOk K (tOr tx ty) (tOr2 ft fu) := by
  intro F0 H0 F ρ σ H Q d S e q
  unfold tOr2 at e
  cases h : ft ρ with
  | none => rw [h] at e; cases e
  | some k =>
    rw [h] at e
    refine ha F0 H0 F ρ σ H _ k S h fun F1 H1 g => ?_
    cases k with
    | false => exact iteF (hb F0 H0 F1 ρ σ H1 Q d (S.grow g) e fun F2 H2 g2 => q F2 H2 (g.trans g2))
    | true => cases e; exact iteT (q F1 H1 g)
theorem dw_and1 (ha : DT X a ft) : DW X (.BoolOp .And [a] pos) ft := by
  obtain ⟨ta, pa, ha⟩ := ha.ex
  exact ⟨_, pw_and1 pa, ha⟩
theorem dw_or1 (ha : DT X a ft) : DW X (.BoolOp .Or [a] pos) ft := by
  obtain ⟨ta, pa, ha⟩ := ha.ex
  exact ⟨_, pw_or1 pa, ha⟩
theorem dw_and (ha : DT X a ft) (hb : DW X (.BoolOp .And (b :: rest) pos) fu) : DW X (.BoolOp .And (a :: b :: rest) pos) (tAnd2 ft fu) := by
  obtain ⟨ta, pa, ha⟩ := ha.ex
  obtain ⟨tb, pb, hb⟩ := hb.ex
  exact ⟨_, pw_and pa pb, et_and ha hb⟩
theorem dw_or (ha : DT X a ft) (hb : DW X (.BoolOp .Or (b :: rest) pos) fu) : DW X (.BoolOp .Or (a :: b :: rest) pos) (tOr2 ft fu) := by
  obtain ⟨ta, pa, ha⟩ := ha.ex
  obtain ⟨tb, pb, hb⟩ := hb.ex
  exact ⟨_, pw_or pa pb, et_or ha hb⟩
theorem dt_w (h : DW X e ft) : DT X e ft := by
  obtain ⟨ta, pa, ha⟩ := h.ex
  exact ⟨_, pa.pt, ha⟩
theorem dt_not (ha : DT X a ft) : DT X (.UnaryOp .Not a pos) (tNot2 ft) := by
  obtain ⟨ta, pa, ha⟩ := ha.ex
  refine ⟨_, pt_not pa, fun F0 H0 F ρ σ H Q d S e q => ?_⟩
  obtain ⟨k, e1, e2⟩ := Option.map_eq_some_iff.mp e
  subst e2
  exact ha F0 H0 F ρ σ H _ k S e1 q
theorem dt_val (h : DEs X e f) (he : ∀ whole, isTrue e X.env whole = (do let v ← whole; standAt e.pos; holding [v] (truthy v)) := by intro _; rfl) : DT X e (tOf f) := by
  obtain ⟨te, p, h⟩ := h.ex
  exact ⟨_, pt_val p he, et_of h⟩
theorem de_if (hc : DT X c ft) (ha : DEs X a fa) (hb : DEs X b fb) : DEs X (.IfExp c a b pos) (eIf ft fa fb) := by
  obtain ⟨tc, pc, hc⟩ := hc.ex
  obtain ⟨ta, pa, ha⟩ := ha.ex
  obtain ⟨tb, pb, hb⟩ := hb.ex
  refine ⟨_, pe_ifExp pc pa pb, fun F0 H0 F ρ σ H Q d S e q => ?_⟩
  unfold eIf at e
  cases h : ft ρ with
  | none => rw [h] at e; cases e
  | some k =>
    rw [h] at e
    refine hc F0 H0 F ρ σ H _ k S h fun F1 H1 g => ?_
    cases k with
    | true => exact iteT (ha F0 H0 F1 ρ σ H1 Q d (S.grow g) e fun v F2 H2 g2 r => q v F2 H2 (g.trans g2) r)
    | false => exact iteF (hb F0 H0 F1 ρ σ H1 Q d (S.grow g) e fun v F2 H2 g2 r => q v F2 H2 (g.trans g2) r)

/-! ### an item -/
theorem atI_rp {K : PySem.W.Frag} {F : Hp} {vs : List V} {ds : List PyData} {i : Int} {d : PyData} (r : RpAll K F vs ds) (e : atI ds i = some d) : ∃ v, atI vs i = some v ∧ Rp K F v d := by
  unfold atI at e ⊢
  rw [r.length]
  obtain ⟨j, e1, e2⟩ := Option.bind_eq_some_iff.mp e
  obtain ⟨v, h1, h2⟩ := r.get e2
  exact ⟨v, by rw [e1]; exact h1, h2⟩
def dIx (x y : PyData) : Option PyData := match x, y with
  | .list ds, .int i => atI ds i
  | .tuple ds, .int i => atI ds i
  | .str z, .int i => if z.length ≤ sizeLine then (atI z.cps.toList i).map fun c => .str ⟨#[c]⟩ else none
  | _, _ => none
theorem vok_ix {K : PySem.W.Frag} : VOk2 K (rIx K) dIx := by
  intro F H x y d e z Q s rx ry hz q
  cases d <;> cases e <;> simp only [dIx, reduceCtorEq] at hz
  · rename_i zs i
    rw [Option.ite_none_right_eq_some] at hz
    obtain ⟨h1, h2⟩ := hz
    obtain ⟨c, h3, h4⟩ := Option.map_eq_some_iff.mp h2
    subst h4
    exact .inr (.inr ⟨zs, i, c, rx.str, ry.int, h1, h3, q _ F H (.refl s) (.str _)⟩)
  · obtain ⟨p, vs, rfl, h1, h2⟩ := rx.list s
    obtain ⟨v, h3, h4⟩ := atI_rp h2 hz
    exact .inl ⟨p, vs, _, v, rfl, ry.int, h1, h3, q v F H (.refl s) h4⟩
  · obtain ⟨p, vs, rfl, h1, h2⟩ := rx.tuple s
    obtain ⟨v, h3, h4⟩ := atI_rp h2 hz
    exact .inr (.inl ⟨p, vs, _, v, rfl, ry.int, h1, h3, q v F H (.refl s) h4⟩)
theorem de_ix (ha : DEw X a fa) (hb : DEw X b fb) (hs : PlainIx b := by exact fun _ _ => rfl) : DEs X (.Subscript a b pos) (eBin dIx fa fb) := by
  obtain ⟨ta, pa, ha⟩ := ha.ex
  obtain ⟨tb, pb, hb⟩ := hb.ex
  exact ⟨_, pe_ix ix_seq pa pb hs, es_bin vok_ix ha hb⟩

/-! ### -x -/
def eNeg (fa : EFn) : EFn := fun ρ => match fa ρ with | some (.int i) => some (.int (-i)) | _ => none
theorem de_neg (ha : DEs X a fa) : DEs X (.UnaryOp .USub a pos) (eNeg fa) := by
  obtain ⟨ta, pa, ha⟩ := ha.ex
  refine ⟨_, pe_un un_neg pa, fun F0 H0 F ρ σ H Q d S e q => ?_⟩
  unfold eNeg at e
  cases h : fa ρ with
  | none => rw [h] at e; cases e
  | some d' =>
    rw [h] at e
    refine ha F0 H0 F ρ σ H _ d' S h fun v F1 H1 g r => ?_
    cases d' <;> first | (cases e; done) | skip
    cases e
    cases r
    exact ⟨_, rfl, q _ F1 H1 g (.int _)⟩

/-! ### displays -/
abbrev AFn := DEnv → Option (List PyData)
def evs : List EFn → AFn
  | [], _ => some []
  | f :: fs, ρ => (f ρ).bind fun d => (evs fs ρ).map (d :: ·)
def EaOk (K : PySem.W.Frag) (ta : TA) (n : Nat) (f : AFn) : Prop := ∀ F0 H0 F ρ σ H Q ds, StF K F0 H0 F ρ σ H → f ρ = some ds → (∀ vs F' H', Grow F H F' H' → RpAll K F' vs ds → vs.length = n → Q vs H') → ta σ H Q
structure DA (X : Cx) (es : List Expr) (f : AFn) : Prop where
  ex : ∃ ta, PA X es ta ∧ EaOk X.K ta es.length f
theorem da_nil : DA X [] (evs []) := ⟨_, pa_nil, fun F0 H0 F ρ σ H Q ds S e q => by cases e; exact q [] F H (.refl S.gr.fh) .nil rfl⟩
theorem da_cons {es : List Expr} {fs : List EFn} (ha : DEs X a fa) (hr : DA X es (evs fs)) (hs : starEach (a :: es) X.env = (false, eval a X.env) :: starEach es X.env := by rfl) : DA X (a :: es) (evs (fa :: fs)) := by
  obtain ⟨ta, pa, ha⟩ := ha.ex
  obtain ⟨tr, pr, hr⟩ := hr.ex
  refine ⟨_, pa_cons pa pr hs, fun F0 H0 F ρ σ H Q ds S e q => ?_⟩
  obtain ⟨d, e1, e2⟩ := Option.bind_eq_some_iff.mp (show (fa ρ).bind (fun d => (evs fs ρ).map (d :: ·)) = some ds from e)
  obtain ⟨es', e3, e4⟩ := Option.map_eq_some_iff.mp e2
  subst e4
  refine ha F0 H0 F ρ σ H _ d S e1 fun v F1 H1 g r => ?_
  refine hr F0 H0 F1 ρ σ H1 _ es' (S.grow g) e3 fun vs F2 H2 g2 r2 hl => ?_
  exact q (v :: vs) F2 H2 (g.trans g2) (.cons (Rp.mono g2.ff _ _ r) r2) (by rw [List.length_cons, hl, List.length_cons])
def eTup (f : AFn) : EFn := fun ρ => (f ρ).map .tuple
theorem small100 {n : Nat} (h : n ≤ 100) : n ≤ sizeLine := by rw [sizeLine_eq]; omega
theorem de_tup {es : List Expr} {x1} {fs : AFn} (h : DA X es fs) (hn : es.length ≤ 100 := by decide) : DEs X (.Tuple es x1 pos) (eTup fs) := by
  obtain ⟨ta, pa, h⟩ := h.ex
  refine ⟨_, pe_tup pa, fun F0 H0 F ρ σ H Q d S e q => ?_⟩
  obtain ⟨ds, e1, e2⟩ := Option.map_eq_some_iff.mp e
  subst e2
  refine h F0 H0 F ρ σ H _ ds S e1 fun vs F1 H1 g r hl => ⟨by rw [hl]; exact small100 hn, fun p hp => ?_⟩
  have g2 := Grow.froz (o := .tup vs) g.fh hp
  exact q _ _ _ (g.trans g2) (.tup (SqT.of upd_same) (RpAll.mono g2.ff _ _ r))
theorem de_lst {es : List Expr} {fs : AFn} (h : DA X es fs) (hn : es.length ≤ 100 := by decide) : DEo X (.List es pos) fs := by
  obtain ⟨ta, pa, h⟩ := h.ex
  refine ⟨_, pe_lst pa, fun F0 H0 F ρ σ H Q ds S e q => ?_⟩
  refine h F0 H0 F ρ σ H _ ds S e fun vs F1 H1 g r hl => ⟨by rw [hl]; exact small100 hn, fun p hp => ?_⟩
  have hp0 : H p = none := g.hh.free hp
  exact q p vs F1 _ (g.trans (Grow.own g.fh hp)) hp0 (none_of g.fh hp) upd_same r

/-! ### list + list, slices, list(..) -/
def rCatQ (K : PySem.W.Frag) : R2 := fun x y H Q => ∃ l b xs zs, x = .ref l ∧ y = .ref b ∧ SqL K H l xs ∧ SqL K H b zs ∧ xs.length + zs.length ≤ sizeLine ∧ ∀ p, H p = none → Q (.ref p) (upd H p (.lst (xs ++ zs)))
def oCat (fa fb : EFn) : OFn := fun ρ => match fa ρ with
  | some (.list xs) => (match fb ρ with | some (.list ys) => if xs.length + ys.length ≤ 1000000 then some (xs ++ ys) else none | _ => none)
  | _ => none
theorem small1m {n : Nat} (h : n ≤ 1000000) : n ≤ sizeLine := by rw [sizeLine_eq]; omega
theorem small1l {n : Nat} (h : n ≤ 1000000) : n < sizeLine := by rw [sizeLine_eq]; omega
theorem de_cat (ha : DEs X a fa) (hb : DEs X b fb) : DEo X (.BinOp a .Add b pos) (oCat fa fb) := by
  obtain ⟨ta, pa, ha⟩ := ha.ex
  obtain ⟨tb, pb, hb⟩ := hb.ex
  refine ⟨_, pe_op op_cat pa pb, fun F0 H0 F ρ σ H Q ds S e q => ?_⟩
  unfold oCat at e
  cases h1 : fa ρ with
  | none => rw [h1] at e; cases e
  | some x =>
    rw [h1] at e
    cases x <;> first | (cases e; done) | skip
    rename_i xs
    cases h2 : fb ρ with
    | none => rw [h2] at e; cases e
    | some y =>
      rw [h2] at e
      cases y <;> first | (cases e; done) | skip
      rename_i ys
      have e' : (if xs.length + ys.length ≤ 1000000 then some (xs ++ ys) else none) = some ds := e
      rw [Option.ite_none_right_eq_some] at e'
      obtain ⟨hl, e3⟩ := e'
      cases e3
      refine ha F0 H0 F ρ σ H _ _ S h1 fun v F1 H1 g1 r1 => ?_
      refine hb F0 H0 F1 ρ σ H1 _ _ (S.grow g1) h2 fun w F2 H2 g2 r2 => ?_
      cases r1 with
      | lst f1 a1 =>
        cases r2 with
        | lst f2 a2 =>
          refine ⟨_, _, _, _, rfl, rfl, g2.fh _ _ (g2.ff _ _ f1), g2.fh _ _ f2, by rw [a1.length, a2.length]; exact small1m hl, fun p hp => ?_⟩
          have g12 := g1.trans g2
          exact q p _ F2 _ (g12.trans (Grow.own g12.fh hp)) (g12.hh.free hp) (none_of g12.fh hp) upd_same ((RpAll.mono g2.ff _ _ a1).append a2)
/-- a slice's end -/
abbrev PFn := DEnv → Option (Option Int)
def EpOk (K : PySem.W.Frag) (to : TO) (f : PFn) : Prop := ∀ F0 H0 F ρ σ H Q o, StF K F0 H0 F ρ σ H → f ρ = some o → (∀ F' H', Grow F H F' H' → Q o H') → to σ H Q
structure DP (X : Cx) (e : Option Expr) (f : PFn) : Prop where
  ex : ∃ to, PO X e to ∧ EpOk X.K to f
def pNone : PFn := fun _ => some none
def pSome (f : EFn) : PFn := fun ρ => match f ρ with | some (.int i) => some (some i) | _ => none
theorem dp_none : DP X none pNone := ⟨_, po_none, fun F0 H0 F ρ σ H Q o S e q => by cases e; exact q F H (.refl S.gr.fh)⟩
theorem dp_some (h : DEs X e f) : DP X (some e) (pSome f) := by
  obtain ⟨te, p, h⟩ := h.ex
  refine ⟨_, po_some p, fun F0 H0 F ρ σ H Q o S e q => ?_⟩
  unfold pSome at e
  cases h1 : f ρ with
  | none => rw [h1] at e; cases e
  | some x =>
    rw [h1] at e
    cases x <;> first | (cases e; done) | skip
    cases e
    refine h F0 H0 F ρ σ H _ _ S h1 fun v F1 H1 g1 r1 => ?_
    cases r1
    exact ⟨_, rfl, q F1 H1 g1⟩
def cutD (xs : List PyData) (lo hi : Option Int) : List PyData := (xs.drop (HT.sIx xs.length 0 lo)).take (HT.sIx xs.length xs.length hi - HT.sIx xs.length 0 lo)
theorem cut_rp {K : PySem.W.Frag} {F : Hp} {vs : List V} {ds : List PyData} (r : RpAll K F vs ds) (lo hi : Option Int) : RpAll K F (cutV vs lo hi) (cutD ds lo hi) := by
  unfold cutV cutD
  rw [r.length]
  exact (r.drop _).take _
def oSl (fa : EFn) (fl fh : PFn) : OFn := fun ρ => match fa ρ with
  | some (.list xs) => (fl ρ).bind fun lo => (fh ρ).bind fun hi => some (cutD xs lo hi)
  | _ => none
def eSl (fa : EFn) (fl fh : PFn) : EFn := fun ρ => match fa ρ with
  | some (.str z) => (fl ρ).bind fun lo => (fh ρ).bind fun hi => if z.length ≤ 1000000 then some (.str (cutS z lo hi)) else none
  | _ => none
theorem de_slL {lo hi : Option Expr} {p2} {fl fh : PFn} (ha : DEw X a fa) (hl : DP X lo fl) (hh : DP X hi fh) : DEo X (.Subscript a (.Slice lo hi none p2) pos) (oSl fa fl fh) := by
  obtain ⟨ta, pa, ha⟩ := ha.ex
  obtain ⟨tl, pl, hl⟩ := hl.ex
  obtain ⟨th, ph, hh⟩ := hh.ex
  refine ⟨_, pe_slice sl_list pa pl ph, fun F0 H0 F ρ σ H Q ds S e q => ?_⟩
  unfold oSl at e
  cases h1 : fa ρ with
  | none => rw [h1] at e; cases e
  | some x =>
    rw [h1] at e
    cases x <;> first | (cases e; done) | skip
    rename_i xs
    obtain ⟨l, e1, e2⟩ := Option.bind_eq_some_iff.mp (show (fl ρ).bind (fun lo => (fh ρ).bind fun hi => some (cutD xs lo hi)) = some ds from e)
    obtain ⟨h, e3, e4⟩ := Option.bind_eq_some_iff.mp e2
    cases e4
    refine ha F0 H0 F ρ σ H _ _ S h1 fun v F1 H1 g1 r1 => ?_
    refine hl F0 H0 F1 ρ σ H1 _ l (S.grow g1) e1 fun F2 H2 g2 => ?_
    refine hh F0 H0 F2 ρ σ H2 _ h ((S.grow g1).grow g2) e3 fun F3 H3 g3 => ?_
    have g23 := g2.trans g3
    obtain ⟨a', vs, rfl, q1, q2⟩ := (r1.grow g23).list g3.fh
    refine ⟨a', vs, rfl, q1, fun p hp => ?_⟩
    have g := g1.trans g23
    exact q p _ F3 _ (g.trans (Grow.own g.fh hp)) (g.hh.free hp) (none_of g.fh hp) upd_same (cut_rp q2 l h)
theorem de_slS {lo hi : Option Expr} {p2} {fl fh : PFn} (ha : DEw X a fa) (hl : DP X lo fl) (hh : DP X hi fh) : DEs X (.Subscript a (.Slice lo hi none p2) pos) (eSl fa fl fh) := by
  obtain ⟨ta, pa, ha⟩ := ha.ex
  obtain ⟨tl, pl, hl⟩ := hl.ex
  obtain ⟨th, ph, hh⟩ := hh.ex
  refine ⟨_, pe_slice sl_str pa pl ph, fun F0 H0 F ρ σ H Q d S e q => ?_⟩
  unfold eSl at e
  cases h1 : fa ρ with
  | none => rw [h1] at e; cases e
  | some x =>
    rw [h1] at e
    cases x <;> first | (cases e; done) | skip
    rename_i z
    obtain ⟨l, e1, e2⟩ := Option.bind_eq_some_iff.mp (show (fl ρ).bind (fun lo => (fh ρ).bind fun hi => if z.length ≤ 1000000 then some (PyData.str (cutS z lo hi)) else none) = some d from e)
    obtain ⟨h, e3, e4⟩ := Option.bind_eq_some_iff.mp e2
    rw [Option.ite_none_right_eq_some] at e4
    obtain ⟨hz, e5⟩ := e4
    cases e5
    refine ha F0 H0 F ρ σ H _ _ S h1 fun v F1 H1 g1 r1 => ?_
    refine hl F0 H0 F1 ρ σ H1 _ l (S.grow g1) e1 fun F2 H2 g2 => ?_
    refine hh F0 H0 F2 ρ σ H2 _ h ((S.grow g1).grow g2) e3 fun F3 H3 g3 => ?_
    exact ⟨z, r1.str, small1m hz, q _ F3 H3 (g1.trans (g2.trans g3)) (.str _)⟩
end
end L2.RC

namespace L2.RC
open PySem PySem.Spec PyProof.Rows
section
variable {X : Cx} {EX : EXX} {e a b c : Expr} {pos p : Pos} {f fa fb : EFn}
/-! ### built-in functions of one argument -/
def eUn (g : PyData → Option PyData) (fa : EFn) : EFn := fun ρ => (fa ρ).bind g
def COk1 (K : PySem.W.Frag) (r : List V → Hp → VK → Prop) (g : PyData → Option PyData) : Prop :=
  ∀ F H x d z Q, Same F H → Rw K F H x d → g d = some z → (∀ v F' H', Grow F H F' H' → Rp K F' v z → Q v H') → r [x] H Q
theorem es_cb {K : PySem.W.Frag} {r : List V → Hp → VK → Prop} {g : PyData → Option PyData} {ta : TE} (hr : COk1 K r g) (ha : EwOk K ta fa) : EsOk K (tCB r (tCons ta tNil)) (eUn g fa) := by
  intro F0 H0 F ρ σ H Q d S e q
  obtain ⟨x, e1, e2⟩ := Option.bind_eq_some_iff.mp e
  refine ha F0 H0 F ρ σ H _ x S e1 fun v F1 H1 g1 r1 => ?_
  exact hr F1 H1 v x d Q g1.fh r1 e2 fun w F2 H2 g2 r2 => q w F2 H2 (g1.trans g2) r2
theorem de_b1 {x : Str} {id : String} {r : List V → Hp → VK → Prop} {g : PyData → Option PyData} (hc : CallR X (.builtin id) r) (hr : COk1 X.K r g) (hm : X.mg x = none) (hv : bootBuiltins x = some (.builtin id)) (ha : DEw X a fa)
    (hg : Gl X x := by rfl) (hn : x ≠ "__name__" := by decide) (hdb : (x == ("__debug__" : Str)) = false := by decide) (hs : starEach [a] X.env = [(false, eval a X.env)] := by rfl) : DEs X (.Call (.Name x p) [a] [] pos) (eUn g fa) := by
  obtain ⟨ta, pa, ha⟩ := ha.ex
  exact ⟨_, pe_callB hc hg hm hv (pa_cons pa pa_nil hs) hn hdb hs rfl, es_cb hr ha⟩
def dLen : PyData → Option PyData
  | .list ds => some (.int ds.length)
  | .tuple ds => some (.int ds.length)
  | .str z => if z.length ≤ 1000000 then some (.int z.length) else none
  | _ => none
theorem cok_len {K : PySem.W.Frag} : COk1 K (fun xs H Q => (∃ p ys, xs = [.ref p] ∧ (SqL K H p ys ∨ SqT K H p ys) ∧ Q (.int ys.length) H) ∨ ∃ z, xs = [.str z] ∧ z.length ≤ sizeLine ∧ Q (.int z.length) H) dLen := by
  intro F H x d z Q s rx hz q
  cases d <;> simp only [dLen, reduceCtorEq, Option.some.injEq] at hz
  · rw [Option.ite_none_right_eq_some] at hz
    obtain ⟨h1, h2⟩ := hz
    cases h2
    exact .inr ⟨_, by rw [rx.str], small1m h1, q _ F H (.refl s) (.int _)⟩
  · subst hz
    obtain ⟨p, vs, rfl, h1, h2⟩ := rx.list s
    exact .inl ⟨p, vs, rfl, .inl h1, by rw [h2.length]; exact q _ F H (.refl s) (.int _)⟩
  · subst hz
    obtain ⟨p, vs, rfl, h1, h2⟩ := rx.tuple s
    exact .inl ⟨p, vs, rfl, .inr h1, by rw [h2.length]; exact q _ F H (.refl s) (.int _)⟩
theorem de_len (hm : X.mg "len" = none) (ha : DEw X a fa) (hg : Gl X "len" := by rfl) (hs : starEach [a] X.env = [(false, eval a X.env)] := by rfl) : DEs X (.Call (.Name "len" p) [a] [] pos) (eUn dLen fa) :=
  de_b1 (call_len_seq.or call_len_str) cok_len hm PySem.boot_len ha hg (by decide) (by decide) hs
def dAbs : PyData → Option PyData
  | .int i => some (.int (if i < 0 then -i else i))
  | _ => none
theorem cok_abs {K : PySem.W.Frag} : COk1 K (fun xs H Q => ∃ i, xs = [.int i] ∧ Q (.int (if i < 0 then -i else i)) H) dAbs := by
  intro F H x d z Q s rx hz q
  cases d <;> simp only [dAbs, reduceCtorEq, Option.some.injEq] at hz
  subst hz
  exact ⟨_, by rw [rx.int], q _ F H (.refl s) (.int _)⟩
theorem de_abs (hm : X.mg "abs" = none) (ha : DEw X a fa) (hg : Gl X "abs" := by rfl) (hs : starEach [a] X.env = [(false, eval a X.env)] := by rfl) : DEs X (.Call (.Name "abs" p) [a] [] pos) (eUn dAbs fa) :=
  de_b1 call_abs cok_abs hm (by decide +kernel) ha hg (by decide) (by decide) hs
def intsOf : List PyData → Option (List Int)
  | [] => some []
  | .int i :: ds => (intsOf ds).map (i :: ·)
  | _ :: _ => none
theorem intsOf_eq : ∀ {ds : List PyData} {ns : List Int}, intsOf ds = some ns → ds = ns.map .int
  | [], ns, h => by cases h; rfl
  | .int i :: ds, ns, h => by
    obtain ⟨ms, h1, h2⟩ := Option.map_eq_some_iff.mp (show (intsOf ds).map (i :: ·) = some ns from h)
    subst h2
    rw [intsOf_eq h1] <;> rfl
  | .none :: _, _, h => by cases h
  | .bool _ :: _, _, h => by cases h
  | .str _ :: _, _, h => by cases h
  | .list _ :: _, _, h => by cases h
  | .tuple _ :: _, _, h => by cases h
  | .dict _ :: _, _, h => by cases h
theorem intsOf_map : ∀ (ns : List Int), intsOf (ns.map .int) = some ns
  | [] => rfl
  | n :: ns => by
    show (intsOf (ns.map .int)).map (n :: ·) = _
    rw [intsOf_map ns] <;> rfl
def maxL (n : Int) (ns : List Int) : Int := ns.foldl (fun a b => if a < b then b else a) n
theorem maxL_ge : ∀ (ns : List Int) (n : Int), n ≤ maxL n ns ∧ ∀ y ∈ ns, y ≤ maxL n ns
  | [], n => ⟨Int.le_refl _, fun _ h => by cases h⟩
  | m :: ns, n => by
    obtain ⟨h1, h2⟩ := maxL_ge ns (if n < m then m else n)
    have e : maxL n (m :: ns) = maxL (if n < m then m else n) ns := rfl
    rw [e]
    generalize maxL (if n < m then m else n) ns = z at h1 h2
    refine ⟨?_, fun y hy => ?_⟩
    · split at h1 <;> omega
    · rcases List.mem_cons.mp hy with hy | hy
      · rw [hy]; split at h1 <;> omega
      · exact h2 y hy
theorem maxL_mem : ∀ (ns : List Int) (n : Int), maxL n ns ∈ n :: ns
  | [], n => List.mem_singleton.mpr rfl
  | m :: ns, n => by
    have h := maxL_mem ns (if n < m then m else n)
    have e : maxL n (m :: ns) = maxL (if n < m then m else n) ns := rfl
    rw [e]
    rcases List.mem_cons.mp h with h | h
    · rw [h]
      split
      · exact List.mem_cons_of_mem _ List.mem_cons_self
      · exact List.mem_cons_self
    · exact List.mem_cons_of_mem _ (List.mem_cons_of_mem _ h)
def dMax : PyData → Option PyData
  | .list ds => match intsOf ds with
    | some (n :: ns) => some (.int (maxL n ns))
    | _ => none
  | _ => none
theorem cok_max {K : PySem.W.Frag} : COk1 K (rMax K) dMax := by
  intro F H x d z Q s rx hz q
  cases d <;> simp only [dMax, reduceCtorEq] at hz
  rename_i ds
  cases h : intsOf ds with
  | none => rw [h] at hz; cases hz
  | some l =>
    rw [h] at hz
    cases l with
    | nil => cases hz
    | cons n ns =>
      cases hz
      have hd := intsOf_eq h
      subst hd
      obtain ⟨p, vs, rfl, h1, h2⟩ := rx.list s
      rw [h2.ints] at h1
      refine ⟨p, n :: ns, rfl, h1, Nat.succ_pos _, fun m hm hall => ?_⟩
      have e : m = maxL n ns := by
        obtain ⟨g1, g2⟩ := maxL_ge ns n
        have a1 := hall _ (maxL_mem ns n)
        rcases List.mem_cons.mp hm with rfl | hm
        · omega
        · have := g2 m hm; omega
      rw [e]
      exact q _ F H (.refl s) (.int _)
theorem de_max (hm : X.mg "max" = none) (ha : DEw X a fa) (hc : X.calm = true := by rfl) (hg : Gl X "max" := by rfl) (hs : starEach [a] X.env = [(false, eval a X.env)] := by rfl) : DEs X (.Call (.Name "max" p) [a] [] pos) (eUn dMax fa) :=
  de_b1 (cr_max hc) cok_max hm (by decide +kernel) ha hg (by decide) (by decide) hs
def boolsOf : List PyData → Option (List Bool)
  | [] => some []
  | .bool i :: ds => (boolsOf ds).map (i :: ·)
  | _ :: _ => none
theorem boolsOf_eq : ∀ {ds : List PyData} {ns : List Bool}, boolsOf ds = some ns → ds = ns.map .bool
  | [], ns, h => by cases h; rfl
  | .bool i :: ds, ns, h => by
    obtain ⟨ms, h1, h2⟩ := Option.map_eq_some_iff.mp (show (boolsOf ds).map (i :: ·) = some ns from h)
    subst h2
    rw [boolsOf_eq h1] <;> rfl
  | .none :: _, _, h => by cases h
  | .int _ :: _, _, h => by cases h
  | .str _ :: _, _, h => by cases h
  | .list _ :: _, _, h => by cases h
  | .tuple _ :: _, _, h => by cases h
  | .dict _ :: _, _, h => by cases h
def dAll : PyData → Option PyData
  | .list ds => match boolsOf ds with
    | some bs => some (.bool (bs.all id))
    | _ => none
  | _ => none
theorem cok_all {K : PySem.W.Frag} : COk1 K (rAll K) dAll := by
  intro F H x d z Q s rx hz q
  cases d <;> simp only [dAll, reduceCtorEq] at hz
  rename_i ds
  cases h : boolsOf ds with
  | none => rw [h] at hz; cases hz
  | some l =>
    rw [h] at hz
    cases hz
    have hd := boolsOf_eq h
    subst hd
    obtain ⟨p, vs, rfl, h1, h2⟩ := rx.list s
    rw [h2.bls] at h1
    exact ⟨p, l, rfl, h1, q _ F H (.refl s) (.bl _)⟩
theorem de_all (hm : X.mg "all" = none) (ha : DEw X a fa) (hc : X.calm = true := by rfl) (hg : Gl X "all" := by rfl) (hs : starEach [a] X.env = [(false, eval a X.env)] := by rfl) : DEs X (.Call (.Name "all" p) [a] [] pos) (eUn dAll fa) :=
  de_b1 (cr_all hc) cok_all hm (by decide +kernel) ha hg (by decide) (by decide) hs
/-- list(xs): a new list -/
def oLst (fa : EFn) : OFn := fun ρ => match fa ρ with | some (.list ds) => some ds | some (.tuple ds) => some ds | _ => none
theorem de_list (hm : X.mg "list" = none) (ha : DEw X a fa) (hg : Gl X "list" := by rfl) (hs : starEach [a] X.env = [(false, eval a X.env)] := by rfl) : DEo X (.Call (.Name "list" p) [a] [] pos) (oLst fa) := by
  obtain ⟨ta, pa, ha⟩ := ha.ex
  refine ⟨_, pe_callTy call_list_of hg hm (by decide +kernel) (pa_cons pa pa_nil hs) (by decide) (by decide) hs rfl, fun F0 H0 F ρ σ H Q ds S e q => ?_⟩
  unfold oLst at e
  cases h1 : fa ρ with
  | none => rw [h1] at e; cases e
  | some x =>
    rw [h1] at e
    refine ha F0 H0 F ρ σ H _ x S h1 fun v F1 H1 g1 r1 => ?_
    cases x <;> first | (cases e; done) | skip
    · cases e
      obtain ⟨l, vs, rfl, h1, h2⟩ := r1.list g1.fh
      exact ⟨l, vs, rfl, .inl h1, fun t ht => q t _ F1 _ (g1.trans (Grow.own g1.fh ht)) (g1.hh.free ht) (none_of g1.fh ht) upd_same h2⟩
    · cases e
      obtain ⟨l, vs, rfl, h1, h2⟩ := r1.tuple g1.fh
      exact ⟨l, vs, rfl, .inr h1, fun t ht => q t _ F1 _ (g1.trans (Grow.own g1.fh ht)) (g1.hh.free ht) (none_of g1.fh ht) upd_same h2⟩

/-! ### isinstance(x, T) -/
def tyNm : PyData → String
  | .none => "NoneType"
  | .bool _ => "bool"
  | .int _ => "int"
  | .str _ => "str"
  | .list _ => "list"
  | .tuple _ => "tuple"
  | .dict _ => "dict"
def dIsi (T : String) (d : PyData) : Option PyData := (kitB (tyNm d) T).map .bool
theorem tyx_of {K : PySem.W.Frag} {F H : Hp} {v : V} {d : PyData} (s : Same F H) (r : Rw K F H v d) : TyX K H v (.type (tyNm d)) := by
  have lst : ∀ {a : Addr} {vs : List V}, SqL K H a vs → TyX K H (.ref a) (.type "list") := fun {a vs} h => by
    rcases h with (h | ⟨o, h⟩) | ⟨o, its, n, h1, h2, _⟩
    · exact .base (.lst h)
    · exact .base (.frz h)
    · exact .kList h1 h2
  have tup : ∀ {a : Addr} {vs : List V}, SqT K H a vs → TyX K H (.ref a) (.type "tuple") := fun {a vs} h => by
    rcases h with (h | ⟨o, h⟩) | ⟨o, its, n, h1, h2, _⟩
    · exact .base (.tup h)
    · exact .fTuple h
    · exact .kTuple h1 h2
  rcases r with r | ⟨a, vs, ds, rfl, rfl, h1, _⟩
  · cases r with
    | non => exact .base .non
    | bl b => exact .base (.bl b)
    | int i => exact .base (.int i)
    | str x => exact .base (.str x)
    | lst h1 h2 => exact lst (SqL.of (s _ _ h1))
    | tup h1 h2 => exact tup (seqT_same s h1)
  · exact lst h1
theorem de_isi {T : String} {y : Str} {q : Pos} (hm : X.mg "isinstance" = none) (hT : X.mg y = none) (hv : bootBuiltins y = some (.type T)) (ha : DEw X a fa) (hg : Gl X "isinstance" := by rfl) (hgT : Gl X y := by rfl)
    (hn : y ≠ "__name__" := by decide) (hdb : (y == ("__debug__" : Str)) = false := by decide)
    (hs : starEach [a, .Name y q] X.env = (false, eval a X.env) :: starEach [.Name y q] X.env := by rfl) (hs2 : starEach [.Name y q] X.env = [(false, eval (.Name y q) X.env)] := by rfl) (hpl : (backTo pos (starEach [.Name y q] X.env)).any (·.1) = false := by rfl) :
    DEs X (.Call (.Name "isinstance" p) [a, .Name y q] [] pos) (eUn (dIsi T) fa) := by
  obtain ⟨ta, pa, ha⟩ := ha.ex
  refine ⟨_, pe_callB call_isi hg hm (by decide +kernel) (pa_cons pa (pa_cons (pe_bltn (v := .ty T) hgT hT hv rfl hn hdb) pa_nil hs2) hs) (by decide) (by decide) hs hpl, fun F0 H0 F ρ σ H Q d S e q => ?_⟩
  obtain ⟨x, e1, e2⟩ := Option.bind_eq_some_iff.mp e
  obtain ⟨k, e3, e4⟩ := Option.map_eq_some_iff.mp (show (kitB (tyNm x) T).map PyData.bool = some d from e2)
  subst e4
  refine ha F0 H0 F ρ σ H _ x S e1 fun v F1 H1 g1 r1 => ?_
  exact ⟨v, .ty T, .type (tyNm x), .type T, k, rfl, .ty T, tyx_of g1.fh r1, kit_ty e3, q _ F1 H1 g1 (.bl _)⟩

/-! ### states -/
section
variable {K : PySem.W.Frag} {F0 H0 F H F1 H1 : Hp} {ρ : DEnv} {σ : St}
theorem StF.setZ {i : Nat} {v : V} {d : PyData} (S : StF K F0 H0 F ρ σ H) (r : Rp K F v d) : StF K F0 H0 F (ρ.set i (.fz d)) (σ.set i (some v)) H := by
  refine ⟨S.gr, fun j s e => ?_, sep_set S.sep rfl, by rw [List.length_set, List.length_set, S.len]⟩
  rcases getD_set e with ⟨rfl, rfl⟩ | ⟨hj, e⟩
  · have hl : j < (ρ.set j (Sl.fz d)).length := (List.getElem?_eq_some_iff.mp e).1
    rw [List.length_set, S.len] at hl
    exact ⟨v, List.getElem?_set_self hl, r⟩
  · rw [List.getElem?_set_ne (Ne.symm hj)]
    exact S.sl j s e
theorem StF.notNew {p : Addr} (S : StF K F0 H0 F ρ σ H) (n1 : H p = none) (j : Nat) (x : Sl) (h1 : ρ[j]? = some x) (h2 : x.own = true) : σ[j]? ≠ some (some (V.ref p)) := fun h3 => by
  have q := S.sl j x h1
  cases x with
  | ow ds =>
    obtain ⟨a, ws, e, h, _⟩ := q
    rw [h3] at e
    cases e
    rw [n1] at h; cases h
  | pw a ds =>
    obtain ⟨ws, e, h, _⟩ := q
    rw [h3] at e
    cases e
    rw [n1] at h; cases h
  | un => cases h2
  | fz d => cases h2
  | br ds => cases h2
theorem StF.setO {i : Nat} {p : Addr} {vs : List V} {ds : List PyData} (S : StF K F0 H0 F ρ σ H) (g : Grow F H F1 H1) (n1 : H p = none) (n2 : F1 p = none) (hp : H1 p = some (.lst vs)) (r : RpAll K F1 vs ds) :
    StF K F0 H0 F1 (ρ.set i (.ow ds)) (σ.set i (some (.ref p))) H1 := by
  have S1 := S.grow g
  refine ⟨S1.gr, fun j s e => ?_, sep_new S.sep (S.notNew n1), by rw [List.length_set, List.length_set, S.len]⟩
  rcases getD_set e with ⟨rfl, rfl⟩ | ⟨hj, e⟩
  · have hl : j < (ρ.set j (Sl.ow ds)).length := (List.getElem?_eq_some_iff.mp e).1
    rw [List.length_set, S.len] at hl
    exact ⟨p, vs, List.getElem?_set_self hl, hp, n2, S.gr.hh.free n1, r⟩
  · rw [List.getElem?_set_ne (Ne.symm hj)]
    exact S1.sl j s e
/-- the other slots, where the list of the slot i changes -/
theorem StF.others {i : Nat} {a : Addr} {s0 : Sl} {o : HO} (S : StF K F0 H0 F ρ σ H) (h : ρ[i]? = some s0) (h0 : s0.own = true) (hs : σ[i]? = some (some (.ref a))) (j : Nat) (s : Sl) (hj : j ≠ i) (e : ρ[j]? = some s) : SlOk K F H0 (upd H a o) σ[j]? s := by
  have q := S.sl j s e
  cases s with
  | un => trivial
  | fz d => exact q
  | br ds' => exact q
  | ow ds' =>
    obtain ⟨b, us, e1, hb, fb, zb, rb⟩ := q
    refine ⟨b, us, e1, ?_, fb, zb, rb⟩
    rw [upd_ne]
    · exact hb
    · rintro rfl
      exact hj (S.sep j i b _ _ e h rfl h0 e1 hs)
  | pw b ds' =>
    obtain ⟨us, e1, hb, fb, zb, rb⟩ := q
    refine ⟨us, e1, ?_, fb, zb, rb⟩
    rw [upd_ne]
    · exact hb
    · rintro rfl
      exact hj (S.sep j i b _ _ e h rfl h0 e1 hs)
/-- an own list is changed -/
theorem StF.write {i : Nat} {a : Addr} {ds es : List PyData} {vs ws : List V} (S : StF K F0 H0 F ρ σ H) (h : ρ[i]? = some (.ow ds)) (hs : σ[i]? = some (some (.ref a))) (r : RpAll K F ws es) :
    StF K F0 H0 F (ρ.set i (.ow es)) σ (upd H a (.lst ws)) := by
  obtain ⟨a', vs', e, ha, fa, za, ra⟩ := S.sl i _ h
  rw [hs] at e
  cases e
  have n0 : ∀ b o, H0 b = some o → b ≠ a := fun b o q z => by rw [z, za] at q; cases q
  have nF : ∀ b o, F b = some o → b ≠ a := fun b o q z => by rw [z, fa] at q; cases q
  refine ⟨⟨fun b o q => ?_, S.gr.ff, fun b o q => ?_, S.gr.ag⟩, fun j s e => ?_, sep_re S.sep h rfl, by rw [List.length_set, S.len]⟩
  · rw [upd_ne (n0 b o q)]; exact S.gr.hh b o q
  · rw [upd_ne (nF b o q)]; exact S.gr.fh b o q
  · rcases getD_set e with ⟨rfl, rfl⟩ | ⟨hj, e⟩
    · exact ⟨a, ws, hs, upd_same, fa, za, r⟩
    · exact S.others h rfl hs j s hj e
/-- a list to be changed, at a place that is known -/
theorem StF.writeP {i : Nat} {a : Addr} {ds es : List PyData} {ws : List V} (S : StF K F0 H0 F ρ σ H) (h : ρ[i]? = some (.pw a ds)) (r : RpAll K F ws es) :
    StF K F0 H0 F (ρ.set i (.pw a es)) σ (upd H a (.lst ws)) := by
  obtain ⟨vs', hs, ha, fa, za, ra⟩ := S.sl i _ h
  have n0 : ∀ b o, H0 b = some o → b ≠ a := fun b o q z => by rw [z, za] at q; cases q
  have nF : ∀ b o, F b = some o → b ≠ a := fun b o q z => by rw [z, fa] at q; cases q
  refine ⟨⟨fun b o q => ?_, S.gr.ff, fun b o q => ?_, S.gr.ag⟩, fun j s e => ?_, sep_re S.sep h rfl, by rw [List.length_set, S.len]⟩
  · rw [upd_ne (n0 b o q)]; exact S.gr.hh b o q
  · rw [upd_ne (nF b o q)]; exact S.gr.fh b o q
  · rcases getD_set e with ⟨rfl, rfl⟩ | ⟨hj, e⟩
    · exact ⟨ws, hs, upd_same, fa, za, r⟩
    · exact S.others h rfl hs j s hj e
/-- an own list is handed over: it stays as it is from here on -/
def frz (i : Nat) (ρ : DEnv) : DEnv := match ρ[i]? with | some (.ow ds) => ρ.set i (.fz (.list ds)) | _ => ρ
theorem StF.frz (i : Nat) (S : StF K F0 H0 F ρ σ H) : ∃ F', StF K F0 H0 F' (frz i ρ) σ H := by
  unfold RC.frz
  split
  · rename_i ds h
    obtain ⟨a, vs, hs, ha, fa, za, ra⟩ := S.sl i _ h
    have up : Same F (upd F a (.lst vs)) := same_upd fa
    refine ⟨upd F a (.lst vs), ⟨S.gr.hh, S.gr.ff.trans up, fun b o q => ?_, fun b o q => ?_⟩, fun j s e => ?_, sep_rho S.sep rfl, by rw [List.length_set, S.len]⟩
    · by_cases hb : b = a
      · subst hb; rw [upd_same] at q; rw [ha]; exact q
      · rw [upd_ne hb] at q; exact S.gr.fh b o q
    · rw [upd_ne (fun z => by rw [z, za] at q; cases q)]
      exact S.gr.ag b o q
    · rcases getD_set e with ⟨rfl, rfl⟩ | ⟨hj, e⟩
      · exact ⟨_, hs, .lst upd_same (RpAll.mono up _ _ ra)⟩
      · have q := S.sl j s e
        cases s with
        | un => trivial
        | fz d => obtain ⟨v, e1, r⟩ := q; exact ⟨v, e1, Rp.mono up _ _ r⟩
        | br ds' => obtain ⟨b, us, e1, hb, r⟩ := q; exact ⟨b, us, e1, hb, RpAll.mono up _ _ r⟩
        | ow ds' =>
          obtain ⟨b, us, e1, hb, fb, zb, rb⟩ := q
          refine ⟨b, us, e1, hb, ?_, zb, RpAll.mono up _ _ rb⟩
          rw [upd_ne]
          · exact fb
          · rintro rfl
            exact hj (S.sep j i b _ _ e h rfl rfl e1 hs)
        | pw b ds' =>
          obtain ⟨us, e1, hb, fb, zb, rb⟩ := q
          refine ⟨us, e1, hb, ?_, zb, RpAll.mono up _ _ rb⟩
          rw [upd_ne]
          · exact fb
          · rintro rfl
            exact hj (S.sep j i b _ _ e h rfl rfl e1 hs)
  · exact ⟨F, S⟩
end

/-! ### statements -/
variable {st : Stmt} {sts : List Stmt} {fs gs : SFn} {ft : TFn} {i : Nat} {x : Str} {pos' : Pos}
/-- ahead of a statement an own list is handed over -/
theorem ds_frz (i : Nat) (h : DS X EX st fs) : DS X EX st (fun ρ => fs (frz i ρ)) := by
  obtain ⟨ts, ps, h⟩ := h.ex
  refine ⟨ts, ps, fun F0 H0 F ρ σ H D S q => ?_⟩
  obtain ⟨F', S'⟩ := S.frz i
  exact h F0 H0 F' _ σ H D S' q
theorem dss_frz (i : Nat) (h : DSs X EX sts fs) : DSs X EX sts (fun ρ => fs (frz i ρ)) := by
  obtain ⟨ts, ps, h⟩ := h.ex
  refine ⟨ts, ps, fun F0 H0 F ρ σ H D S q => ?_⟩
  obtain ⟨F', S'⟩ := S.frz i
  exact h F0 H0 F' _ σ H D S' q
def sFrz (i : Nat) (f : SFn) : SFn := fun ρ => f (frz i ρ)
def sNil : SFn := fun ρ => .nx ρ
def sSeq (f g : SFn) : SFn := fun ρ => match f ρ with | .nx ρ' => g ρ' | o => o
theorem dss_nil : DSs X EX [] sNil := ⟨_, pss_nil, fun F0 H0 F ρ σ H D S q => q F σ H S⟩
theorem dss_cons (h1 : DS X EX st fs) (h2 : DSs X EX sts gs) : DSs X EX (st :: sts) (sSeq fs gs) := by
  obtain ⟨t, p1, h1⟩ := h1.ex
  obtain ⟨u, p2, h2⟩ := h2.ex
  refine ⟨_, pss_cons p1 p2, fun F0 H0 F ρ σ H D S q => ?_⟩
  refine h1 F0 H0 F ρ σ H { D with nx := u D } S ?_
  unfold sSeq at q
  cases e : fs ρ with
  | nx ρ' =>
    rw [e] at q
    exact fun F' σ' H' S' => h2 F0 H0 F' ρ' σ' H' D S' q
  | _ => rw [e] at q; exact q
theorem dss_one (h1 : DS X EX st fs) : DSs X EX [st] fs := by
  obtain ⟨t, p1, h1⟩ := h1.ex
  exact ⟨t, pss_one p1, h1⟩
def sIf (ft : TFn) (f g : SFn) : SFn := fun ρ => match ft ρ with | some true => f ρ | some false => g ρ | none => .no
theorem ds_if {c : Expr} {xs ys : List Stmt} (hc : DT X c ft) (ha : DSs X EX xs fs) (hb : DSs X EX ys gs) : DS X EX (.If c xs ys pos) (sIf ft fs gs) := by
  obtain ⟨tc, pc, hc⟩ := hc.ex
  obtain ⟨t, p1, h1⟩ := ha.ex
  obtain ⟨u, p2, h2⟩ := hb.ex
  refine ⟨_, ps_if pc p1 p2, fun F0 H0 F ρ σ H D S q => ?_⟩
  unfold sIf at q
  cases e : ft ρ with
  | none => rw [e] at q; exact q.elim
  | some k =>
    rw [e] at q
    refine hc F0 H0 F ρ σ H _ k S e fun F1 H1 g => ?_
    cases k with
    | true => exact iteT (h1 F0 H0 F1 ρ σ H1 D (S.grow g) q)
    | false => exact iteF (h2 F0 H0 F1 ρ σ H1 D (S.grow g) q)
def sRet (f : EFn) : SFn := fun ρ => match f ρ with | some d => .rt d | none => .no
theorem ds_ret (h : DEs X e f) : DS X EX (.Return (some e) pos) (sRet f) := by
  obtain ⟨te, p, h⟩ := h.ex
  refine ⟨_, ps_ret p, fun F0 H0 F ρ σ H D S q => ?_⟩
  unfold sRet at q
  cases e1 : f ρ with
  | none => rw [e1] at q; exact q.elim
  | some d =>
    rw [e1] at q
    exact h F0 H0 F ρ σ H _ d S e1 fun v F1 H1 g r => q v F1 H1 (S.gr.trans g) r
def sSet (i : Nat) (f : EFn) : SFn := fun ρ => match f ρ with | some d => .nx (ρ.set i (.fz d)) | none => .no
theorem ds_set (i : Nat) (h : DEs X e f) (hN : X.N.Nodup) (hi : X.N[i]? = some x := by rfl) (hx : Loc X.env.scope x := by first | exact Or.inl rfl | exact Or.inr rfl) (hs : swapsWith e (some (.Name x pos')) pos.line X.env = pure false := by rfl)
    (hf : X.fn x = true ∨ X.env.scope.names.lookup x = some .local := by first | exact .inl rfl | exact .inr rfl) : DS X EX (.Assign [.Name x pos'] e pos) (sSet i f) := by
  obtain ⟨te, p, h⟩ := h.ex
  refine ⟨_, L2.ps_set hN hi hx p hs hf, fun F0 H0 F ρ σ H D S q => ?_⟩
  unfold sSet at q
  cases e1 : f ρ with
  | none => rw [e1] at q; exact q.elim
  | some d =>
    rw [e1] at q
    exact h F0 H0 F ρ σ H _ d S e1 fun v F1 H1 g r => q F1 _ H1 ((S.grow g).setZ r)
def sSetO (i : Nat) (f : OFn) : SFn := fun ρ => match f ρ with | some ds => .nx (ρ.set i (.ow ds)) | none => .no
theorem ds_setO (i : Nat) {fo : OFn} (h : DEo X e fo) (hN : X.N.Nodup) (hi : X.N[i]? = some x := by rfl) (hx : Loc X.env.scope x := by first | exact Or.inl rfl | exact Or.inr rfl) (hs : swapsWith e (some (.Name x pos')) pos.line X.env = pure false := by rfl)
    (hf : X.fn x = true ∨ X.env.scope.names.lookup x = some .local := by first | exact .inl rfl | exact .inr rfl) : DS X EX (.Assign [.Name x pos'] e pos) (sSetO i fo) := by
  obtain ⟨te, p, h⟩ := h.ex
  refine ⟨_, L2.ps_set hN hi hx p hs hf, fun F0 H0 F ρ σ H D S q => ?_⟩
  unfold sSetO at q
  cases e1 : fo ρ with
  | none => rw [e1] at q; exact q.elim
  | some ds =>
    rw [e1] at q
    exact h F0 H0 F ρ σ H _ ds S e1 fun t vs F1 H1 g n1 n2 hp r => q F1 _ H1 (S.setO g n1 n2 hp r)

/-! ### an own list's methods -/
def sMut (i : Nat) (fa : EFn) (g : List PyData → PyData → Option (List PyData)) : SFn := fun ρ => match ρ[i]? with
  | some (.ow ds) => (match fa ρ with | some d => (match g ds d with | some es => .nx (ρ.set i (.ow es)) | none => .no) | none => .no)
  | _ => .no
theorem sMut_ok {K : PySem.W.Frag} {F0 H0 : Hp} {D : Ends} {g : List PyData → PyData → Option (List PyData)} {ρ : DEnv} (q : OutOk K F0 H0 D EX (sMut i fa g ρ)) :
    ∃ ds d es, ρ[i]? = some (.ow ds) ∧ fa ρ = some d ∧ g ds d = some es ∧ ∀ F σ H, StF K F0 H0 F (ρ.set i (.ow es)) σ H → D.nx σ H := by
  unfold sMut at q
  cases e1 : ρ[i]? with
  | none => rw [e1] at q; exact q.elim
  | some s =>
    rw [e1] at q
    cases s with
    | ow ds =>
      cases e2 : fa ρ with
      | none => rw [e2] at q; exact q.elim
      | some d =>
        rw [e2] at q
        cases e3 : g ds d with
        | none => simp only [e3] at q; exact q.elim
        | some es => simp only [e3] at q; exact ⟨ds, d, es, rfl, rfl, e3, q⟩
    | _ => exact q.elim
def lAppend (ds : List PyData) (d : PyData) : Option (List PyData) := if ds.length < 1000000 then some (ds ++ [d]) else none
theorem ds_append (i : Nat) {apos cpos : Pos} (h : DEs X e f) (hN : X.N[i]? = some x := by rfl) (hv : Vis X.env.scope x := by first | exact Or.inl rfl | exact Or.inr (Or.inl rfl) | exact Or.inr (Or.inr rfl)) (hd : (x == ("__debug__" : Str)) = false := by decide)
    (hcd : (x == ("__classdict__" : Str)) = false := by decide)
    (hbase : attributeBase (.Name x p) "append" X.env (eval (.Name x p) X.env) = eval (.Name x p) X.env := by rfl)
    (hfew : ((backTo cpos (starEach [e] X.env)).all (fun x => !x.1) && (backToKw cpos (keywordEach [] X.env)).all (fun x => x.1.isSome)
      && decide ([e].length + ([] : List Keyword).length + (if ([] : List Keyword).isEmpty then 0 else 1) < 30)) = true := by rfl)
    (hline : (apos.endLine == cpos.line) = true := by rfl) (hs : starEach [e] X.env = [(false, eval e X.env)] := by rfl)
    (hsw : swapsWith (.Call (.Attribute (.Name x p) "append" apos) [e] [] cpos) none pos.line X.env = pure false := by rfl) :
    DS X EX (.Expr (.Call (.Attribute (.Name x p) "append" apos) [e] [] cpos) pos) (sMut i f lAppend) := by
  obtain ⟨te, pe, h⟩ := h.ex
  refine ⟨_, ps_expr (pe_bm PySem.F.plainAttrs_list PySem.F.slot_list_append PySem.F.type_list_append mt_append (pe_var hN hv hd hcd) (pa_cons pe pa_nil hs) hbase hfew hline hs rfl) hsw, fun F0 H0 F ρ σ H D S q => ?_⟩
  obtain ⟨ds, d, es, e1, e2, e3, q⟩ := sMut_ok q
  obtain ⟨a, vs, hsg, ha, fa', za, ra⟩ := S.sl i _ e1
  unfold lAppend at e3
  rw [Option.ite_none_right_eq_some] at e3
  obtain ⟨hl, e4⟩ := e3
  cases e4
  refine ⟨_, hsg, .inl ⟨rfl, _, SqL.of ha⟩, h F0 H0 F ρ σ H _ d S e2 fun v F1 H1 g r => ?_⟩
  refine ⟨a, vs, v, rfl, rfl, g.hh _ _ ha, by rw [ra.length]; exact small1l (Nat.le_of_lt hl), ?_⟩
  exact q F1 σ _ ((S.grow g).write (vs := vs) e1 hsg ((RpAll.mono g.ff _ _ ra).append (.cons r .nil)))
def lExtend (ds : List PyData) (d : PyData) : Option (List PyData) := match d with | .list es => if ds.length + es.length ≤ 1000000 then some (ds ++ es) else none | _ => none
theorem ds_extend (i : Nat) {apos cpos : Pos} (h : DEs X e f) (hN : X.N[i]? = some x := by rfl) (hv : Vis X.env.scope x := by first | exact Or.inl rfl | exact Or.inr (Or.inl rfl) | exact Or.inr (Or.inr rfl)) (hd : (x == ("__debug__" : Str)) = false := by decide)
    (hcd : (x == ("__classdict__" : Str)) = false := by decide)
    (hbase : attributeBase (.Name x p) "extend" X.env (eval (.Name x p) X.env) = eval (.Name x p) X.env := by rfl)
    (hfew : ((backTo cpos (starEach [e] X.env)).all (fun x => !x.1) && (backToKw cpos (keywordEach [] X.env)).all (fun x => x.1.isSome)
      && decide ([e].length + ([] : List Keyword).length + (if ([] : List Keyword).isEmpty then 0 else 1) < 30)) = true := by rfl)
    (hline : (apos.endLine == cpos.line) = true := by rfl) (hs : starEach [e] X.env = [(false, eval e X.env)] := by rfl)
    (hsw : swapsWith (.Call (.Attribute (.Name x p) "extend" apos) [e] [] cpos) none pos.line X.env = pure false := by rfl) :
    DS X EX (.Expr (.Call (.Attribute (.Name x p) "extend" apos) [e] [] cpos) pos) (sMut i f lExtend) := by
  obtain ⟨te, pe, h⟩ := h.ex
  refine ⟨_, ps_expr (pe_bm PySem.F.plainAttrs_list PySem.F.slot_list_extend PySem.F.type_list_extend mt_extend (pe_var hN hv hd hcd) (pa_cons pe pa_nil hs) hbase hfew hline hs rfl) hsw, fun F0 H0 F ρ σ H D S q => ?_⟩
  obtain ⟨ds, d, es, e1, e2, e3, q⟩ := sMut_ok q
  obtain ⟨a, vs, hsg, ha, fa', za, ra⟩ := S.sl i _ e1
  unfold lExtend at e3
  cases d <;> first | (cases e3; done) | skip
  rename_i ds2
  have e3' : (if ds.length + ds2.length ≤ 1000000 then some (ds ++ ds2) else none) = some es := e3
  rw [Option.ite_none_right_eq_some] at e3'
  obtain ⟨hl, e4⟩ := e3'
  cases e4
  refine ⟨_, hsg, .inl ⟨rfl, _, SqL.of ha⟩, h F0 H0 F ρ σ H _ _ S e2 fun v F1 H1 g r => ?_⟩
  cases r with
  | lst f1 a1 =>
    refine ⟨a, _, vs, _, rfl, rfl, g.hh _ _ ha, g.fh _ _ f1, by rw [ra.length, a1.length]; exact small1m hl, ?_⟩
    exact q F1 σ _ ((S.grow g).write (vs := vs) e1 hsg ((RpAll.mono g.ff _ _ ra).append a1))
/-- x.insert(k, e) -/
def sIns (i : Nat) (fk fa : EFn) : SFn := fun ρ => match ρ[i]? with
  | some (.ow ds) => (match fk ρ with | some (.int k) => (match fa ρ with | some d => if ds.length < 1000000 ∧ 0 ≤ k ∧ k < 1000000 then .nx (ρ.set i (.ow (ds.take k.toNat ++ [d] ++ ds.drop k.toNat))) else .no | none => .no) | _ => .no)
  | _ => .no
theorem ds_insert (i : Nat) {ek : Expr} {fk : EFn} {apos cpos : Pos} (hk : DEs X ek fk) (h : DEs X e f) (hN : X.N[i]? = some x := by rfl) (hv : Vis X.env.scope x := by first | exact Or.inl rfl | exact Or.inr (Or.inl rfl) | exact Or.inr (Or.inr rfl)) (hd : (x == ("__debug__" : Str)) = false := by decide)
    (hcd : (x == ("__classdict__" : Str)) = false := by decide)
    (hbase : attributeBase (.Name x p) "insert" X.env (eval (.Name x p) X.env) = eval (.Name x p) X.env := by rfl)
    (hfew : ((backTo cpos (starEach [ek, e] X.env)).all (fun x => !x.1) && (backToKw cpos (keywordEach [] X.env)).all (fun x => x.1.isSome)
      && decide ([ek, e].length + ([] : List Keyword).length + (if ([] : List Keyword).isEmpty then 0 else 1) < 30)) = true := by rfl)
    (hline : (apos.endLine == cpos.line) = true := by rfl) (hs : starEach [ek, e] X.env = (false, eval ek X.env) :: starEach [e] X.env := by rfl) (hs2 : starEach [e] X.env = [(false, eval e X.env)] := by rfl) (hpl : (backTo cpos (starEach [e] X.env)).any (·.1) = false := by rfl)
    (hsw : swapsWith (.Call (.Attribute (.Name x p) "insert" apos) [ek, e] [] cpos) none pos.line X.env = pure false := by rfl) :
    DS X EX (.Expr (.Call (.Attribute (.Name x p) "insert" apos) [ek, e] [] cpos) pos) (sIns i fk f) := by
  obtain ⟨te, pe, h⟩ := h.ex
  obtain ⟨tk, pk, hk⟩ := hk.ex
  refine ⟨_, ps_expr (pe_bm PySem.F.plainAttrs_list PySem.F.slot_list_insert PySem.F.type_list_insert mt_insert (pe_var hN hv hd hcd) (pa_cons pk (pa_cons pe pa_nil hs2) hs) hbase hfew hline hs hpl) hsw, fun F0 H0 F ρ σ H D S q => ?_⟩
  unfold sIns at q
  cases e1 : ρ[i]? with
  | none => rw [e1] at q; exact q.elim
  | some s =>
    rw [e1] at q
    cases s <;> first | (exact q.elim) | skip
    rename_i ds
    cases e2 : fk ρ with
    | none => simp only [e2] at q; exact q.elim
    | some dk =>
      simp only [e2] at q
      cases dk <;> first | (exact q.elim) | skip
      rename_i k
      cases e3 : f ρ with
      | none => simp only [e3] at q; exact q.elim
      | some d =>
        simp only [e3] at q
        by_cases hc : ds.length < 1000000 ∧ 0 ≤ k ∧ k < 1000000
        · rw [if_pos hc] at q
          obtain ⟨a, vs, hsg, ha, fa', za, ra⟩ := S.sl i _ e1
          refine ⟨_, hsg, .inl ⟨rfl, _, SqL.of ha⟩, hk F0 H0 F ρ σ H _ _ S e2 fun v F1 H1 g r => h F0 H0 F1 ρ σ H1 _ d (S.grow g) e3 fun v2 F2 H2 g2 r2 => ?_⟩
          cases r
          have g12 := g.trans g2
          refine ⟨a, vs, k, v2, rfl, rfl, g12.hh _ _ ha, by rw [ra.length]; exact small1l (Nat.le_of_lt hc.1), hc.2.1, by omega, ?_⟩
          have ra2 := RpAll.mono g12.ff _ _ ra
          exact q F2 σ _ ((S.grow g12).write (vs := vs) e1 hsg (((ra2.take k.toNat).append (.cons r2 .nil)).append (ra2.drop k.toNat)))
        · rw [if_neg hc] at q; exact q.elim
/-- x[k] = e -/
def sPut (i : Nat) (fk fa : EFn) : SFn := fun ρ => match ρ[i]? with
  | some (.ow ds) => (match fa ρ with | some d => (match fk ρ with | some (.int k) => (match ixN ds.length k with | some j => .nx (ρ.set i (.ow (ds.set j d))) | none => .no) | _ => .no) | none => .no)
  | _ => .no
theorem ds_put (i : Nat) {ek : Expr} {fk : EFn} {spos : Pos} (hk : DEs X ek fk) (h : DEs X e f) (hN : X.N[i]? = some x := by rfl) (hv : Vis X.env.scope x := by first | exact Or.inl rfl | exact Or.inr (Or.inl rfl) | exact Or.inr (Or.inr rfl)) (hd : (x == ("__debug__" : Str)) = false := by decide)
    (hcd : (x == ("__classdict__" : Str)) = false := by decide)
    (ha : ∀ v, assign (.Subscript (.Name x p) ek spos) X.env v = (do
      let ov ← holding [v] (eval (.Name x p) X.env)
      let iv ← holding [v, ov] (eval ek X.env)
      standAt spos
      holding [v, ov, iv] (setItem ov iv v)
      release [v, ov, iv] []) := by intro _; rfl)
    (hs : swapsWithSole [.Subscript (.Name x p) ek spos] e pos.line X.env = pure false := by rfl) (hw : swappedStores [.Subscript (.Name x p) ek spos] e X.env = pure none := by rfl)
    (h1 : (assignEach [.Subscript (.Name x p) ek spos] X.env).map (·.2) = [assign (.Subscript (.Name x p) ek spos) X.env] := by rfl) :
    DS X EX (.Assign [.Subscript (.Name x p) ek spos] e pos) (sPut i fk f) := by
  obtain ⟨te, pe, h⟩ := h.ex
  obtain ⟨tk, pk, hk⟩ := hk.ex
  refine ⟨_, ps_asg pe (pg_sub (pe_var hN hv hd hcd) pk set_list ha) hs hw h1, fun F0 H0 F ρ σ H D S q => ?_⟩
  unfold sPut at q
  cases e1 : ρ[i]? with
  | none => rw [e1] at q; exact q.elim
  | some s =>
    rw [e1] at q
    cases s <;> first | (exact q.elim) | skip
    rename_i ds
    cases e3 : f ρ with
    | none => simp only [e3] at q; exact q.elim
    | some d =>
      simp only [e3] at q
      cases e2 : fk ρ with
      | none => simp only [e2] at q; exact q.elim
      | some dk =>
        simp only [e2] at q
        cases dk <;> first | (exact q.elim) | skip
        rename_i k
        cases e4 : ixN ds.length k with
        | none => simp only [e4] at q; exact q.elim
        | some j =>
          simp only [e4] at q
          obtain ⟨a, vs, hsg, ha, fa', za, ra⟩ := S.sl i _ e1
          refine h F0 H0 F ρ σ H _ d S e3 fun v F1 H1 g r => ⟨_, hsg, hk F0 H0 F1 ρ σ H1 _ _ (S.grow g) e2 fun v2 F2 H2 g2 r2 => ?_⟩
          cases r2
          have g12 := g.trans g2
          refine ⟨a, vs, k, j, rfl, rfl, g12.hh _ _ ha, by rw [ra.length]; exact e4, ?_⟩
          exact q F2 σ _ ((S.grow g12).write (vs := vs) e1 hsg ((RpAll.mono g12.ff _ _ ra).set j (Rp.mono g2.ff _ _ r)))
end
end L2.RC

namespace L2.RC
open PySem PySem.Spec PyProof.Rows
section
variable {K : PySem.W.Frag} {F0 H0 F H F1 H1 : Hp} {ρ : DEnv} {σ : St} {D : Ends} {EX : EXX}
/-! ### another ground -/
theorem StF.low (S : StF K F1 H0 F ρ σ H) (s : Same F0 F1) (ag : ∀ a o, H0 a = some o → F1 a = F0 a) : StF K F0 H0 F ρ σ H :=
  ⟨⟨S.gr.hh, s.trans S.gr.ff, S.gr.fh, fun a o h => (S.gr.ag a o h).trans (ag a o h)⟩, S.sl, S.sep, S.len⟩
theorem StF.high (S : StF K F0 H0 F ρ σ H) : StF K F H0 F ρ σ H :=
  ⟨⟨S.gr.hh, .refl _, S.gr.fh, fun _ _ _ => rfl⟩, S.sl, S.sep, S.len⟩
theorem OutOk.high {o : Out} (q : OutOk K F0 H0 D EX o) (s : Same F0 F1) (ag : ∀ a o, H0 a = some o → F1 a = F0 a) : OutOk K F1 H0 D EX o := by
  cases o with
  | nx ρ => exact fun F σ H S => q F σ H (S.low s ag)
  | bk ρ => exact fun F σ H S => q F σ H (S.low s ag)
  | ct ρ => exact fun F σ H S => q F σ H (S.low s ag)
  | rt d => exact fun v F H g r => q v F H ⟨g.hh, s.trans g.ff, g.fh, fun a o h => (g.ag a o h).trans (ag a o h)⟩ r
  | rs x => exact q
  | no => exact q
end

section
variable {X : Cx} {EX : EXX} {e a b c : Expr} {pos p : Pos} {f fa fb : EFn} {sts : List Stmt} {fs : SFn} {ft : TFn} {x : Str}
/-! ### while -/
def sWhile (ft : TFn) (fb : SFn) : Nat → SFn
  | 0, _ => .no
  | n + 1, ρ => match ft ρ with
    | some true => (match fb ρ with
      | .nx ρ' => sWhile ft fb n ρ'
      | .ct ρ' => sWhile ft fb n ρ'
      | .bk ρ' => .nx ρ'
      | o => o)
    | some false => .nx ρ
    | none => .no
theorem ds_while (n : Nat) (hp : PassesOwn (model X.prog X.w) X.A X.env X.xe) (hc : DT X c ft) (hb : DSs X EX sts fs) : DS X EX (.While c sts [] pos) (sWhile ft fs n) := by
  obtain ⟨tc, pc, hc⟩ := hc.ex
  obtain ⟨tb, pb, hb⟩ := hb.ex
  refine ⟨_, ps_while hp pc pb, fun F0 H0 F ρ σ H D S q => ?_⟩
  refine ⟨fun m σ H => ∃ F ρ, StF X.K F0 H0 F ρ σ H ∧ OutOk X.K F0 H0 D EX (sWhile ft fs m ρ), ⟨n, F, ρ, S, q⟩, ?_⟩
  rintro m σ1 H1 ⟨F1, ρ1, S1, q1⟩
  cases m with
  | zero => exact q1.elim
  | succ k =>
    unfold sWhile at q1
    cases e : ft ρ1 with
    | none => rw [e] at q1; exact q1.elim
    | some t =>
      rw [e] at q1
      refine hc F0 H0 F1 ρ1 σ1 H1 _ t S1 e fun F2 H2 g => ?_
      cases t with
      | false => exact iteF (q1 F2 σ1 H2 (S1.grow g))
      | true =>
        refine iteT ⟨fun σ' H' => ∃ F ρ, StF X.K F0 H0 F ρ σ' H' ∧ OutOk X.K F0 H0 D EX (sWhile ft fs k ρ), fun σ' H' h => ⟨k, Nat.lt_succ_self k, h⟩, ?_⟩
        refine hb F0 H0 F2 ρ1 σ1 H2 _ (S1.grow g) ?_
        dsimp only at q1
        cases e2 : fs ρ1 with
        | nx ρ' => rw [e2] at q1; exact fun F σ H S => ⟨F, ρ', S, q1⟩
        | ct ρ' => rw [e2] at q1; exact fun F σ H S => ⟨F, ρ', S, q1⟩
        | bk ρ' => rw [e2] at q1; exact q1
        | rt d => rw [e2] at q1; exact q1
        | rs x => rw [e2] at q1; exact q1
        | no => rw [e2] at q1; exact q1

/-! ### what a loop walks -/
def ItOk (K : PySem.W.Frag) (J : It) (F1 B : Hp) (ds : List PyData) : Prop :=
  ∃ xs, RpAll K F1 xs ds ∧ (∀ (i : Nat) Hx, Same F1 Hx → Same B Hx → i < xs.length → J.go i Hx) ∧ (∀ (i : Nat) Hx x H', Same F1 Hx → Same B Hx → i < xs.length → J.yld i Hx x H' → H' = Hx ∧ xs[i]? = some x) ∧ (∀ (i : Nat) Hx, Same F1 Hx → Same B Hx → xs.length ≤ i → J.stop i Hx)
def EiOk (K : PySem.W.Frag) (wi : TI) (fi : OFn) : Prop := ∀ F0 H0 F ρ σ H R ds, StF K F0 H0 F ρ σ H → fi ρ = some ds → (∀ J F1 H1, Grow F H F1 H1 → ItOk K J F1 H0 ds → R J H1) → wi σ H R
/-- .. where nothing is changed while it is walked -/
def EjOk (K : PySem.W.Frag) (wi : TI) (fi : OFn) : Prop := ∀ F0 H0 F ρ σ H R ds, StF K F0 H0 F ρ σ H → fi ρ = some ds → (∀ J F1 H1, Grow F H F1 H1 → ItOk K J F1 H1 ds → R J H1) → wi σ H R
theorem ItOk.base {K : PySem.W.Frag} {J : It} {F1 B B' : Hp} {ds : List PyData} (h : ItOk K J F1 B ds) (s : Same B B') : ItOk K J F1 B' ds := by
  obtain ⟨xs, r, a, b, c⟩ := h
  exact ⟨xs, r, fun i Hx h1 h2 => a i Hx h1 (s.trans h2), fun i Hx x H' h1 h2 => b i Hx x H' h1 (s.trans h2), fun i Hx h1 h2 => c i Hx h1 (s.trans h2)⟩
theorem EiOk.j {K : PySem.W.Frag} {wi : TI} {fi : OFn} (h : EiOk K wi fi) : EjOk K wi fi := fun F0 H0 F ρ σ H R ds S e q => h F0 H0 F ρ σ H R ds S e fun J F1 H1 g r => q J F1 H1 g (r.base (S.gr.hh.trans g.hh))
structure DI (X : Cx) (tg e : Expr) (fi : OFn) : Prop where
  ex : ∃ wi, PI X tg e wi ∧ EiOk X.K wi fi
structure DJ (X : Cx) (tg e : Expr) (fi : OFn) : Prop where
  ex : ∃ wi, PI X tg e wi ∧ EjOk X.K wi fi
theorem DI.j {X : Cx} {tg e : Expr} {fi : OFn} (h : DI X tg e fi) : DJ X tg e fi := by
  obtain ⟨wi, p, h⟩ := h.ex
  exact ⟨wi, p, h.j⟩
def iLst (fa : EFn) : OFn := fun ρ => match fa ρ with | some (.list ds) => some ds | _ => none
def iTpl (fa : EFn) : OFn := fun ρ => match fa ρ with | some (.tuple ds) => some ds | _ => none
variable {tg : Expr} {fi : OFn}
theorem di_list (ha : DEs X a fa) : DI X tg a (iLst fa) := by
  obtain ⟨ta, pa, ha⟩ := ha.ex
  refine ⟨_, pi_list pa, fun F0 H0 F ρ σ H R ds S e q => ?_⟩
  unfold iLst at e
  cases h1 : fa ρ with
  | none => rw [h1] at e; cases e
  | some x =>
    rw [h1] at e
    cases x <;> first | (cases e; done) | skip
    cases e
    refine ha F0 H0 F ρ σ H _ _ S h1 fun v F1 H1 g r => ?_
    cases r with
    | lst f1 a1 =>
      rename_i l xs
      refine ⟨l, rfl, ⟨xs, SqL.of (g.fh _ _ f1)⟩, q _ F1 H1 g ⟨xs, a1, fun i Hx s _ hi => ⟨xs, xs[i], SqL.of (s _ _ f1), by simp [hi]⟩, fun i Hx x H' s _ hi y => ⟨y.1, y.2 xs (SqL.of (s _ _ f1))⟩, fun i Hx s _ hi => ⟨xs, SqL.of (s _ _ f1), hi⟩⟩⟩
theorem di_tup (ha : DEs X a fa) : DI X tg a (iTpl fa) := by
  obtain ⟨ta, pa, ha⟩ := ha.ex
  refine ⟨_, pi_tup pa, fun F0 H0 F ρ σ H R ds S e q => ?_⟩
  unfold iTpl at e
  cases h1 : fa ρ with
  | none => rw [h1] at e; cases e
  | some x =>
    rw [h1] at e
    cases x <;> first | (cases e; done) | skip
    cases e
    refine ha F0 H0 F ρ σ H _ _ S h1 fun v F1 H1 g r => ?_
    cases r with
    | tup f1 a1 =>
      rename_i l xs
      refine ⟨l, rfl, ⟨xs, seqT_same g.fh f1⟩, q _ F1 H1 g ⟨xs, a1, fun i Hx s _ hi => ⟨xs, xs[i], seqT_same s f1, by simp [hi]⟩, fun i Hx x H' s _ hi y => ⟨y.1, y.2 xs (seqT_same s f1)⟩, fun i Hx s _ hi => ⟨xs, seqT_same s f1, hi⟩⟩⟩
def rngD (lo : Int) (n : Nat) : List PyData := (List.range n).map fun i => .int (lo + (i : Nat))
def rngOk (i : Int) : Bool := decide (-1000000 ≤ i) && decide (i ≤ 1000000)
theorem rngOk_iff {i : Int} : rngOk i = true ↔ -1000000 ≤ i ∧ i ≤ 1000000 := by simp [rngOk]
theorem rng_rp {K : PySem.W.Frag} {F : Hp} {lo : Int} : ∀ (l : List Nat), RpAll K F (l.map fun i => V.int (lo + (i : Nat))) (l.map fun i => PyData.int (lo + (i : Nat)))
  | [] => .nil
  | i :: l => .cons (.int _) (rng_rp l)
theorem itr_ok {K : PySem.W.Frag} {F B : Hp} (lo : Int) (n : Nat) : ItOk K (Itr lo n) F B (rngD lo n) := by
  refine ⟨(List.range n).map fun i => V.int (lo + (i : Nat)), rng_rp _, fun i Hx s _ hi => ?_, fun i Hx x H' s _ hi y => ⟨y.1, ?_⟩, fun i Hx s _ hi => ?_⟩
  · show i < n
    simpa using hi
  · rw [List.length_map, List.length_range] at hi
    rw [List.getElem?_map, List.getElem?_range hi, y.2] <;> rfl
  · show n ≤ i
    simpa using hi
def iRg1 (fa : EFn) : OFn := fun ρ => match fa ρ with | some (.int j) => if rngOk j = true then some (rngD 0 j.toNat) else none | _ => none
def iRg2 (fa fb : EFn) : OFn := fun ρ => match fa ρ with | some (.int i) => (match fb ρ with | some (.int j) => if (rngOk i && rngOk j) = true then some (rngD i (j - i).toNat) else none | _ => none) | _ => none
theorem di_range1 (hm : X.mg "range" = none) (ha : DEs X a fa) (hg : Gl X "range" := by rfl) (hs : starEach [a] X.env = [(false, eval a X.env)] := by rfl) : DI X tg (.Call (.Name "range" p) [a] [] pos) (iRg1 fa) := by
  obtain ⟨ta, pa, ha⟩ := ha.ex
  refine ⟨_, pi_range1 hg hm (pa_cons pa pa_nil hs) hs, fun F0 H0 F ρ σ H R ds S e q => ?_⟩
  unfold iRg1 at e
  cases h1 : fa ρ with
  | none => rw [h1] at e; cases e
  | some x =>
    rw [h1] at e
    cases x <;> first | (cases e; done) | skip
    rename_i j
    have e' : (if rngOk j = true then some (rngD 0 j.toNat) else none) = some ds := e
    rw [Option.ite_none_right_eq_some, rngOk_iff] at e'
    obtain ⟨hj, e2⟩ := e'
    cases e2
    refine ha F0 H0 F ρ σ H _ _ S h1 fun v F1 H1 g r => ?_
    cases r
    exact ⟨j, rfl, by omega, by omega, q _ F1 H1 g (itr_ok 0 j.toNat)⟩
theorem di_range2 (hm : X.mg "range" = none) (ha : DEs X a fa) (hb : DEs X b fb) (hg : Gl X "range" := by rfl) (hs : starEach [a, b] X.env = [(false, eval a X.env), (false, eval b X.env)] := by rfl) (hs2 : starEach [b] X.env = [(false, eval b X.env)] := by rfl) : DI X tg (.Call (.Name "range" p) [a, b] [] pos) (iRg2 fa fb) := by
  obtain ⟨ta, pa, ha⟩ := ha.ex
  obtain ⟨tb, pb, hb⟩ := hb.ex
  refine ⟨_, pi_range2 hg hm (pa_cons pa (pa_cons pb pa_nil hs2) (by rw [hs, hs2])) hs hs2, fun F0 H0 F ρ σ H R ds S e q => ?_⟩
  unfold iRg2 at e
  cases h1 : fa ρ with
  | none => rw [h1] at e; cases e
  | some x =>
    rw [h1] at e
    cases x <;> first | (cases e; done) | skip
    rename_i i
    cases h2 : fb ρ with
    | none => simp only [h2] at e; cases e
    | some y =>
      simp only [h2] at e
      cases y <;> first | (cases e; done) | skip
      rename_i j
      have e' : (if (rngOk i && rngOk j) = true then some (rngD i (j - i).toNat) else none) = some ds := e
      rw [Option.ite_none_right_eq_some, Bool.and_eq_true, rngOk_iff, rngOk_iff] at e'
      obtain ⟨⟨hi, hj⟩, e2⟩ := e'
      cases e2
      refine ha F0 H0 F ρ σ H _ _ S h1 fun v F1 H1 g r => ?_
      cases r
      refine hb F0 H0 F1 ρ σ H1 _ _ (S.grow g) h2 fun v F2 H2 g2 r2 => ?_
      cases r2
      exact ⟨i, j, rfl, by omega, q _ F2 H2 (g.trans g2) (itr_ok i _)⟩

/-! ### for -/
def forL (i : Nat) (fb : SFn) : List PyData → SFn
  | [], ρ => .nx ρ
  | d :: ds, ρ => match fb (ρ.set i (.fz d)) with
    | .nx ρ' => forL i fb ds ρ'
    | .ct ρ' => forL i fb ds ρ'
    | .bk ρ' => .nx ρ'
    | o => o
def sFor (i : Nat) (fi : OFn) (fb : SFn) : SFn := fun ρ => match fi ρ with | some ds => forL i fb ds ρ | none => .no
theorem ds_for (i : Nat) {iter : Expr} {q : Pos} (hp : PassesOwn (model X.prog X.w) X.A X.env X.xe) (hI : DI X (.Name x q) iter fi) (hb : DSs X EX sts fs) (hN : X.N.Nodup) (hc : X.calm = true := by rfl) (hi : X.N[i]? = some x := by rfl)
    (hx : Loc X.env.scope x := by first | exact Or.inl rfl | exact Or.inr rfl) (hf : X.fn x = true ∨ X.env.scope.names.lookup x = some .local := by first | exact .inl rfl | exact .inr rfl)
    (hs : ∀ x, foldedSetIterable iter X.env x = pure x := by intro _; rfl) : DS X EX (.For (.Name x q) iter sts [] pos) (sFor i fi fs) := by
  obtain ⟨wi, pi, hwi⟩ := hI.ex
  obtain ⟨tb, pb, hb⟩ := hb.ex
  refine ⟨_, ps_for hp hc pi (pg_name (i := i) hN hi hx hf) pb hs, fun F0 H0 F ρ σ H D S q => ?_⟩
  unfold sFor at q
  cases e : fi ρ with
  | none => rw [e] at q; exact q.elim
  | some ds =>
    rw [e] at q
    refine hwi F0 H0 F ρ σ H _ ds S e fun J F1 H1 g ⟨xs, r, go, yld, stop⟩ => ?_
    have S1 := S.grow g
    have sF : Same F0 F1 := S1.gr.ff
    have agF := S1.gr.ag
    have hlen : xs.length = ds.length := r.length
    refine ⟨fun k m σ H => m = xs.length - k ∧ k ≤ xs.length ∧ ∃ F ρ, StF X.K F1 H0 F ρ σ H ∧ OutOk X.K F1 H0 D EX (forL i fs (ds.drop k) ρ), ⟨xs.length, rfl, Nat.zero_le _, F1, ρ, S1.high, q.high sF agF⟩, ?_⟩
    rintro k m σ2 H2 ⟨rfl, hk, F2, ρ2, S2, q2⟩
    have s2 : Same F1 H2 := S2.gr.ff.trans S2.gr.fh
    have b2 : Same H0 H2 := S2.gr.hh
    by_cases hlt : k < xs.length
    · refine .inr ⟨go k H2 s2 b2 hlt, fun σ' H' => ∃ F ρ, StF X.K F1 H0 F ρ σ' H' ∧ OutOk X.K F1 H0 D EX (forL i fs (ds.drop (k + 1)) ρ), fun σ' H' h => ⟨xs.length - (k + 1), by omega, rfl, hlt, h⟩, fun y H' hy => ?_⟩
      obtain ⟨rfl, hy'⟩ := yld k H2 y H' s2 b2 hlt hy
      obtain ⟨d, hd, rd⟩ := r.getV hy'
      have hdr : ds.drop k = d :: ds.drop (k + 1) := by
        obtain ⟨h1, h2⟩ := List.getElem?_eq_some_iff.mp hd
        rw [← h2, List.drop_eq_getElem_cons h1]
      rw [hdr] at q2
      unfold forL at q2
      refine hb F1 H0 F2 _ _ _ _ (S2.setZ (i := i) (Rp.mono S2.gr.ff _ _ rd)) ?_
      cases e2 : fs (ρ2.set i (.fz d)) with
      | nx ρ' => rw [e2] at q2; exact fun F σ H S => ⟨F, ρ', S, q2⟩
      | ct ρ' => rw [e2] at q2; exact fun F σ H S => ⟨F, ρ', S, q2⟩
      | bk ρ' => rw [e2] at q2; exact fun F σ H S => (q2 F σ H S)
      | rt d => rw [e2] at q2; exact q2
      | rs x => rw [e2] at q2; exact q2
      | no => rw [e2] at q2; exact q2
    · have ek : k = xs.length := by omega
      refine .inl ⟨stop k H2 s2 b2 (by omega), ?_⟩
      rw [List.drop_of_length_le (by omega)] at q2
      exact q2 F2 σ2 H2 S2

/-! ### comprehensions -/
def compL (i : Nat) (ft : TFn) (fe : EFn) (ρ : DEnv) : List PyData → Option (List PyData)
  | [] => some []
  | d :: ds => match ft (ρ.set i (.fz d)) with
    | some true => (fe (ρ.set i (.fz d))).bind fun y => (compL i ft fe ρ ds).map (y :: ·)
    | some false => compL i ft fe ρ ds
    | none => none
def oComp (i : Nat) (fi : OFn) (ft : TFn) (fe : EFn) : OFn := fun ρ => (fi ρ).bind fun ds => if ds.length ≤ 1000000 then compL i ft fe ρ ds else none
def tTrue : TFn := fun _ => some true
theorem wipe1 (σ : St) (i : Nat) : wipe σ [i] = σ.set i none := rfl
theorem eo_lc {K : PySem.W.Frag} {wi : TI} {tt : TT} {te : TE} {fe : EFn} (i : Nat) (hwi : EjOk K wi fi) (ht : ETOk K tt ft) (he : EsOk K te fe) : EoOk K (tLc wi (gName i) tt te [i]) (oComp i fi ft fe) := by
  intro F0 H0 F ρ σ H Q ds S e q
  obtain ⟨its, e1, e2⟩ := Option.bind_eq_some_iff.mp e
  rw [Option.ite_none_right_eq_some] at e2
  obtain ⟨hsz, e3⟩ := e2
  refine hwi F0 H0 F ρ σ H _ its S e1 fun J F1 H1 g ⟨xs, r, go, yld, stop⟩ => fun D hD => ?_
  have hlen : xs.length = its.length := r.length
  have S1 := S.grow g
  refine ⟨fun k m Hx => m = xs.length - k ∧ k ≤ xs.length ∧ ∃ Fx acc eacc rest, Grow F1 H1 Fx Hx ∧ Fx D = none ∧ Hx D = some (.lst acc) ∧ RpAll K Fx acc eacc ∧ eacc.length ≤ k ∧ compL i ft fe ρ (its.drop k) = some rest ∧ eacc ++ rest = ds,
    ⟨xs.length, rfl, Nat.zero_le _, F1, [], [], ds, Grow.own g.fh hD, none_of g.fh hD, upd_same, .nil, Nat.le_refl _, e3, rfl⟩, ?_⟩
  rintro k m Hx ⟨rfl, hk, Fx, acc, eacc, rest, gx, fD, hDx, ra, hl, ec, ed⟩
  have sx : Same F1 Hx := gx.ff.trans gx.fh
  have bx : Same H1 Hx := gx.hh
  by_cases hlt : k < xs.length
  · refine .inr ⟨go k Hx sx bx hlt, fun H' => ∃ Fx acc eacc rest, Grow F1 H1 Fx H' ∧ Fx D = none ∧ H' D = some (.lst acc) ∧ RpAll K Fx acc eacc ∧ eacc.length ≤ k + 1 ∧ compL i ft fe ρ (its.drop (k + 1)) = some rest ∧ eacc ++ rest = ds, fun H' h => ⟨xs.length - (k + 1), by omega, rfl, hlt, h⟩, fun y H' hy => ?_⟩
    obtain ⟨rfl, hy'⟩ := yld k Hx y H' sx bx hlt hy
    obtain ⟨d, hd, rd⟩ := r.getV hy'
    have hdr : its.drop k = d :: its.drop (k + 1) := by
      obtain ⟨h1, h2⟩ := List.getElem?_eq_some_iff.mp hd
      rw [← h2, List.drop_eq_getElem_cons h1]
    rw [hdr] at ec
    unfold compL at ec
    have Sx := (S1.grow gx).setZ (i := i) (Rp.mono gx.ff _ _ rd)
    refine ⟨by show ((σ.set i none).set i (some y)).set i none = σ.set i none; rw [List.set_set, List.set_set], ?_⟩
    have es2 : (wipe σ [i]).set i (some y) = σ.set i (some y) := by rw [wipe1, List.set_set]
    rw [es2]
    cases h1 : ft (ρ.set i (.fz d)) with
    | none => rw [h1] at ec; cases ec
    | some t =>
      rw [h1] at ec
      refine ht F0 H0 Fx _ _ _ _ t Sx h1 fun F2 H2 g2 => ?_
      have fD2 : F2 D = none := (g2.ag _ _ hDx).trans fD
      cases t with
      | false => exact iteF ⟨F2, acc, eacc, rest, gx.trans g2, fD2, g2.hh _ _ hDx, RpAll.mono g2.ff _ _ ra, by omega, ec, ed⟩
      | true =>
        refine iteT ?_
        obtain ⟨w, h2, h3⟩ := Option.bind_eq_some_iff.mp (show (fe (ρ.set i (.fz d))).bind (fun y => (compL i ft fe ρ (its.drop (k + 1))).map (y :: ·)) = some rest from ec)
        obtain ⟨rest', h4, h5⟩ := Option.map_eq_some_iff.mp h3
        refine he F0 H0 F2 _ _ _ _ w (Sx.grow g2) h2 fun v F3 H3 g3 r3 => ?_
        have fD3 : F3 D = none := (g3.ag _ _ (g2.hh _ _ hDx)).trans fD2
        have gall := (gx.trans g2).trans g3
        refine ⟨acc, g3.hh _ _ (g2.hh _ _ hDx), by rw [ra.length]; exact small1l (by omega), F3, acc ++ [v], eacc ++ [w], rest', ⟨fun b o z => ?_, gall.ff, fun b o z => ?_, gall.ag⟩, fD3, upd_same, (RpAll.mono (g2.trans g3).ff _ _ ra).append (.cons r3 .nil), by rw [List.length_append, List.length_singleton]; omega, h4, by rw [List.append_assoc]; subst h5; exact ed⟩
        · rw [upd_ne (ne_of_none z hD)]; exact gall.hh b o z
        · rw [upd_ne (ne_of_none z fD3)]; exact gall.fh b o z
  · have ek : k = xs.length := by omega
    refine .inl ⟨stop k Hx sx bx (by omega), ?_⟩
    rw [List.drop_of_length_le (by omega)] at ec
    cases ec
    rw [List.append_nil] at ed
    subst ed
    exact q D acc Fx Hx (g.trans gx) (g.hh.free hD) fD hDx ra
section
variable {elt iter : Expr} {q : Pos} {scope : Scope} {fe : EFn} {spos : Pos}
theorem de_lc0 (i : Nat) (hI : DJ X (.Name x q) iter fi) (ok : BlkOk X.N X.env.scope scope [(x, i)]) (hN : X.N.Nodup)
    (he : ∀ (s : Shared) (H : Hp) (C : Addr) (cl : List (Str × Addr)) (fp : List Addr), DEs (X.blk s H scope (compEnvC scope cl C X.env) fp) elt fe)
    (hg : ∀ (s : Shared) (H : Hp) (C : Addr) (cl : List (Str × Addr)) (fp : List Addr), PG (X.blk s H scope (compEnvC scope cl C X.env) fp) (.Name x q) (gName i))
    (hc : X.calm = true := by rfl) (hs : ∀ x, foldedSetIterable iter X.env x = pure x := by intro _; rfl) : DEo X (.ListComp elt [⟨.Name x q, iter, [], 0⟩] scope pos) (oComp i fi tTrue fe) := by
  obtain ⟨wi, pi, hwi⟩ := hI.ex
  refine ⟨_, pe_lc (te := cEs X.K fe) hc hN pi ok hg (fun _ _ _ _ _ => pts_nil) (fun s H C cl fp => (he s H C cl fp).can) hs, eo_lc i hwi (fun F0 H0 F ρ σ H Q b S e q => ?_) fun F0 H0 F ρ σ H Q d S e q => ⟨F0, H0, F, ρ, d, S, e, q⟩⟩
  cases e
  exact q F H (.refl S.gr.fh)
theorem de_lc1 (i : Nat) {c : Expr} (hI : DJ X (.Name x q) iter fi) (ok : BlkOk X.N X.env.scope scope [(x, i)]) (hN : X.N.Nodup)
    (ht : ∀ (s : Shared) (H : Hp) (C : Addr) (cl : List (Str × Addr)) (fp : List Addr), DT (X.blk s H scope (compEnvC scope cl C X.env) fp) c ft)
    (he : ∀ (s : Shared) (H : Hp) (C : Addr) (cl : List (Str × Addr)) (fp : List Addr), DEs (X.blk s H scope (compEnvC scope cl C X.env) fp) elt fe)
    (hg : ∀ (s : Shared) (H : Hp) (C : Addr) (cl : List (Str × Addr)) (fp : List Addr), PG (X.blk s H scope (compEnvC scope cl C X.env) fp) (.Name x q) (gName i))
    (hc : X.calm = true := by rfl) (hs : ∀ x, foldedSetIterable iter X.env x = pure x := by intro _; rfl) : DEo X (.ListComp elt [⟨.Name x q, iter, [c], 0⟩] scope pos) (oComp i fi ft fe) := by
  obtain ⟨wi, pi, hwi⟩ := hI.ex
  refine ⟨_, pe_lc (te := cEs X.K fe) (tt := cET X.K ft) hc hN pi ok hg (fun s H C cl fp => pts_one (ht s H C cl fp).can) (fun s H C cl fp => (he s H C cl fp).can) hs, eo_lc i hwi (fun F0 H0 F ρ σ H Q d S e q => ⟨F0, H0, F, ρ, d, S, e, q⟩) fun F0 H0 F ρ σ H Q d S e q => ⟨F0, H0, F, ρ, d, S, e, q⟩⟩
/-- y = [..] -/
theorem ds_setLc0 (i j : Nat) {y : Str} {py : Pos} (hI : DJ X (.Name x q) iter fi) (ok : BlkOk X.N X.env.scope scope [(x, i)]) (hN : X.N.Nodup)
    (he : ∀ (s : Shared) (H : Hp) (C : Addr) (cl : List (Str × Addr)) (fp : List Addr), DEs (X.blk s H scope (compEnvC scope cl C X.env) fp) elt fe)
    (hg : ∀ (s : Shared) (H : Hp) (C : Addr) (cl : List (Str × Addr)) (fp : List Addr), PG (X.blk s H scope (compEnvC scope cl C X.env) fp) (.Name x q) (gName i))
    (hsw : swapsWith (.ListComp elt [⟨.Name x q, iter, [], 0⟩] scope pos) (some (.Name y py)) spos.line X.env = pure true)
    (hy : X.N[j]? = some y := by rfl) (hyl : X.env.scope.names.lookup y = some .local := by rfl) (hc : X.calm = true := by rfl) (hs : ∀ x, foldedSetIterable iter X.env x = pure x := by intro _; rfl) :
    DS X EX (.Assign [.Name y py] (.ListComp elt [⟨.Name x q, iter, [], 0⟩] scope pos) spos) (sSetO j (oComp i fi tTrue fe)) := by
  obtain ⟨wi, pi, hwi⟩ := hI.ex
  refine ⟨_, ps_setLc (te := cEs X.K fe) hc hN hy hyl hsw pi ok hg (fun _ _ _ _ _ => pts_nil) (fun s H C cl fp => (he s H C cl fp).can) hs, fun F0 H0 F ρ σ H D S q => ?_⟩
  unfold sSetO at q
  cases e1 : oComp i fi tTrue fe ρ with
  | none => rw [e1] at q; exact q.elim
  | some ds =>
    rw [e1] at q
    refine eo_lc i hwi (fun F0 H0 F ρ σ H Q b S e q => ?_) (fun F0 H0 F ρ σ H Q d S e q => ⟨F0, H0, F, ρ, d, S, e, q⟩) F0 H0 F ρ σ H _ ds S e1 fun t vs F1 H1 g n1 n2 hp r => q F1 _ H1 (S.setO g n1 n2 hp r)
    cases e
    exact q F H (.refl S.gr.fh)
theorem ds_setLc1 (i j : Nat) {c : Expr} {y : Str} {py : Pos} (hI : DJ X (.Name x q) iter fi) (ok : BlkOk X.N X.env.scope scope [(x, i)]) (hN : X.N.Nodup)
    (ht : ∀ (s : Shared) (H : Hp) (C : Addr) (cl : List (Str × Addr)) (fp : List Addr), DT (X.blk s H scope (compEnvC scope cl C X.env) fp) c ft)
    (he : ∀ (s : Shared) (H : Hp) (C : Addr) (cl : List (Str × Addr)) (fp : List Addr), DEs (X.blk s H scope (compEnvC scope cl C X.env) fp) elt fe)
    (hg : ∀ (s : Shared) (H : Hp) (C : Addr) (cl : List (Str × Addr)) (fp : List Addr), PG (X.blk s H scope (compEnvC scope cl C X.env) fp) (.Name x q) (gName i))
    (hsw : swapsWith (.ListComp elt [⟨.Name x q, iter, [c], 0⟩] scope pos) (some (.Name y py)) spos.line X.env = pure true)
    (hy : X.N[j]? = some y := by rfl) (hyl : X.env.scope.names.lookup y = some .local := by rfl) (hc : X.calm = true := by rfl) (hs : ∀ x, foldedSetIterable iter X.env x = pure x := by intro _; rfl) :
    DS X EX (.Assign [.Name y py] (.ListComp elt [⟨.Name x q, iter, [c], 0⟩] scope pos) spos) (sSetO j (oComp i fi ft fe)) := by
  obtain ⟨wi, pi, hwi⟩ := hI.ex
  refine ⟨_, ps_setLc (te := cEs X.K fe) (tt := cET X.K ft) hc hN hy hyl hsw pi ok hg (fun s H C cl fp => pts_one (ht s H C cl fp).can) (fun s H C cl fp => (he s H C cl fp).can) hs, fun F0 H0 F ρ σ H D S q => ?_⟩
  unfold sSetO at q
  cases e1 : oComp i fi ft fe ρ with
  | none => rw [e1] at q; exact q.elim
  | some ds =>
    rw [e1] at q
    exact eo_lc i hwi (fun F0 H0 F ρ σ H Q d S e q => ⟨F0, H0, F, ρ, d, S, e, q⟩) (fun F0 H0 F ρ σ H Q d S e q => ⟨F0, H0, F, ρ, d, S, e, q⟩) F0 H0 F ρ σ H _ ds S e1 fun t vs F1 H1 g n1 n2 hp r => q F1 _ H1 (S.setO g n1 n2 hp r)
end

/-! ### calls of the text's defs -/
def ArgOk (K : PySem.W.Frag) (F H : Hp) (v : V) : Sl → Prop
  | .fz d => Rp K F v d
  | .br ds => ∃ a vs, v = .ref a ∧ SqL K H a vs ∧ RpAll K F vs ds
  | _ => False
inductive ArgsOk (K : PySem.W.Frag) (F H : Hp) : List V → List Sl → Prop
  | nil : ArgsOk K F H [] []
  | cons {v : V} {vs : List V} {s : Sl} {ss : List Sl} : ArgOk K F H v s → ArgsOk K F H vs ss → ArgsOk K F H (v :: vs) (s :: ss)
theorem ArgOk.grow {K : PySem.W.Frag} {F H F' H' : Hp} {v : V} {s : Sl} (h : ArgOk K F H v s) (g : Grow F H F' H') : ArgOk K F' H' v s := by
  cases s with
  | fz d => exact Rp.mono g.ff _ _ h
  | br ds => obtain ⟨a, vs, e, h1, h2⟩ := h; exact ⟨a, vs, e, g.hh.seq h1, RpAll.mono g.ff _ _ h2⟩
  | un => exact h
  | ow ds => exact h
  | pw b ds => exact h
theorem ArgsOk.length {K : PySem.W.Frag} {F H : Hp} : ∀ {vs : List V} {ss : List Sl}, ArgsOk K F H vs ss → vs.length = ss.length
  | _, _, .nil => rfl
  | _, _, .cons _ t => congrArg (· + 1) (ArgsOk.length t)
theorem ArgsOk.get {K : PySem.W.Frag} {F H : Hp} : ∀ {vs : List V} {ss : List Sl} {i : Nat} {s : Sl}, ArgsOk K F H vs ss → ss[i]? = some s → ∃ v, vs[i]? = some v ∧ ArgOk K F H v s
  | _, _, _, _, .nil, e => by simp at e
  | _, _, 0, _, .cons r _, e => by simp at e; subst e; exact ⟨_, rfl, r⟩
  | _, _, i + 1, d, .cons _ t, e => by
    obtain ⟨v, h1, h2⟩ := ArgsOk.get (i := i) (s := d) t (by simpa using e)
    exact ⟨v, by simpa using h1, h2⟩
abbrev LFn := DEnv → Option (List Sl)
def EgOk (K : PySem.W.Frag) (ta : TA) (n : Nat) (f : LFn) : Prop := ∀ F0 H0 F ρ σ H Q ss, StF K F0 H0 F ρ σ H → f ρ = some ss → (∀ vs F' H', Grow F H F' H' → ArgsOk K F' H' vs ss → vs.length = n → Q vs H') → ta σ H Q
structure DG (X : Cx) (es : List Expr) (f : LFn) : Prop where
  ex : ∃ ta, PA X es ta ∧ EgOk X.K ta es.length f
def gNil : LFn := fun _ => some []
def gS (f : EFn) (r : LFn) : LFn := fun ρ => (f ρ).bind fun d => (r ρ).map (Sl.fz d :: ·)
def gW (f : EFn) (r : LFn) : LFn := fun ρ => match f ρ with | some (.list ds) => (r ρ).map (Sl.br ds :: ·) | _ => none
theorem dg_nil : DG X [] gNil := ⟨_, pa_nil, fun F0 H0 F ρ σ H Q ss S e q => by cases e; exact q [] F H (.refl S.gr.fh) .nil rfl⟩
theorem dg_s {es : List Expr} {fr : LFn} (ha : DEs X a fa) (hr : DG X es fr) (hs : starEach (a :: es) X.env = (false, eval a X.env) :: starEach es X.env := by rfl) : DG X (a :: es) (gS fa fr) := by
  obtain ⟨ta, pa, ha⟩ := ha.ex
  obtain ⟨tr, pr, hr⟩ := hr.ex
  refine ⟨_, pa_cons pa pr hs, fun F0 H0 F ρ σ H Q ss S e q => ?_⟩
  obtain ⟨d, e1, e2⟩ := Option.bind_eq_some_iff.mp e
  obtain ⟨ss', e3, e4⟩ := Option.map_eq_some_iff.mp e2
  subst e4
  refine ha F0 H0 F ρ σ H _ d S e1 fun v F1 H1 g r => ?_
  refine hr F0 H0 F1 ρ σ H1 _ ss' (S.grow g) e3 fun vs F2 H2 g2 r2 hl => ?_
  exact q (v :: vs) F2 H2 (g.trans g2) (.cons (ArgOk.grow (s := .fz d) r g2) r2) (congrArg (· + 1) hl)
theorem dg_w {es : List Expr} {fr : LFn} (ha : DEw X a fa) (hr : DG X es fr) (hs : starEach (a :: es) X.env = (false, eval a X.env) :: starEach es X.env := by rfl) : DG X (a :: es) (gW fa fr) := by
  obtain ⟨ta, pa, ha⟩ := ha.ex
  obtain ⟨tr, pr, hr⟩ := hr.ex
  refine ⟨_, pa_cons pa pr hs, fun F0 H0 F ρ σ H Q ss S e q => ?_⟩
  unfold gW at e
  cases h1 : fa ρ with
  | none => rw [h1] at e; cases e
  | some x =>
    rw [h1] at e
    cases x <;> first | (cases e; done) | skip
    rename_i ds
    obtain ⟨ss', e3, e4⟩ := Option.map_eq_some_iff.mp (show (fr ρ).map (Sl.br ds :: ·) = some ss from e)
    subst e4
    refine ha F0 H0 F ρ σ H _ _ S h1 fun v F1 H1 g r => ?_
    refine hr F0 H0 F1 ρ σ H1 _ ss' (S.grow g) e3 fun vs F2 H2 g2 r2 hl => ?_
    exact q (v :: vs) F2 H2 (g.trans g2) (.cons (ArgOk.grow (s := .br ds) (r.list g.fh) g2) r2) (congrArg (· + 1) hl)
/-- what a def with the body b (m names beside its parameters) comes to -/
def FinOk (K : PySem.W.Frag) (F H : Hp) (Q : VK) (EX : EXX) : Out → Prop
  | .rt d => ∀ v F' H', Grow F H F' H' → Rp K F' v d → Q v H'
  | .nx _ => ∀ F' H', Grow F H F' H' → Q .non H'
  | .rs x => EX x H
  | _ => False
/-- the two errors of the text -/
def exx (CL CN : Addr) (E : XK) : EXX := fun x H => match x with
  | .late k => ∀ d H', Same H H' → H d = none → H' d = some (.xd [(("rope" : Str), .int k)]) → E (.ref CL) (some d) H'
  | .noplan => ∀ H', Same H H' → E (.ref CN) none H'
def spD (K : PySem.W.Frag) (CL CN : Addr) (n m : Nat) (b : Nat → SFn) : Sp := fun vs H Q E => vs.length = n ∧ ∃ F ss fuel, Same F H ∧ ArgsOk K F H vs ss ∧ FinOk K F H Q (exx CL CN E) (b fuel (ss ++ List.replicate m .un))
def eCall (b : SFn) (m : Nat) (fg : LFn) : EFn := fun ρ => (fg ρ).bind fun ss => match b (ss ++ List.replicate m .un) with
  | .rt d => some d
  | .nx _ => some .none
  | _ => none
theorem eCall_some {b : SFn} {m : Nat} {fg : LFn} {ρ : DEnv} {d : PyData} (e : eCall b m fg ρ = some d) : ∃ ss, fg ρ = some ss ∧ ((b (ss ++ List.replicate m .un) = .rt d) ∨ ∃ ρ', b (ss ++ List.replicate m .un) = .nx ρ' ∧ d = .none) := by
  obtain ⟨ss, e1, e2⟩ := Option.bind_eq_some_iff.mp e
  refine ⟨ss, e1, ?_⟩
  cases h : b (ss ++ List.replicate m .un) with
  | rt d' => simp only [h] at e2; cases e2; exact .inl rfl
  | nx ρ' => simp only [h] at e2; cases e2; exact .inr ⟨ρ', rfl, rfl⟩
  | _ => simp only [h] at e2; cases e2
section
variable {CX : CXT} {k : Nat} {g : Addr} {fd : FuncData} {ps : List Str} {CL CN : Addr} {n m : Nat} {bd : Nat → SFn} {fg : LFn} {es : List Expr}
/-- a call that raises nothing -/
theorem de_call (fuel : Nat) (G : FnOk X.prog X.w X.K X.mg X.base CX k g fd ps (spD X.K CL CN n m bd)) (hr : Room k X.A) (hm : X.mg x = some (.ref g)) (hk : PySem.W.keepIn X.K (.ref g) = true) (hb : Binds X.K fd ps []) (hx : Passes CX X E0)
    (ha : DG X (a :: es) fg) (hn : (a :: es).length = n := by rfl) (hg : Gl X x := by rfl) (hdb : (x == ("__debug__" : Str)) = false := by decide)
    (he : starEach (a :: es) X.env = (false, eval a X.env) :: starEach es X.env := by rfl) (hpl : (backTo pos (starEach es X.env)).any (·.1) = false := by rfl) :
    DEs X (.Call (.Name x p) (a :: es) [] pos) (eCall (bd fuel) m fg) := by
  obtain ⟨ta, pa, ha⟩ := ha.ex
  refine ⟨_, pe_call G hr hg hm hk hb .nil hx pa hdb he hpl, fun F0 H0 F ρ σ H Q d S e q => ?_⟩
  obtain ⟨ss, e1, e2⟩ := eCall_some e
  refine ha F0 H0 F ρ σ H _ ss S e1 fun vs F1 H1 g1 r1 hl => ?_
  show spD X.K CL CN n m bd (vs ++ []) H1 Q E0
  rw [List.append_nil]
  refine ⟨hl.trans hn, F1, ss, fuel, g1.fh, r1, ?_⟩
  rcases e2 with e2 | ⟨ρ', e2, rfl⟩
  · rw [e2]; exact fun v F' H' g2 r2 => q v F' H' (g1.trans g2) r2
  · rw [e2]; exact fun F' H' g2 => q _ F' H' (g1.trans g2) .non
end
end
end L2.RC

namespace L2.RC
open PySem PySem.Spec PyProof.Rows
/-! ### a def keeps its promise -/
theorem start_ok {K : PySem.W.Frag} {F H : Hp} {N : List Str} {vs : List V} {ss : List Sl} {n : Nat} (s : Same F H) (r : ArgsOk K F H vs ss) (hl : vs.length = n) (hn : n ≤ N.length) :
    StF K F H F (ss ++ List.replicate (N.length - n) .un) (start N vs) H := by
  have hls := r.length
  refine ⟨.refl s, fun i x e => ?_, fun i j a s t h1 _ o1 _ _ _ => ?_, ?_⟩
  · by_cases hi : i < ss.length
    · rw [List.getElem?_append_left hi] at e
      obtain ⟨v, h1, h2⟩ := r.get e
      have hs : (start N vs)[i]? = some (some v) := by
        unfold start
        rw [List.getElem?_append_left (by rw [List.length_map]; omega), List.getElem?_map, h1]
        rfl
      rw [hs]
      cases x with
      | un => trivial
      | fz d => exact ⟨v, rfl, h2⟩
      | ow ds => exact h2.elim
      | pw b ds => exact h2.elim
      | br ds => obtain ⟨a, ws, rfl, h3, h4⟩ := h2; exact ⟨a, ws, rfl, h3, h4⟩
    · rw [List.getElem?_append_right (by omega), List.getElem?_replicate] at e
      split at e
      · cases e; trivial
      · cases e
  · by_cases hi : i < ss.length
    · rw [List.getElem?_append_left hi] at h1
      obtain ⟨v, _, h2⟩ := r.get h1
      cases s with
      | ow ds => exact h2.elim
      | pw b ds => exact h2.elim
      | un => cases o1
      | fz d => cases o1
      | br ds => cases o1
    · rw [List.getElem?_append_right (by omega), List.getElem?_replicate] at h1
      split at h1
      · cases h1; cases o1
      · cases h1
  · unfold start
    rw [List.length_append, List.length_append, List.length_map, List.length_replicate, List.length_replicate]
    omega
theorem fin_out {K : PySem.W.Frag} {F H : Hp} {Q : VK} {EX : EXX} {o : Out} (h : FinOk K F H Q EX o) : OutOk K F H { nx := fun _ H' => Q .non H', rt := Q } EX o := by
  cases o with
  | nx ρ => exact fun F' σ' H' S => h F' H' S.gr
  | rt d => exact h
  | rs x => exact h
  | bk ρ => exact h.elim
  | ct ρ => exact h.elim
  | no => exact h.elim
structure DefAt (K : PySem.W.Frag) (mg : Str → Option Value) (x : Str) (st : Stmt) (f : Addr) (fd : FuncData) : Prop where
  F : Fun K x x st f fd
  g : mg x = some (.ref f)
section
variable {P : Program} {w : World} {K : PySem.W.Frag} {mg : Str → Option Value} {base : Heap} {CL CN : Addr}
theorem scope_le {N ps : List Str} {sc : Scope} (S : FnScope N ps sc) : ps.length ≤ N.length := by
  have := congrArg List.length S.pre
  rw [List.length_take] at this
  omega
theorem mk_ok {x qual : Str} {st : Stmt} {f : Addr} {fd : FuncData} {N ps : List Str} {k : Nat} {b : Nat → SFn} (F : Fun K x qual st f fd) (S : FnScope N ps (defScope st))
    (hb : ∀ (cdv : Value) (A : Around) (outer : List Env) (s : Shared) (H : Hp) (E : XK), Room k (A.deeper (envOfC qual (defScope st) s.heap.objs.size f cdv)) → ∀ n, DSs (cxOf CX0 P w K mg base N qual (defScope st) f cdv A outer s H E).nox (exx CL CN E) (defBody st) (b n)) :
    FnOk P w K mg base CX0 (k + 1) f fd ps (spD K CL CN ps.length (N.length - ps.length) b) := by
  refine F.ok S (fun vs H Q E h => h.1) fun cdv A outer s H vs Q E hr h => ?_
  obtain ⟨hl, F, ss, fuel, sF, ra, fin⟩ := h
  obtain ⟨t, pt, ht⟩ := (hb cdv A outer s H E hr fuel).ex
  exact ⟨t, pt, ht F H F _ _ H _ (start_ok sF ra hl (scope_le S)) (fin_out fin)⟩
/-- .. that may raise -/
theorem mk_okX {x qual : Str} {st : Stmt} {f : Addr} {fd : FuncData} {N ps : List Str} {k : Nat} {b : Nat → SFn} (F : Fun K x qual st f fd) (S : FnScope N ps (defScope st))
    (hb : ∀ (cdv : Value) (A : Around) (outer : List Env) (s : Shared) (H : Hp) (E : XK), Room k (A.deeper (envOfC qual (defScope st) s.heap.objs.size f cdv)) → ∀ n, DSs (cxOf (L2.CX P w) P w K mg base N qual (defScope st) f cdv A outer s H E) (exx CL CN E) (defBody st) (b n)) :
    FnOk P w K mg base (L2.CX P w) (k + 1) f fd ps (spD K CL CN ps.length (N.length - ps.length) b) := by
  refine F.okX S (fun vs H Q E h => h.1) fun cdv A outer s H vs Q E hr h => ?_
  obtain ⟨hl, F, ss, fuel, sF, ra, fin⟩ := h
  obtain ⟨t, pt, ht⟩ := (hb cdv A outer s H E hr fuel).ex
  exact ⟨t, pt, ht F H F _ _ H _ (start_ok sF ra hl (scope_le S)) (fin_out fin)⟩
end
/-- the law's own promise, where its body comes to True at every script -/
theorem law_sp {K : PySem.W.Frag} {CL CN : Addr} {m : Nat} {b : Nat → SFn} {H : Hp} {a : Addr} {ns : List Int} {Q : VK} {E : XK} (hS : SqL K H a (ns.map V.int)) (h : ∃ n, b n (Sl.br (ns.map .int) :: List.replicate m .un) = .rt (.bool true)) (q : ∀ H', Q (.bl true) H') :
    spD K CL CN 1 m b [.ref a] H Q E := by
  obtain ⟨n, h⟩ := h
  refine ⟨rfl, fun _ => none, [Sl.br (ns.map .int)], n, fun _ _ z => (by cases z), .cons ⟨a, _, rfl, hS, rpAll_ints ns⟩ .nil, ?_⟩
  show FinOk _ _ _ _ _ (b n (Sl.br (ns.map .int) :: List.replicate m .un))
  rw [h]
  intro v F' H' g r
  cases r
  exact q H'
end L2.RC

namespace PySem
namespace LateX
open PySem.W PySem.Calls PyProof.Rows PySem.HandSPX
/-! ### the text of __init__ -/
def iA (p1 p2 : Pos) : Arguments := { posonlyargs := [], args := [{ arg := "self", annotation := none, pos := p1 }, { arg := "rope", annotation := none, pos := p2 }], vararg := none, kwonlyargs := [], kw_defaults := [], kwarg := none, defaults := [] }
def iB (q1 q2 q3 q4 : Pos) : List Stmt := [.Assign [.Attribute (.Name "self" q1) "rope" q2] (.Name "rope" q3) q4]
def iS : Scope := { kind := .function, names := [(PySem.Str.ofString "self", .local), (PySem.Str.ofString "rope", .local)], isGenerator := false, isCoroutine := false, more := [] }
/-- what the written part says of Low, at C, and of its __init__, at fI -/
structure LateTxt (K : Frag) (mg : Str → Option Value) (C fI : Addr) : Prop where
  gC : mg "Late" = some (.ref C)
  cls : ∃ nm q N bs bm sn sub ab col dd k0 k1 k2 k3 k5, K.lookup C = some (excClassObj nm q C N bs bm true sn sub ab col dd k0 k1 k2 k3 k5 "ValueError.__new__") ∧ refsVE bm = true
  sa : findIn K (.ref C) "__setattr__" = some (some (.builtin "object.__setattr__"))
  ga : findIn K (.ref C) "__getattribute__" = some (some (.builtin "BaseException.__getattribute__"))
  gg : findIn K (.ref C) "__getattr__" = some none
  noN : findIn K (.ref C) "rope" = some none
  iC : findIn K (.ref C) "__init__" = some (some (.ref fI))
  tC : typeIn K (.ref fI) = some (.type "function")
  kC : keepIn K (.ref C) = true
  exC : subIn K (.ref C) (.type "BaseException") = some true
  tyC : typeIn K (.ref C) = some (.type "type")
  hdC : hasDictIn K C = true
  te : exmOne K (.ref C) (.ref C) = some true
  fn : ∃ (oc : Value) (od : Option Addr) (doc pm : Value) (an : Option Addr) (cdv ct : Value) (osl : Array (Option Value)) (p1 p2 q1 q2 q3 q4 : Pos),
    K.lookup fI = some ⟨oc, od, .func (fnOf "__init__" "Late.__init__" (iA p1 p2) (iB q1 q2 q3 q4) iS .none .none doc pm an cdv ct), osl⟩ ∧ codeIn K cdv "Late.__init__" = true
theorem one_size (v : Value) : [v].length ≤ sizeLine := by
  rw [sizeLine_eq]
  exact (by decide : 1 ≤ 16777216)
theorem kept_but {K : Frag} {h h' : Heap} {x : Addr} (X : K.In h) (hx : K.lookup x = none) (k : ∀ b o, b ≠ x → h.get? b = some o → h'.get? b = some o) : K.In h' := fun a o e =>
  k a o (fun z => by rw [z, hx] at e; cases e) (X a o e)
theorem ldC {M : Model} {s : Shared} {name : Str} {scope : Scope} {L a : Addr} {cd : Value} {m : Str → Option Value} {x : Str} {pos : Pos} {v : Value} {Q : Value → Shared → Prop} {A : Around} {E : Value → Shared → Prop} (hn : s.heap.Ns L m) (hv : m x = some v) (h : Q v s)
    (hk : scope.kind = .function := by rfl) (hl : (envOfC name scope L a cd).kindOf x = some .local := by rfl) (hd : (x == ("__debug__" : Str)) = false := by decide) :
    wpAny M A (eval (.Name x pos) (envOfC name scope L a cd)) Q E s := wpAny_Name (wpAny_loadName_local hk hl hn hv h) hd
/-- what __init__ leaves of a fresh exception at x -/
structure InitEnd (h h' : Heap) (x C dx t1 : Addr) (v : Value) : Prop where
  keep : ∀ b o, b ≠ x → h.get? b = some o → h'.get? b = some o
  obj : h'.get? x = some { cls := .ref C, dict := some dx, data := .fields #[.ref t1, .none, .none, .none, .bool false, .none] }
  dbig : h.objs.size ≤ dx
  dne : dx ≠ x
  ns : h'.Ns1 dx (fun y => if y = "rope" then some v else none)
/-- a made Low -/
structure OwnMade (h h' : Heap) (e C d : Addr) (v : Value) : Prop where
  keep : ∀ b o, h.get? b = some o → h'.get? b = some o
  new : h.objs.size ≤ e
  obj : ∃ oe vs, h'.get? e = some oe ∧ oe.cls = .ref C ∧ oe.dict = some d ∧ oe.data = .fields vs ∧ vs[1]? = some .none
  dbig : h.objs.size ≤ d
  dne : d ≠ e
  ns : h'.Ns1 d (fun y => if y = "rope" then some v else none)
section
variable {prog : Program} {w : World} {A : Around} {E : Value → Shared → Prop} {R : Result → Shared → Prop} {s : Shared} {K : Frag} {mg : Str → Option Value} {C fI : Addr}
theorem late_init (T : LateTxt K mg C fI) {x t0 : Addr} {v : Value} (X : K.In s.heap) (hlim : s.heap.NoLimit) (hx : s.heap.get? x = some (excO C t0)) (hnx : K.lookup x = none) (hroom : A.depth < recursionLimit)
    (hq : ∀ h' tk dx, InitEnd s.heap h' x C dx t0 v → R (.ok (.ret .none)) { s with heap := h', toks := tk }) :
    codeAny (model prog w) A (.call (.ref fI) ⟨[.ref x, v], []⟩) R s := by
  obtain ⟨oc, od, doc, pm, an, cdv, ct, osl, p1, p2, q1, q2, q3, q4, ho, hcd⟩ := T.fn
  obtain ⟨nm, q, N, bs, bm, sn, sub, ab, col, dd, k0, k1, k2, k3, k5, hC, hbm⟩ := T.cls
  have hcl : clsIn K C = some { name := nm, bases := bs, mro := .ref C :: bm, ns := N, qualname := q, hasDict := true, slotNames := sn, subclasses := sub, abstract := ab, collection := col, hasDel := false } := by unfold clsIn; rw [hC] <;> rfl
  refine Att.call_fn (binds := [("self", .ref x), ("rope", v)]) X hlim ho hcd hroom (BindsTo.of_eq (by first | rfl | with_unfolding_all rfl)) (by first | rfl | decide | with_unfolding_all rfl) (fun s₁ IC => ?_) rfl rfl rfl
  obtain ⟨h₁, tk₁, rfl⟩ := IC.toInCall.same
  have k : ∀ b o, s.heap.get? b = some o → h₁.get? b = some o := IC.toInCall.keep
  have hn := IC.toInCall.ns
  have hxL : s.heap.objs.size ≠ x := Nat.ne_of_gt (Heap.lt_size hx)
  have X₁ : K.In h₁ := X.keeps k
  have hx₁ := k _ _ hx
  -- self.by = by
  show wpAny _ _ (execs _ _) _ _ _
  refine wpAny_execs_cons (plainObj_wpAny_Assign_Attribute ?_)
  refine ldC (v := v) hn (by first | rfl | with_unfolding_all rfl | kernel_rfl) (ldC (v := .ref x) hn (by first | rfl | with_unfolding_all rfl | kernel_rfl) ?_)
  refine set_plain X₁ (ox := excO C t0) (od := none) ⟨hx₁, rfl, rfl, trivial⟩ T.sa ?_
  refine exc_osa X₁ hx₁ hcl (show refsVE (.ref C :: bm) = true from hbm) rfl T.noN (fun h₃ tk₃ dx k₃ dn dne hx₃ hn₃ => ?_)
  show wpAny _ _ (execs _ _) _ _ _
  have z : s.heap.objs.size < h₁.objs.size := hn.lt
  exact wpAny_execs_nil (hq h₃ tk₃ dx ⟨fun b o hb e => k₃ b o hb (k b o e), hx₃, Nat.le_of_lt (Nat.lt_of_lt_of_le z dn), dne, hn₃⟩)
theorem late_made (T : LateTxt K mg C fI) {v : Value} (X : K.In s.heap) (hlim : s.heap.NoLimit) (hroom : A.depth + 1 < recursionLimit)
    (hq : ∀ h' tk e d, OwnMade s.heap h' e C d v → R (.ok (.ret (.ref e))) { s with heap := h', toks := tk }) :
    codeAny (model prog w) A (.call (.ref C) ⟨[v], []⟩) R s := by
  obtain ⟨nm, q, N, bs, bm, sn, sub, ab, col, dd, k0, k1, k2, k3, k5, hC, hbm⟩ := T.cls
  obtain ⟨hp, g, dr, tk, os⟩ := s
  have k : ∀ b o, hp.get? b = some o → ((hp.push (kdv_tup [v])).push (excO C hp.objs.size)).get? b = some o := fun b o e => Heap.get?_push_of_some _ (Heap.get?_push_of_some _ e)
  have hget : ((hp.push (kdv_tup [v])).push (excO C hp.objs.size)).get? (hp.objs.size + 1) = some (excO C hp.objs.size) := by heap_get
  have hnx : K.lookup (hp.objs.size + 1) = none := by
    cases e : K.lookup (hp.objs.size + 1) with
    | none => rfl
    | some o =>
      have z : hp.get? (hp.objs.size + 1) = some o := X _ _ e
      exact absurd (Nat.lt_of_succ_lt (Heap.lt_size z)) (Nat.lt_irrefl _)
  refine call_own F.excBase_ValueError (fun X => refsVE_contains X bm hbm) (X _ _ hC) (looks_findIn X T.iC) (fun self => bind_fn X self T.tC) (one_size v) ?_
  refine late_init (s := ⟨(hp.push (kdv_tup [v])).push (excO C hp.objs.size), g, dr, tk, os⟩) T (X.keeps k) (hlim.keeps k) hget hnx ?_ fun h' tk' dx ⟨k', hx, dn, dne, hns⟩ => ?_
  · show A.depth + 1 < recursionLimit
    exact hroom
  · have old : ∀ b o, hp.get? b = some o → h'.get? b = some o := fun b o e => k' b o (Nat.ne_of_lt (Nat.lt_succ_of_lt (Heap.lt_size e))) (k b o e)
    have z : hp.objs.size + 1 + 1 ≤ dx := by
      first
        | (simpa only [Heap.size_push] using dn)
        | exact dn
        | (have q := dn; rw [Heap.size_push, Heap.size_push] at q; exact q)
    exact ⟨rfl, hq h' tk' (hp.objs.size + 1) dx ⟨old, Nat.le_succ _, ⟨_, _, hx, rfl, rfl, rfl, rfl⟩, Nat.le_trans (Nat.le_trans (Nat.le_succ _) (Nat.le_succ _)) z, dne, hns⟩⟩
end
end LateX
end PySem
namespace L2
open PySem PySem.Spec PyProof.Rows
theorem relO_late {v : V} {v' : Value} (r : RelV v v') (f : Str) : RelO (List.lookup f [(("rope" : Str), v)]) (if f = "rope" then some v' else none) := by
  by_cases hw : f = "rope"
  · subst hw
    rw [if_pos rfl]
    have q : List.lookup ("rope" : Str) [(("rope" : Str), v)] = some v := by simp [List.lookup]
    rw [q]
    exact r
  · rw [if_neg hw]
    have qw : (f == ("rope" : Str)) = false := by simpa using hw
    have q2 : List.lookup f [(("rope" : Str), v)] = none := by simp [List.lookup, qw]
    rw [q2]
    trivial
section
variable {X : Cx} {C fI : Addr}
/-- Late(e) -/
def tMkLate (C : Addr) (ta : TA) : St → Hp → XK → Prop := fun σ H Q => ta σ H fun vs H1 => ∃ v, vs = [v] ∧ ∀ d, H1 d = none → Q (.ref C) (some d) (upd H1 d (.xd [(("rope" : Str), v)]))
theorem pmk_late {a : Expr} {ta : TA} {p pos : Pos} {k : Nat} (T : PySem.LateX.LateTxt X.K X.mg C fI) (hr : Room k X.A) (ha : PA X [a] ta) (hg : Gl X "Late" := by rfl)
    (he : starEach (a :: []) X.env = (false, eval a X.env) :: starEach [] X.env := by rfl) (hpl : (backTo pos (starEach [] X.env)).any (·.1) = false := by rfl) :
    PMk X (.Call (.Name "Late" p) [a] [] pos) (tMkLate C ta) := by
  intro pins s σ H Q I h
  refine wpAny_Call_Name_kw (ld_glob I hg T.gC ?_)
  refine PySem.W.callWith_K (h₀ := X.base) I.ok.mod.kin T.kC (thn (ha.run pos pins s σ H _ I h) fun us s1 hh => ?_) he hpl
  obtain ⟨vs, H1, I1, r1, v, ev, q1⟩ := hh
  subst ev
  refine ⟨I1.kIn, ?_⟩
  cases r1 with
  | cons rv rn =>
    rename_i v' us'
    cases rn
    show wpAny _ _ (call (.ref C) [v']) _ _ _
    have hlim := I1.nolimit
    obtain ⟨hp, g, dr, tk, os⟩ := s1
    refine wpAny_call (PySem.LateX.late_made T I1.kIn hlim (by have := hr.dp; omega) fun h' tk' e d M => ?_)
    show MkP X pins σ Q (.ref e) ⟨h', g, dr, tk', os⟩
    obtain ⟨oe, fv, hoe, hc, hd, hdat, h1⟩ := M.obj
    have hns := M.ns
    obtain ⟨G', g1, g2⟩ := restrict h' fun b => decide (b ≠ e)
    have gk : ∀ b, b ≠ e → G'.get? b = h'.get? b := fun b hb => g1 b (decide_eq_true hb)
    have ge : G'.get? e = none := g2 e (by simp)
    have old : ∀ b o, hp.get? b = some o → G'.get? b = some o := fun b o q => (gk b (Nat.ne_of_lt (Nat.lt_of_lt_of_le (Heap.lt_size q) M.new))).trans (M.keep b o q)
    have ob : ObjOk X.prog X.w (upd H1 d (.xd [(("rope" : Str), v)])) G' d (.xd [(("rope" : Str), v)]) :=
      ⟨_, hns.at (fun o q => (gk d M.dne).trans q), fun f => relO_late rv f⟩
    have J : Inv X pins σ (upd H1 d (.xd [(("rope" : Str), v)])) ⟨G', g, dr, tk', os⟩ := I1.laid (t' := tk') old M.dbig ob
    refine ⟨e, oe, fv, ⟨G', g, dr, tk', os⟩, _, .ref C, some d, rfl, J, fun b o q => ?_, ge, hoe, ⟨hc, hd⟩, hdat, h1, ?_, rfl, I1.bare, raises_own T.exC T.tyC, q1 d (I1.hok.fresh M.dbig)⟩
    · by_cases hb : b = e
      · have q' : G'.get? b = some o := q
        rw [hb, ge] at q'; cases q'
      · exact (gk b hb).symm.trans q
    · rw [upd_ne (Ne.symm M.dne)]
      exact I1.hok.fresh M.new
/-- raise Late(e) -/
def tRaiseLate (C : Addr) (W : WX) (ta : TA) : TS := fun _ σ H => tMkLate C ta σ H fun cls d H' => W cls d σ H'
theorem ps_raiseLate {a : Expr} {ta : TA} {W : WX} {p pos pos2 : Pos} {k : Nat} (hc : X.calm = true) (T : PySem.LateX.LateTxt X.K X.mg C fI) (hr : Room k X.A) (tk : Takes X W) (ha : PA X [a] ta) (hg : Gl X "Late" := by rfl)
    (he : starEach (a :: []) X.env = (false, eval a X.env) :: starEach [] X.env := by rfl) (hpl : (backTo pos (starEach [] X.env)).any (·.1) = false := by rfl) :
    PS X (.Raise (some (.Call (.Name "Late" p) [a] [] pos)) none pos2) (tRaiseLate C W ta) := ps_raise hc tk (pmk_late T hr ha hg he hpl)
/-- low.by, low the exception that the suite holds (at a; its class cls, its dict d) -/
def tByLate (C : Addr) (a : Addr) (cls : Value) (d : Option Addr) (te : TE) : TE := fun σ H Q => te σ H fun x H1 => x = .ref a ∧ cls = .ref C ∧ ∃ (dd : Addr) (v : V), d = some dd ∧ H1 dd = some (.xd [(("rope" : Str), v)]) ∧ Q v H1
theorem pe_byLate {a : Addr} {oe : Obj} {cls : Value} {d : Option Addr} {pn : List (Addr × Obj)} {e : Expr} {te : TE} {pos : Pos} (T : PySem.LateX.LateTxt X.K X.mg C fI) (hz : Zc cls d oe) (hf : ∃ vs, oe.data = .fields vs) (he : PE (X.suite a ((a, oe) :: pn)) e te)
    (hb : attributeBase e "rope" X.env (eval e X.env) = eval e X.env := by rfl) :
    PE (X.suite a ((a, oe) :: pn)) (.Attribute e "rope" pos) (tByLate C a cls d te) := by
  refine ⟨fun pins s σ H Q I h => ?_⟩
  refine attr_of hb (thn (he.run pins s σ H _ I h) fun u s1 hh => ?_)
  obtain ⟨x, H1, I1, rx, ex, ec, dd, v, ed, ea, q⟩ := hh
  subst ex
  obtain rfl : u = Value.ref a := rx
  subst ec
  subst ed
  obtain ⟨ha, _⟩ := I1.pin (a, oe) (List.mem_append_left _ List.mem_cons_self)
  obtain ⟨vs, hd⟩ := hf
  have hx : ObjOk X.prog X.w H1 s1.heap dd (.xd [(("rope" : Str), v)]) := I1.hok dd _ ea
  obtain ⟨mA, hns, hr⟩ := hx
  obtain ⟨od, ho, hl⟩ := lookIn_ns hns
  have l : List.lookup ("rope" : Str) [(("rope" : Str), v)] = some v := by simp [List.lookup]
  obtain ⟨u, hu, ru⟩ := RelO.some_of (v := v) (o := mA "rope") (by rw [← l]; exact hr "rope")
  have J : PySem.W.InstAt s1.heap a oe C (some od) := ⟨ha, hz.1, by unfold PySem.W.notCls; rw [hd] <;> rfl, by rw [hz.2]; exact ho⟩
  exact HandSPX.exc_get I1.kIn J T.ga T.gg T.exC (PySem.W.findObj_own T.hdC T.noN rfl (by rw [hl, hu])) (handed_of ru) ⟨v, H1, I1.tok _, ru, q⟩
end
end L2

namespace L2.RC
open PySem PySem.Spec PyProof.Rows
section
variable {X : Cx} {E : XK} {e a : Expr} {pos pos2 p : Pos} {f fa : EFn} {CL CN fI : Addr} {k : Nat} {x : Str}
/-! ### errors raised -/
abbrev toE (E : XK) : WX := fun cls d _ H => E cls d H
theorem exx_mono {H H1 : Hp} {y : Ex} (h : exx CL CN E y H) (s : Same H H1) : exx CL CN E y H1 := by
  cases y with
  | late j => exact fun d H' s' n e => h d H' (s.trans s') (s.free n) e
  | noplan => exact fun H' s' => h H' (s.trans s')
def sLate (f : EFn) : SFn := fun ρ => match f ρ with | some (.int j) => .rs (.late j) | _ => .no
theorem ds_late (T : PySem.LateX.LateTxt X.K X.mg CL fI) (hr : Room k X.A) (tk : Takes X (toE E)) (h : DEs X a f) (hc : X.calm = true := by rfl) (hg : Gl X "Late" := by rfl)
    (he : starEach (a :: []) X.env = (false, eval a X.env) :: starEach [] X.env := by rfl) (hpl : (backTo pos (starEach [] X.env)).any (·.1) = false := by rfl) :
    DS X (exx CL CN E) (.Raise (some (.Call (.Name "Late" p) [a] [] pos)) none pos2) (sLate f) := by
  obtain ⟨te, pe, h⟩ := h.ex
  refine ⟨_, ps_raiseLate hc T hr tk (pa_cons pe pa_nil he) hg he hpl, fun F0 H0 F ρ σ H D S q => ?_⟩
  unfold sLate at q
  cases e1 : f ρ with
  | none => rw [e1] at q; exact q.elim
  | some d =>
    rw [e1] at q
    cases d <;> first | (exact q.elim) | skip
    rename_i j
    refine h F0 H0 F ρ σ H _ _ S e1 fun v F1 H1 g r => ?_
    cases r
    have g0 := S.gr.trans g
    exact ⟨_, rfl, fun d hd => q d _ (g0.hh.trans (same_upd hd)) (g0.hh.free hd) upd_same⟩
/-- what the written part says of an own error class without an __init__ of its own -/
structure NoPl (K : PySem.W.Frag) (mg : Str → Option Value) (x : Str) (C : Addr) : Prop where
  g : mg x = some (.ref C)
  x : PySem.W.excIn K C [.type "ValueError", .type "Exception", .type "BaseException", .type "object"] "ValueError.__new__" = true
  k : PySem.W.keepIn K (.ref C) = true
  b : PySem.W.subIn K (.ref C) (.type "BaseException") = some true
  t : PySem.W.typeIn K (.ref C) = some (.type "type")
def sNoPlan : SFn := fun _ => .rs .noplan
theorem ds_noplan {m : Str} {j : Nat} {p2 : Pos} (T : NoPl X.K X.mg x CN) (tk : Takes X (toE E)) (hc : X.calm = true := by rfl) (hg : Gl X x := by rfl) (hdb : (x == ("__debug__" : Str)) = false := by decide) :
    DS X (exx CL CN E) (.Raise (some (.Call (.Name x p) [.Constant (.str m) j p2] [] pos)) none pos2) sNoPlan := by
  refine ⟨_, ps_raise hc tk (pmk_own PySem.F.excBase_ValueError T.x T.g T.k (raises_own T.b T.t) hg hdb), fun F0 H0 F ρ σ H D S q => ?_⟩
  exact q H S.gr.hh
/-- x = f(..), where f may raise -/
def sSetX (i : Nat) (b : SFn) (m : Nat) (fg : LFn) : SFn := fun ρ => match fg ρ with
  | some ss => (match b (ss ++ List.replicate m .un) with
    | .rt d => .nx (ρ.set i (.fz d))
    | .nx _ => .nx (ρ.set i (.fz .none))
    | .rs y => .rs y
    | _ => .no)
  | none => .no
theorem ds_setX (i : Nat) {g : Addr} {fd : FuncData} {ps : List Str} {n m : Nat} {bd : Nat → SFn} {fg : LFn} {es : List Expr} {y : Str} {pos' : Pos} (fuel : Nat) (G : FnOk X.prog X.w X.K X.mg X.base (L2.CX X.prog X.w) k g fd ps (spD X.K CL CN n m bd)) (hr : Room k X.A) (hm : X.mg x = some (.ref g))
    (hk : PySem.W.keepIn X.K (.ref g) = true) (hb : Binds X.K fd ps []) (tk : Takes X (toE E)) (ha : DG X (a :: es) fg) (hN : X.N.Nodup) (hn : (a :: es).length = n := by rfl) (hg : Gl X x := by rfl) (hdb : (x == ("__debug__" : Str)) = false := by decide)
    (he : starEach (a :: es) X.env = (false, eval a X.env) :: starEach es X.env := by rfl) (hpl : (backTo pos (starEach es X.env)).any (·.1) = false := by rfl)
    (hi : X.N[i]? = some y := by rfl) (hx : Loc X.env.scope y := by first | exact Or.inl rfl | exact Or.inr rfl) (hs : swapsWith (.Call (.Name x p) (a :: es) [] pos) (some (.Name y pos')) pos2.line X.env = pure false := by rfl)
    (hf : X.fn y = true ∨ X.env.scope.names.lookup y = some .local := by first | exact .inl rfl | exact .inr rfl) :
    DS X (exx CL CN E) (.Assign [.Name y pos'] (.Call (.Name x p) (a :: es) [] pos) pos2) (sSetX i (bd fuel) m fg) := by
  obtain ⟨ta, pa, ha⟩ := ha.ex
  refine ⟨_, L2.ps_set hN hi hx (pe_call G hr hg hm hk hb .nil (passes_call tk (E := E) fun _ _ _ _ h => h) pa hdb he hpl) hs hf, fun F0 H0 F ρ σ H D S q => ?_⟩
  unfold sSetX at q
  cases e1 : fg ρ with
  | none => rw [e1] at q; exact q.elim
  | some ss =>
    simp only [e1] at q
    refine ha F0 H0 F ρ σ H _ ss S e1 fun vs F1 H1 g1 r1 hl => ?_
    show spD X.K CL CN n m bd (vs ++ []) H1 _ E
    rw [List.append_nil]
    refine ⟨hl.trans hn, F1, ss, fuel, g1.fh, r1, ?_⟩
    cases e2 : bd fuel (ss ++ List.replicate m .un) with
    | rt d => rw [e2] at q; exact fun v F' H' g2 r2 => q F' _ H' ((S.grow (g1.trans g2)).setZ r2)
    | nx ρ' => rw [e2] at q; exact fun F' H' g2 => q F' _ H' ((S.grow (g1.trans g2)).setZ .non)
    | rs y => rw [e2] at q; exact exx_mono q (S.gr.trans g1).hh
    | bk ρ' => rw [e2] at q; exact q.elim
    | ct ρ' => rw [e2] at q; exact q.elim
    | no => rw [e2] at q; exact q.elim
end
end L2.RC

namespace L2.RC
open PySem PySem.Spec PyProof.Rows
section
variable {K : PySem.W.Frag} {F0 H0 F H F1 H1 : Hp} {ρ : DEnv} {σ : St}
/-- a slot that nothing is known of may hold anything -/
theorem StF.any {j : Nat} {o : Option V} (S : StF K F0 H0 F ρ σ H) (h : ρ[j]? = some .un) : StF K F0 H0 F ρ (σ.set j o) H := by
  refine ⟨S.gr, fun i s e => ?_, sep_any S.sep h rfl, by rw [List.length_set, S.len]⟩
  by_cases hij : j = i
  · subst hij
    rw [h] at e
    cases e
    trivial
  · rw [List.getElem?_set_ne hij]
    exact S.sl i s e
theorem Grow.more {F H H' : Hp} (s : Same F H) (g : Same H H') : Grow F H F H' := ⟨g, .refl _, s.trans g, fun _ _ _ => rfl⟩
end
section
variable {X : Cx} {EX : EXX} {E : XK} {e a : Expr} {pos pos2 pos3 pos4 p : Pos} {f fa : EFn} {CL CN fI : Addr} {k : Nat} {x : Str}
variable {g : Addr} {fd : FuncData} {ps : List Str} {n m : Nat} {bd : Nat → SFn} {fg : LFn} {es : List Expr} {y : Str} {pos' : Pos}
/-- what the call of a def that may raise asks, the error's way told by W -/
theorem callS_ok {K : PySem.W.Frag} {ta : TA} {W : WX} {F0 H0 F H : Hp} {ρ : DEnv} {σ : St} {Q : VK} {ss : List Sl} {b : SFn} (fuel : Nat) (hl : EgOk K ta n fg) (S : StF K F0 H0 F ρ σ H) (e1 : fg ρ = some ss) (hb : b = bd fuel)
    (h1 : ∀ d, b (ss ++ List.replicate m .un) = .rt d → ∀ v F' H', Grow F H F' H' → Rp K F' v d → Q v H')
    (h2 : ∀ ρ', b (ss ++ List.replicate m .un) = .nx ρ' → ∀ F' H', Grow F H F' H' → Q .non H')
    (h3 : ∀ j, b (ss ++ List.replicate m .un) = .rs (.late j) → ∀ d F' H', Grow F H F' H' → H' d = some (.xd [(("rope" : Str), .int j)]) → W (.ref CL) (some d) σ H')
    (h4 : b (ss ++ List.replicate m .un) = .rs .noplan → ∀ F' H', Grow F H F' H' → W (.ref CN) none σ H')
    (h5 : (∃ d, b (ss ++ List.replicate m .un) = .rt d) ∨ (∃ ρ', b (ss ++ List.replicate m .un) = .nx ρ') ∨ ∃ y, b (ss ++ List.replicate m .un) = .rs y) :
    tCallS (spD K CL CN n m bd) (WE W) ta σ H Q := by
  refine hl F0 H0 F ρ σ H _ ss S e1 fun vs F1 H1 g1 r1 hln => ?_
  refine ⟨hln, F1, ss, fuel, g1.fh, r1, ?_⟩
  rw [← hb]
  rcases h5 with ⟨d, h⟩ | ⟨ρ', h⟩ | ⟨y, h⟩
  · rw [h]; exact fun v F' H' g2 r2 => h1 d h v F' H' (g1.trans g2) r2
  · rw [h]; exact fun F' H' g2 => h2 ρ' h F' H' (g1.trans g2)
  · rw [h]
    cases y with
    | late j => exact fun d H' s' n' e' => h3 j h d F1 H' (g1.trans (.more g1.fh s')) e'
    | noplan => exact fun H' s' => h4 h F1 H' (g1.trans (.more g1.fh s'))
/-! ### try: x = f(..) except Late: return None -/
def sTryN (i : Nat) (b : SFn) (m : Nat) (fg : LFn) : SFn := fun ρ => match fg ρ with
  | some ss => (match b (ss ++ List.replicate m .un) with
    | .rt d => .nx (ρ.set i (.fz d))
    | .rs (.late _) => .rt .none
    | _ => .no)
  | none => .no
theorem ds_tryN (i : Nat) {np q tpos : Pos} {j : Nat} (fuel : Nat) (T : PySem.LateX.LateTxt X.K X.mg CL fI) (G : FnOk X.prog X.w X.K X.mg X.base (L2.CX X.prog X.w) k g fd ps (spD X.K CL CN n m bd)) (hr : Room k X.A) (hm : X.mg x = some (.ref g))
    (hk : PySem.W.keepIn X.K (.ref g) = true) (hb : Binds X.K fd ps [])
    (ha : ∀ (pn : List (Addr × Obj)) (xe : Value → Shared → Prop), DG (X.tr pn xe) (a :: es) fg) (hN : X.N.Nodup) (hs0 : X.stack = X.env :: X.outer := by rfl) (hf0 : X.env.frame = some X.env.locals := by rfl) (hn : (a :: es).length = n := by rfl) (hg : Gl X x := by rfl) (hgL : Gl X "Late" := by rfl) (hdb : (x == ("__debug__" : Str)) = false := by decide)
    (he : starEach (a :: es) X.env = (false, eval a X.env) :: starEach es X.env := by rfl) (hpl : (backTo pos (starEach es X.env)).any (·.1) = false := by rfl)
    (hi : X.N[i]? = some y := by rfl) (hx : Loc X.env.scope y := by first | exact Or.inl rfl | exact Or.inr rfl) (hs : swapsWith (.Call (.Name x p) (a :: es) [] pos) (some (.Name y pos')) pos2.line X.env = pure false := by rfl)
    (hf : X.fn y = true ∨ X.env.scope.names.lookup y = some .local := by first | exact .inl rfl | exact .inr rfl) :
    DS X EX (.Try [.Assign [.Name y pos'] (.Call (.Name x p) (a :: es) [] pos) pos2] [.ExceptHandler (some (.Name "Late" np)) none [.Return (some (.Constant .none j q)) pos3] pos4] [] [] tpos) (sTryN i (bd fuel) m fg) := by
  have hA : ∃ ta, (∀ (pn : List (Addr × Obj)) (xe : Value → Shared → Prop), PA (X.tr pn xe) (a :: es) ta) ∧ EgOk X.K ta (a :: es).length fg := by
    refine ⟨fun σ H Q => ∃ F0 H0 F ρ ss, StF X.K F0 H0 F ρ σ H ∧ fg ρ = some ss ∧ ∀ vs F' H', Grow F H F' H' → ArgsOk X.K F' H' vs ss → vs.length = (a :: es).length → Q vs H', fun pn xe => ?_, fun F0 H0 F ρ σ H Q ss S e q => ⟨F0, H0, F, ρ, ss, S, e, q⟩⟩
    obtain ⟨ta, pa, hta⟩ := (ha pn xe).ex
    exact ⟨fun pos pins s σ H Q I ⟨F0, H0, F, ρ, ss, S, e, q⟩ => pa.run pos pins s σ H Q I (hta F0 H0 F ρ σ H Q ss S e q)⟩
  obtain ⟨ta, pa, hta⟩ := hA
  rw [hn] at hta
  refine ⟨_, ps_try_only (tb := fun W => tAsg (tCallS (spD X.K CL CN n m bd) (WE W) ta) (gName i)) (ts := fun _ _ _ => tRet (tC .non)) (Wout := fun _ _ _ _ => False) (c := .ref CL) hs0 hf0 ⟨hgL, by decide, .inl T.gC⟩ takes0
    (fun W pn xe tk _ => pss_one (L2.ps_set (X := X.tr pn xe) hN hi hx (pe_callS (X := X.tr pn xe) G hr hg hm hk hb (fun σ => passAt tk σ) (pa pn xe) hdb he hpl) hs hf)) (fun a oe cls d pn _ _ => pss_one (ps_ret pe_non)), fun F0 H0 F ρ σ H D S q => ?_⟩
  unfold sTryN at q
  cases e1 : fg ρ with
  | none => rw [e1] at q; exact q.elim
  | some ss =>
    simp only [e1] at q
    refine callS_ok (F0 := F0) (H0 := H0) fuel hta S e1 rfl (fun d h v F' H' g r => ?_) (fun ρ' h => ?_) (fun j h d F' H' g e => ?_) (fun h => ?_) ?_
    · rw [h] at q; exact q F' _ H' ((S.grow g).setZ r)
    · rw [h] at q; exact q.elim
    · rw [h] at q
      exact ⟨true, T.te, fun _ b _ => q .non F' H' (S.gr.trans g) .non, fun z => nomatch z⟩
    · rw [h] at q; exact q.elim
    · cases h : bd fuel (ss ++ List.replicate m .un) with
      | rt d => exact .inl ⟨d, rfl⟩
      | rs y => exact .inr (.inr ⟨y, rfl⟩)
      | nx ρ' => exact .inr (.inl ⟨ρ', rfl⟩)
      | bk ρ' => rw [h] at q; exact q.elim
      | ct ρ' => rw [h] at q; exact q.elim
      | no => rw [h] at q; exact q.elim
/-! ### try: x = ('s', f(..)) except Late as e: x = ('t', e.rope) -/
def sTryL (i j : Nat) (s1 s2 : Str) (b : SFn) (m : Nat) (fg : LFn) : SFn := fun ρ => match fg ρ, ρ[j]? with
  | some ss, some .un => (match b (ss ++ List.replicate m .un) with
    | .rt d => .nx (ρ.set i (.fz (.tuple [.str s1, d])))
    | .rs (.late r) => .nx (ρ.set i (.fz (.tuple [.str s2, .int r])))
    | _ => .no)
  | _, _ => .no
theorem two_line {α : Type} (x z : α) : [x, z].length ≤ sizeLine := by show 2 ≤ sizeLine; rw [sizeLine_eq]; decide
theorem ds_tryL (i j : Nat) {s1 s2 nm : Str} {c1 c2 k1 k2 : Nat} {py q1 q2 q3 q4 q5 q6 q7 q8 q9 np np2 pp : Pos} (fuel : Nat) (T : PySem.LateX.LateTxt X.K X.mg CL fI) (G : FnOk X.prog X.w X.K X.mg X.base (L2.CX X.prog X.w) k g fd ps (spD X.K CL CN n m bd)) (hr : Room k X.A) (hm : X.mg x = some (.ref g))
    (hk : PySem.W.keepIn X.K (.ref g) = true) (hb : Binds X.K fd ps [])
    (ha : ∀ (pn : List (Addr × Obj)) (xe : Value → Shared → Prop), DG (X.tr pn xe) (a :: es) fg) (hN : X.N.Nodup) (hij : i ≠ j := by decide) (hs0 : X.stack = X.env :: X.outer := by rfl) (hf0 : X.env.frame = some X.env.locals := by rfl) (hn : (a :: es).length = n := by rfl) (hg : Gl X x := by rfl) (hgL : Gl X "Late" := by rfl) (hdb : (x == ("__debug__" : Str)) = false := by decide)
    (he : starEach (a :: es) X.env = (false, eval a X.env) :: starEach es X.env := by rfl) (hpl : (backTo pos (starEach es X.env)).any (·.1) = false := by rfl)
    (het : starEach [.Constant (.str s1) c1 q1, .Call (.Name x p) (a :: es) [] pos] X.env = (false, eval (.Constant (.str s1) c1 q1) X.env) :: starEach [.Call (.Name x p) (a :: es) [] pos] X.env := by rfl) (het2 : starEach [.Call (.Name x p) (a :: es) [] pos] X.env = [(false, eval (.Call (.Name x p) (a :: es) [] pos) X.env)] := by rfl)
    (hi : X.N[i]? = some y := by rfl) (hjn : X.N[j]? = some nm := by rfl) (hlj : X.env.kindOf nm = some .local := by rfl) (hx : Loc X.env.scope y := by first | exact Or.inl rfl | exact Or.inr rfl)
    (hs : swapsWith (.Tuple [.Constant (.str s1) c1 q1, .Call (.Name x p) (a :: es) [] pos] k1 q2) (some (.Name y py)) q3.line X.env = pure false := by rfl)
    (hs2 : swapsWith (.Tuple [.Constant (.str s2) c2 q4, .Attribute (.Name nm q5) "rope" q6] k2 q7) (some (.Name y q8)) q9.line X.env = pure false := by rfl)
    (het3 : starEach [.Constant (.str s2) c2 q4, .Attribute (.Name nm q5) "rope" q6] X.env = (false, eval (.Constant (.str s2) c2 q4) X.env) :: starEach [.Attribute (.Name nm q5) "rope" q6] X.env := by rfl) (het4 : starEach [.Attribute (.Name nm q5) "rope" q6] X.env = [(false, eval (.Attribute (.Name nm q5) "rope" q6) X.env)] := by rfl)
    (hbse : attributeBase (.Name nm q5) "rope" X.env (eval (.Name nm q5) X.env) = eval (.Name nm q5) X.env := by rfl)
    (hv : Vis X.env.scope nm := by first | exact Or.inl rfl | exact Or.inr (Or.inl rfl) | exact Or.inr (Or.inr rfl)) (hdn : (nm == ("__debug__" : Str)) = false := by decide) (hcdn : (nm == ("__classdict__" : Str)) = false := by decide)
    (hf : X.fn y = true ∨ X.env.scope.names.lookup y = some .local := by first | exact .inl rfl | exact .inr rfl) :
    DS X EX (.Try [.Assign [.Name y py] (.Tuple [.Constant (.str s1) c1 q1, .Call (.Name x p) (a :: es) [] pos] k1 q2) q3]
      [.ExceptHandler (some (.Name "Late" np)) (some nm) [.Assign [.Name y q8] (.Tuple [.Constant (.str s2) c2 q4, .Attribute (.Name nm q5) "rope" q6] k2 q7) q9] np2] [] [] pp) (sTryL i j s1 s2 (bd fuel) m fg) := by
  have hA : ∃ ta, (∀ (pn : List (Addr × Obj)) (xe : Value → Shared → Prop), PA (X.tr pn xe) (a :: es) ta) ∧ EgOk X.K ta (a :: es).length fg := by
    refine ⟨fun σ H Q => ∃ F0 H0 F ρ ss, StF X.K F0 H0 F ρ σ H ∧ fg ρ = some ss ∧ ∀ vs F' H', Grow F H F' H' → ArgsOk X.K F' H' vs ss → vs.length = (a :: es).length → Q vs H', fun pn xe => ?_, fun F0 H0 F ρ σ H Q ss S e q => ⟨F0, H0, F, ρ, ss, S, e, q⟩⟩
    obtain ⟨ta, pa, hta⟩ := (ha pn xe).ex
    exact ⟨fun pos pins s σ H Q I ⟨F0, H0, F, ρ, ss, S, e, q⟩ => pa.run pos pins s σ H Q I (hta F0 H0 F ρ σ H Q ss S e q)⟩
  obtain ⟨ta, pa, hta⟩ := hA
  rw [hn] at hta
  refine ⟨_, ps_try_as (i := j) (tb := fun W => tAsg (tTup (tCons (tC (.str s1)) (tCons (tCallS (spD X.K CL CN n m bd) (WE W) ta) tNil))) (gName i)) (ts := fun a cls d => tAsg (tTup (tCons (tC (.str s2)) (tCons (tByLate CL a cls d (tVar j)) tNil))) (gName i)) (Wout := fun _ _ _ _ => False) (c := .ref CL)
    hs0 hf0 hN hjn hlj ⟨hgL, by decide, .inl T.gC⟩ takes0
    (fun W pn xe tk _ => pss_one (L2.ps_set (X := X.tr pn xe) hN hi hx (pe_tup (pa_cons pe_str (pa_cons (pe_callS (X := X.tr pn xe) G hr hg hm hk hb (fun σ => passAt tk σ) (pa pn xe) hdb he hpl) pa_nil het2) het)) hs hf))
    (fun b oe cls d pn hz hfl => pss_one (L2.ps_set (X := X.suite b ((b, oe) :: pn)) hN hi hx (pe_tup (pa_cons pe_str (pa_cons (pe_byLate T hz hfl (pe_var (X := X.suite b ((b, oe) :: pn)) hjn hv hdn hcdn) hbse) pa_nil het4) het3)) hs2 hf)), fun F0 H0 F ρ σ H D S q => ?_⟩
  unfold sTryL at q
  cases e1 : fg ρ with
  | none => rw [e1] at q; exact q.elim
  | some ss =>
    cases e2 : ρ[j]? with
    | none => rw [e1, e2] at q; exact q.elim
    | some sl =>
      cases sl with
      | un =>
        simp only [e1, e2] at q
        have hj : j < σ.length := by
          have := (List.getElem?_eq_some_iff.mp e2).1
          rw [S.len] at this
          exact this
        refine callS_ok (F0 := F0) (H0 := H0) fuel hta S e1 rfl (fun d h v F' H' g r => ?_) (fun ρ' h => ?_) (fun r h d F' H' g e => ?_) (fun h => ?_) ?_
        · rw [h] at q
          refine ⟨two_line _ _, fun t ht => ?_⟩
          have g2 := Grow.froz (o := .tup [.str s1, v]) g.fh ht
          exact q _ _ _ ((S.grow (g.trans g2)).setZ (.tup (SqT.of upd_same) (.cons (.str _) (.cons (Rp.mono g2.ff _ _ r) .nil))))
        · rw [h] at q; exact q.elim
        · rw [h] at q
          refine ⟨true, T.te, fun _ b hbn => ?_, fun z => nomatch z⟩
          refine ⟨.ref b, List.getElem?_set_self hj, rfl, rfl, d, .int r, rfl, e, two_line _ _, fun t ht => ?_⟩
          have g2 := Grow.froz (o := .tup [.str s2, .int r]) g.fh ht
          have S2 := ((S.grow (g.trans g2)).any (o := some (.ref b)) e2).setZ (i := i) (v := .ref t) (d := .tuple [.str s2, .int r]) (.tup (SqT.of upd_same) (.cons (.str _) (.cons (.int _) .nil)))
          exact q _ _ _ (S2.any (j := j) (o := none) (by rw [List.getElem?_set_ne hij]; exact e2))
        · rw [h] at q; exact q.elim
        · cases h : bd fuel (ss ++ List.replicate m .un) with
          | rt d => exact .inl ⟨d, rfl⟩
          | rs y => exact .inr (.inr ⟨y, rfl⟩)
          | nx ρ' => exact .inr (.inl ⟨ρ', rfl⟩)
          | bk ρ' => rw [h] at q; exact q.elim
          | ct ρ' => rw [h] at q; exact q.elim
          | no => rw [h] at q; exact q.elim
      | _ => rw [e1, e2] at q; exact q.elim
end
end L2.RC

namespace L2.RC
open PySem PySem.Spec PyProof.Rows
/-- what isinstance asks of an error's class -/
structure ExcI (K : PySem.W.Frag) (C : Addr) : Prop where
  cl : PySem.W.isClsIn K C = true
  ga : PySem.W.findIn K (.ref C) "__getattribute__" = some (some (.builtin "BaseException.__getattribute__"))
  gt : PySem.W.findIn K (.ref C) "__getattr__" = some none
  sb : PySem.W.subIn K (.ref C) (.type "BaseException") = some true
  ca : PySem.W.findIn K (.ref C) "__class__" = some (some (.builtin "object.__class__"))
  hn : PySem.W.specialIn K (.builtin "object.__class__") "__get__" = some (some (.builtin "getset_descriptor.__get__"))
  tk : PySem.W.takesIn K (.builtin "object.__class__") = some true
  mr : PySem.W.mroIn K C (.type "object") = some true
/-- isinstance(e, c), e the error that the suite holds, its own dict at dd (or none) -/
def rIsX (K : PySem.W.Frag) (a : Addr) (cls : Value) (d : Option Addr) : List V → Hp → VK → Prop := fun xs H Q => ∃ (D : Addr) (c : V) (cv : Value) (b : Bool), cls = .ref D ∧ ExcI K D ∧ xs = [.ref a, c] ∧ (∀ u, RelV c u → u = cv) ∧
  (d = none ∨ ∃ dd fs, d = some dd ∧ H dd = some (.xd fs)) ∧ PySem.W.kitOne K (.ref D) cv = some b ∧ Q (.bl b) H
theorem call_isX {X : Cx} {a : Addr} {oe : Obj} {cls : Value} {d : Option Addr} {pn : List (Addr × Obj)} (hz : Zc cls d oe) (hf : ∃ vs, oe.data = .fields vs) : CallR (X.suite a ((a, oe) :: pn)) (.builtin "isinstance") (rIsX X.K a cls d) := by
  intro pins s σ H xs us Q I r h
  obtain ⟨D, c, cv, b, ec, T, rfl, hcv, hd, e, q⟩ := h
  subst ec
  cases r with
  | cons rx rr =>
    cases rr with
    | cons rt rr =>
      cases rr
      cases rx
      have ec := hcv _ rt
      subst ec
      obtain ⟨hget, _⟩ := I.pin (a, oe) (List.mem_append.mpr (.inl List.mem_cons_self))
      obtain ⟨vs, hv⟩ := hf
      have J : ∃ od, PySem.W.InstAt s.heap a oe D od := by
        rcases hd with hd | ⟨dd, fs, hd, hx⟩
        · refine ⟨none, hget, hz.1, by unfold PySem.W.notCls; rw [hv] <;> rfl, ?_⟩
          rw [hz.2, hd]
          trivial
        · have hx' : ObjOk X.prog X.w H s.heap dd (.xd fs) := I.hok dd _ hx
          obtain ⟨mA, hns, _⟩ := hx'
          obtain ⟨od, ho, _⟩ := lookIn_ns hns
          exact ⟨some od, hget, hz.1, by unfold PySem.W.notCls; rw [hv] <;> rfl, by rw [hz.2, hd]; exact ho⟩
      obtain ⟨od, J⟩ := J
      exact PySem.W.kia_one (PySem.W.kitx_exc T.cl T.ga T.gt T.sb T.ca T.hn T.tk T.mr) I.kIn J e (fun z => nomatch z) fun tk => ⟨.bl b, H, I.kept (t' := tk) fun _ _ z => z, rfl, q⟩
section
variable {K : PySem.W.Frag} {C D : Addr}
theorem kit_self : PySem.W.kitOne K (.ref C) (.ref C) = some true := by
  unfold PySem.W.kitOne
  rw [if_pos (beq_self_eq_true _)]
theorem kit_ty2 (h : PySem.W.subIn K (.ref C) (.type "ValueError") = some true) : PySem.W.kitOne K (.ref C) (.type "ValueError") = some true := by
  unfold PySem.W.kitOne PySem.W.kitCls
  rw [if_neg (by simp)]
  show (if PySem.W.kitMeta "ValueError" = true then PySem.W.subIn K (.ref C) (.type "ValueError") else none) = some true
  rw [if_pos (by decide +kernel)]
  exact h
theorem kit_not (h1 : PySem.W.isClsIn K D = true) (h2 : PySem.W.typeIn K (.ref D) = some (.type "type")) (h3 : PySem.W.subIn K (.ref C) (.ref D) = some false) (h4 : PySem.W.subIn K (.ref C) (.ref C) = some true) : PySem.W.kitOne K (.ref C) (.ref D) = some false := by
  have hne : ¬ ((Value.ref C == Value.ref D) = true) := fun z => by
    have e : C = D := Value.ref.inj (beq_iff_eq.mp z)
    subst e
    rw [h4] at h3
    cases h3
  have h1' : (PySem.W.clsIn K D).isSome = true := h1
  unfold PySem.W.kitOne PySem.W.kitCls
  rw [if_neg hne]
  show (if ((PySem.W.clsIn K D).isSome && PySem.W.typeIn K (.ref D) == some (.type "type")) = true then PySem.W.subIn K (.ref C) (.ref D) else none) = some false
  rw [if_pos (by rw [h1', h2] <;> rfl)]
  exact h3
end
section
variable {X : Cx} {EX : EXX} {e a : Expr} {pos pos2 pos3 pos4 p : Pos} {f fa : EFn} {CL CN CR fI : Addr} {k : Nat} {x : Str}
variable {g : Addr} {fd : FuncData} {ps : List Str} {n m : Nat} {bd : Nat → SFn} {fg : LFn} {es : List Expr} {y : Str} {pos' : Pos}
/-! ### try: x = (s1, f(..)) except RopeError as e: x = (s0, None); if isinstance(e, Late) and isinstance(e, ValueError) and not isinstance(e, NoPlan): x = (s2, e.rope) -/
theorem ds_tryR (i j : Nat) {s1 s0 s2 nm : Str} {c1 c2 c0 c9 k1 k2 k0 : Nat} {py q1 q2 q3 q4 q5 q6 q7 q8 q9 np np2 pp u1 u2 u3 u4 u5 v1 v2 v3 v4 v5 v6 v7 v8 v9 v10 v11 v12 v13 v14 : Pos} (fuel : Nat) (T : PySem.LateX.LateTxt X.K X.mg CL fI) (TI : ExcI X.K CL) (gN : X.mg "NoPlan" = some (.ref CN)) (gR : X.mg "RopeError" = some (.ref CR))
    (tR : PySem.W.exmOne X.K (.ref CL) (.ref CR) = some true) (oL : PySem.W.kitOne X.K (.ref CL) (.ref CL) = some true) (oV : PySem.W.kitOne X.K (.ref CL) (.type "ValueError") = some true) (oN : PySem.W.kitOne X.K (.ref CL) (.ref CN) = some false)
    (mI : X.mg "isinstance" = none) (mV : X.mg "ValueError" = none)
    (G : FnOk X.prog X.w X.K X.mg X.base (L2.CX X.prog X.w) k g fd ps (spD X.K CL CN n m bd)) (hr : Room k X.A) (hm : X.mg x = some (.ref g))
    (hk : PySem.W.keepIn X.K (.ref g) = true) (hb : Binds X.K fd ps [])
    (ha : ∀ (pn : List (Addr × Obj)) (xe : Value → Shared → Prop), DG (X.tr pn xe) (a :: es) fg) (hN : X.N.Nodup) (hij : i ≠ j := by decide) (hs0 : X.stack = X.env :: X.outer := by rfl) (hf0 : X.env.frame = some X.env.locals := by rfl) (hn : (a :: es).length = n := by rfl) (hg : Gl X x := by rfl) (hgL : Gl X "Late" := by rfl)
    (hgR : Gl X "RopeError" := by rfl) (hgN : Gl X "NoPlan" := by rfl) (hgI : Gl X "isinstance" := by rfl) (hgV : Gl X "ValueError" := by rfl) (hdb : (x == ("__debug__" : Str)) = false := by decide)
    (he : starEach (a :: es) X.env = (false, eval a X.env) :: starEach es X.env := by rfl) (hpl : (backTo pos (starEach es X.env)).any (·.1) = false := by rfl)
    (hi : X.N[i]? = some y := by rfl) (hjn : X.N[j]? = some nm := by rfl) (hlj : X.env.kindOf nm = some .local := by rfl) (hx : Loc X.env.scope y := by first | exact Or.inl rfl | exact Or.inr rfl)
    (hs : swapsWith (.Tuple [.Constant (.str s1) c1 q1, .Call (.Name x p) (a :: es) [] pos] k1 q2) (some (.Name y py)) q3.line X.env = pure false := by rfl)
    (hs2 : swapsWith (.Tuple [.Constant (.str s2) c2 q4, .Attribute (.Name nm q5) "rope" q6] k2 q7) (some (.Name y q8)) q9.line X.env = pure false := by rfl)
    (hs3 : swapsWith (.Tuple [.Constant (.str s0) c0 u1, .Constant .none c9 u2] k0 u3) (some (.Name y u4)) u5.line X.env = pure false := by rfl)
    (hbse : attributeBase (.Name nm q5) "rope" X.env (eval (.Name nm q5) X.env) = eval (.Name nm q5) X.env := by rfl)
    (hv : Vis X.env.scope nm := by first | exact Or.inl rfl | exact Or.inr (Or.inl rfl) | exact Or.inr (Or.inr rfl)) (hdn : (nm == ("__debug__" : Str)) = false := by decide) (hcdn : (nm == ("__classdict__" : Str)) = false := by decide)
    (hf : X.fn y = true ∨ X.env.scope.names.lookup y = some .local := by first | exact .inl rfl | exact .inr rfl) :
    DS X EX (.Try [.Assign [.Name y py] (.Tuple [.Constant (.str s1) c1 q1, .Call (.Name x p) (a :: es) [] pos] k1 q2) q3]
      [.ExceptHandler (some (.Name "RopeError" np)) (some nm) [.Assign [.Name y u4] (.Tuple [.Constant (.str s0) c0 u1, .Constant .none c9 u2] k0 u3) u5,
        .If (.BoolOp .And [.Call (.Name "isinstance" v1) [.Name nm v2, .Name "Late" v3] [] v4, .Call (.Name "isinstance" v5) [.Name nm v6, .Name "ValueError" v7] [] v8, .UnaryOp .Not (.Call (.Name "isinstance" v9) [.Name nm v10, .Name "NoPlan" v11] [] v12) v13] v14)
          [.Assign [.Name y q8] (.Tuple [.Constant (.str s2) c2 q4, .Attribute (.Name nm q5) "rope" q6] k2 q7) q9] [] pos3] np2] [] [] pp) (sTryL i j s1 s2 (bd fuel) m fg) := by
  have hA : ∃ ta, (∀ (pn : List (Addr × Obj)) (xe : Value → Shared → Prop), PA (X.tr pn xe) (a :: es) ta) ∧ EgOk X.K ta (a :: es).length fg := by
    refine ⟨fun σ H Q => ∃ F0 H0 F ρ ss, StF X.K F0 H0 F ρ σ H ∧ fg ρ = some ss ∧ ∀ vs F' H', Grow F H F' H' → ArgsOk X.K F' H' vs ss → vs.length = (a :: es).length → Q vs H', fun pn xe => ?_, fun F0 H0 F ρ σ H Q ss S e q => ⟨F0, H0, F, ρ, ss, S, e, q⟩⟩
    obtain ⟨ta, pa, hta⟩ := (ha pn xe).ex
    exact ⟨fun pos pins s σ H Q I ⟨F0, H0, F, ρ, ss, S, e, q⟩ => pa.run pos pins s σ H Q I (hta F0 H0 F ρ σ H Q ss S e q)⟩
  obtain ⟨ta, pa, hta⟩ := hA
  rw [hn] at hta
  refine ⟨_, ps_try_as (i := j) (tb := fun W => tAsg (tTup (tCons (tC (.str s1)) (tCons (tCallS (spD X.K CL CN n m bd) (WE W) ta) tNil))) (gName i))
    (ts := fun a cls d => tSeq (tAsg (tTup (tCons (tC (.str s0)) (tCons (tC .non) tNil))) (gName i))
      (tIfS (tAnd (tB (tCB (rIsX X.K a cls d) (tCons (tVar j) (tCons (tC (.ref CL)) tNil)))) (tAnd (tB (tCB (rIsX X.K a cls d) (tCons (tVar j) (tCons (tC (.ty "ValueError")) tNil)))) (tNot (tB (tCB (rIsX X.K a cls d) (tCons (tVar j) (tCons (tC (.ref CN)) tNil)))))))
        (tAsg (tTup (tCons (tC (.str s2)) (tCons (tByLate CL a cls d (tVar j)) tNil))) (gName i)) tNext))
    (Wout := fun _ _ _ _ => False) (c := .ref CR)
    hs0 hf0 hN hjn hlj ⟨hgR, by decide, .inl gR⟩ takes0
    (fun W pn xe tk _ => pss_one (L2.ps_set (X := X.tr pn xe) hN hi hx (pe_tup (pa_cons pe_str (pa_cons (pe_callS (X := X.tr pn xe) G hr hg hm hk hb (fun σ => passAt tk σ) (pa pn xe) hdb he hpl) pa_nil))) hs hf))
    (fun b oe cls d pn hz hfl => pss_cons (L2.ps_set (X := X.suite b ((b, oe) :: pn)) hN hi hx (pe_tup (pa_cons pe_str (pa_cons pe_non pa_nil))) hs3 hf)
      (pss_one (ps_if (PW.pt (pw_and (pt_val (pe_callB (call_isX hz hfl) hgI mI (by decide +kernel) (pa_cons (pe_var (X := X.suite b ((b, oe) :: pn)) hjn hv hdn hcdn) (pa_cons (pe_glob hgL T.gC rfl) pa_nil))))
          (pw_and (pt_val (pe_callB (call_isX hz hfl) hgI mI (by decide +kernel) (pa_cons (pe_var (X := X.suite b ((b, oe) :: pn)) hjn hv hdn hcdn) (pa_cons (pe_bltn (v := .ty "ValueError") (u := .type "ValueError") hgV mV (by decide +kernel) rfl) pa_nil))))
          (pw_and1 (pt_not (pt_val (pe_callB (call_isX hz hfl) hgI mI (by decide +kernel) (pa_cons (pe_var (X := X.suite b ((b, oe) :: pn)) hjn hv hdn hcdn) (pa_cons (pe_glob hgN gN rfl) pa_nil)))))))))
        (pss_one (L2.ps_set (X := X.suite b ((b, oe) :: pn)) hN hi hx (pe_tup (pa_cons pe_str (pa_cons (pe_byLate T hz hfl (pe_var (X := X.suite b ((b, oe) :: pn)) hjn hv hdn hcdn) hbse) pa_nil))) hs2 hf)) pss_nil))), fun F0 H0 F ρ σ H D S q => ?_⟩
  unfold sTryL at q
  cases e1 : fg ρ with
  | none => rw [e1] at q; exact q.elim
  | some ss =>
    cases e2 : ρ[j]? with
    | none => rw [e1, e2] at q; exact q.elim
    | some sl =>
      cases sl with
      | un =>
        simp only [e1, e2] at q
        have hj : j < σ.length := by
          have := (List.getElem?_eq_some_iff.mp e2).1
          rw [S.len] at this
          exact this
        refine callS_ok (F0 := F0) (H0 := H0) fuel hta S e1 rfl (fun d h v F' H' g r => ?_) (fun ρ' h => ?_) (fun r h d F' H' g e => ?_) (fun h => ?_) ?_
        · rw [h] at q
          refine ⟨two_line _ _, fun t ht => ?_⟩
          have g2 := Grow.froz (o := .tup [.str s1, v]) g.fh ht
          exact q _ _ _ ((S.grow (g.trans g2)).setZ (.tup (SqT.of upd_same) (.cons (.str _) (.cons (Rp.mono g2.ff _ _ r) .nil))))
        · rw [h] at q; exact q.elim
        · rw [h] at q
          refine ⟨true, tR, fun _ b hbn => ?_, fun z => nomatch z⟩
          refine ⟨two_line _ _, fun t0 ht0 => ?_⟩
          have g1 := Grow.froz (o := .tup [.str s0, .non]) g.fh ht0
          have e' := g1.hh _ _ e
          have hslot : ((σ.set j (some (V.ref b))).set i (some (V.ref t0)))[j]? = some (some (V.ref b)) := by
            rw [List.getElem?_set_ne hij, List.getElem?_set_self hj]
          refine ⟨.ref b, hslot, CL, .ref CL, .ref CL, true, rfl, TI, rfl, fun u hu => hu, .inr ⟨d, _, rfl, e'⟩, oL, true, rfl, iteT ?_⟩
          refine ⟨.ref b, hslot, CL, .ty "ValueError", .type "ValueError", true, rfl, TI, rfl, fun u hu => hu, .inr ⟨d, _, rfl, e'⟩, oV, true, rfl, iteT ?_⟩
          refine ⟨.ref b, hslot, CL, .ref CN, .ref CN, false, rfl, TI, rfl, fun u hu => hu, .inr ⟨d, _, rfl, e'⟩, oN, false, rfl, iteT ?_⟩
          refine ⟨.ref b, hslot, rfl, rfl, d, .int r, rfl, e', two_line _ _, fun t ht => ?_⟩
          have g2 := Grow.froz (o := .tup [.str s2, .int r]) g1.fh ht
          have S2 := ((((S.grow (g.trans (g1.trans g2))).any (o := some (.ref b)) e2).setZ (i := i) (v := .ref t) (d := .tuple [.str s2, .int r]) (.tup (SqT.of upd_same) (.cons (.str _) (.cons (.int _) .nil)))))
          have S3 := S2.any (j := j) (o := none) (by rw [List.getElem?_set_ne hij]; exact e2)
          rw [← List.set_set (l := σ.set j (some (V.ref b))) (i := i) (some (V.ref t0))] at S3
          exact q _ _ _ S3
        · rw [h] at q; exact q.elim
        · cases h : bd fuel (ss ++ List.replicate m .un) with
          | rt d => exact .inl ⟨d, rfl⟩
          | rs y => exact .inr (.inr ⟨y, rfl⟩)
          | nx ρ' => exact .inr (.inl ⟨ρ', rfl⟩)
          | bk ρ' => rw [h] at q; exact q.elim
          | ct ρ' => rw [h] at q; exact q.elim
          | no => rw [h] at q; exact q.elim
      | _ => rw [e1, e2] at q; exact q.elim
end
end L2.RC

namespace L2.RC
open PySem PySem.Spec PyProof.Rows
/-! ### data without lists -/
mutual
def noL : PyData → Bool
  | .list _ => false
  | .dict _ => false
  | .tuple ds => noLs ds
  | _ => true
def noLs : List PyData → Bool
  | [] => true
  | d :: ds => noL d && noLs ds
end
/-- a frame without its lists -/
def tupO (F : Hp) : Hp := fun a => match F a with
  | some (.lst _) => none
  | o => o
theorem tupO_same (F : Hp) : Same (tupO F) F := fun a o e => by
  unfold tupO at e
  split at e
  · cases e
  · exact e
theorem tupO_lst {F : Hp} {a : Addr} {xs : List V} (e : tupO F a = some (.lst xs)) : False := by
  unfold tupO at e
  split at e
  · cases e
  · rename_i h
    exact h xs e
theorem tupO_keep {F : Hp} {a : Addr} {o : HO} (e : F a = some o) (h : ∀ xs, o ≠ .lst xs) : tupO F a = some o := by
  unfold tupO
  rw [e]
  split
  · rename_i xs z
    cases z
    exact absurd rfl (h xs)
  · rfl
section
variable {K : PySem.W.Frag} {F : Hp}
theorem seqT_tupO {a : Addr} {xs : List V} (h : SqT K F a xs) : SqT K (tupO F) a xs := by
  rcases h with (h | ⟨o, h⟩) | h
  · exact .inl (.inl (tupO_keep h fun _ z => nomatch z))
  · exact .inl (.inr ⟨o, tupO_keep h fun _ z => nomatch z⟩)
  · exact .inr h
mutual
theorem Rp.tupF : ∀ (d : PyData) (v : V), Rp K F v d → noL d = true → Rp K (tupO F) v d
  | .none, _, h, _ => by cases h; exact .non
  | .bool b, _, h, _ => by cases h; exact .bl b
  | .int i, _, h, _ => by cases h; exact .int i
  | .str x, _, h, _ => by cases h; exact .str x
  | .list ds, _, _, n => by simp [noL] at n
  | .tuple ds, _, h, n => by
    cases h with
    | tup h1 h2 => exact .tup (seqT_tupO h1) (RpAll.tupF ds _ h2 (by simpa [noL] using n))
  | .dict _, _, h, _ => by cases h
theorem RpAll.tupF : ∀ (ds : List PyData) (vs : List V), RpAll K F vs ds → noLs ds = true → RpAll K (tupO F) vs ds
  | [], _, h, _ => by cases h; exact .nil
  | d :: ds, _, h, n => by
    cases h with
    | cons h1 h2 =>
      have n' : noL d = true ∧ noLs ds = true := by simpa [noLs] using n
      exact .cons (Rp.tupF d _ h1 n'.1) (RpAll.tupF ds _ h2 n'.2)
end
end
def slFree : Sl → Bool
  | .fz d => noL d
  | .br ds => noLs ds
  | _ => false
theorem ArgsOk.tup {K : PySem.W.Frag} {F H : Hp} : ∀ {vs : List V} {ss : List Sl}, ArgsOk K F H vs ss → ss.all slFree = true → ArgsOk K (tupO F) H vs ss
  | _, _, .nil, _ => .nil
  | _, _, .cons (s := s) r t, n => by
    rw [List.all_cons, Bool.and_eq_true] at n
    have n' := n
    refine .cons ?_ (ArgsOk.tup t n.2)
    cases s with
    | fz d => exact Rp.tupF d _ r n'.1
    | br ds => obtain ⟨a, us, e, h1, h2⟩ := r; exact ⟨a, us, e, h1, RpAll.tupF ds _ h2 n'.1⟩
    | un => exact r.elim
    | ow ds => exact r.elim
    | pw b ds => exact r.elim
/-- the frame F at H, joined with what is new in G -/
def joinF (F H G : Hp) : Hp := fun a => match H a with | some _ => F a | none => G a
/-- G grew out of F's tuples; the joined frame, where G's own part leaves the lists out -/
theorem join_grow {F H G H2 : Hp} (s : Same F H) (g : Grow (tupO F) H G H2) : Grow F H (joinF F H (tupO G)) H2 ∧ Same (tupO G) (joinF F H (tupO G)) := by
  refine ⟨⟨g.hh, fun a o e => ?_, fun a o e => ?_, fun a o e => ?_⟩, fun a o e => ?_⟩
  · unfold joinF; rw [s a o e]; exact e
  · unfold joinF at e
    cases h : H a with
    | none => rw [h] at e; exact g.fh a o (tupO_same G a o e)
    | some x => rw [h] at e; exact g.hh a o (s a o e)
  · unfold joinF; rw [e]
  · unfold joinF
    cases h : H a with
    | none => exact e
    | some x =>
      have e1 : tupO F a = some o := (g.ag a x h).symm.trans (tupO_same G a o e)
      exact tupO_same F a o e1
section
variable {X : Cx} {EX : EXX} {E : XK} {e a : Expr} {pos pos2 p : Pos} {f fa : EFn} {CL CN fI : Addr} {k : Nat} {x : Str}
variable {g : Addr} {fd : FuncData} {ps : List Str} {n m : Nat} {bd : Nat → SFn} {fg : LFn} {es : List Expr} {y : Str} {pos' : Pos} {CX : CXT}
/-- a call whose result is a new list of data without lists -/
def oCallT (b : SFn) (m : Nat) (fg : LFn) : OFn := fun ρ => match fg ρ with
  | some ss => if ss.all slFree = true then (match b (ss ++ List.replicate m .un) with | .rt (.list ds) => if noLs ds = true then some ds else none | _ => none) else none
  | none => none
theorem de_callT (fuel : Nat) (G : FnOk X.prog X.w X.K X.mg X.base CX k g fd ps (spD X.K CL CN n m bd)) (hr : Room k X.A) (hm : X.mg x = some (.ref g)) (hk : PySem.W.keepIn X.K (.ref g) = true) (hb : Binds X.K fd ps []) (hx : Passes CX X E0)
    (ha : DG X (a :: es) fg) (hn : (a :: es).length = n := by rfl) (hg : Gl X x := by rfl) (hdb : (x == ("__debug__" : Str)) = false := by decide)
    (he : starEach (a :: es) X.env = (false, eval a X.env) :: starEach es X.env := by rfl) (hpl : (backTo pos (starEach es X.env)).any (·.1) = false := by rfl) :
    DEo X (.Call (.Name x p) (a :: es) [] pos) (oCallT (bd fuel) m fg) := by
  obtain ⟨ta, pa, ha⟩ := ha.ex
  refine ⟨_, pe_call G hr hg hm hk hb .nil hx pa hdb he hpl, fun F0 H0 F ρ σ H Q ds S e q => ?_⟩
  unfold oCallT at e
  cases e1 : fg ρ with
  | none => rw [e1] at e; cases e
  | some ss =>
    simp only [e1] at e
    rw [Option.ite_none_right_eq_some] at e
    obtain ⟨hf, e⟩ := e
    refine ha F0 H0 F ρ σ H _ ss S e1 fun vs F1 H1 g1 r1 hl => ?_
    show spD X.K CL CN n m bd (vs ++ []) H1 Q E0
    rw [List.append_nil]
    refine ⟨hl.trans hn, tupO F1, ss, fuel, (tupO_same F1).trans g1.fh, r1.tup hf, ?_⟩
    cases e2 : bd fuel (ss ++ List.replicate m .un) with
    | rt d =>
      rw [e2] at e
      cases d <;> first | (cases e; done) | skip
      rename_i ds'
      have e' : (if noLs ds' = true then some ds' else none) = some ds := e
      rw [Option.ite_none_right_eq_some] at e'
      obtain ⟨hno, e3⟩ := e'
      cases e3
      intro v F' H' g2 r2
      cases r2 with
      | lst h1 h2 =>
        rename_i l xs
        have hl1 : H1 l = none := by
          cases h : H1 l with
          | none => rfl
          | some o => exact (tupO_lst ((g2.ag l o h).symm.trans h1)).elim
        obtain ⟨gj, sj⟩ := join_grow g1.fh g2
        refine q l xs (joinF F1 H1 (tupO F')) H' (g1.trans gj) (g1.hh.free hl1) ?_ (g2.fh _ _ h1) (RpAll.mono sj _ _ (RpAll.tupF _ _ h2 hno))
        unfold joinF
        rw [hl1]
        show tupO F' l = none
        unfold tupO
        rw [h1]
    | _ => rw [e2] at e; cases e
/-- x = f(..): a new list of data without lists, or None -/
def sSetT (i : Nat) (b : SFn) (m : Nat) (fg : LFn) : SFn := fun ρ => match fg ρ with
  | some ss => if ss.all slFree = true then (match b (ss ++ List.replicate m .un) with
    | .rt (.list ds) => if noLs ds = true then .nx (ρ.set i (.ow ds)) else .no
    | .rt .none => .nx (ρ.set i (.fz .none))
    | _ => .no) else .no
  | none => .no
theorem ds_setT (i : Nat) (fuel : Nat) (G : FnOk X.prog X.w X.K X.mg X.base CX k g fd ps (spD X.K CL CN n m bd)) (hr : Room k X.A) (hm : X.mg x = some (.ref g)) (hk : PySem.W.keepIn X.K (.ref g) = true) (hb : Binds X.K fd ps []) (hpx : Passes CX X E0)
    (ha : DG X (a :: es) fg) (hN : X.N.Nodup) (hn : (a :: es).length = n := by rfl) (hg : Gl X x := by rfl) (hdb : (x == ("__debug__" : Str)) = false := by decide)
    (he : starEach (a :: es) X.env = (false, eval a X.env) :: starEach es X.env := by rfl) (hpl : (backTo pos (starEach es X.env)).any (·.1) = false := by rfl)
    (hi : X.N[i]? = some y := by rfl) (hx : Loc X.env.scope y := by first | exact Or.inl rfl | exact Or.inr rfl) (hs : swapsWith (.Call (.Name x p) (a :: es) [] pos) (some (.Name y pos')) pos2.line X.env = pure false := by rfl)
    (hf : X.fn y = true ∨ X.env.scope.names.lookup y = some .local := by first | exact .inl rfl | exact .inr rfl) :
    DS X EX (.Assign [.Name y pos'] (.Call (.Name x p) (a :: es) [] pos) pos2) (sSetT i (bd fuel) m fg) := by
  obtain ⟨ta, pa, ha⟩ := ha.ex
  refine ⟨_, L2.ps_set hN hi hx (pe_call G hr hg hm hk hb .nil hpx pa hdb he hpl) hs hf, fun F0 H0 F ρ σ H D S q => ?_⟩
  unfold sSetT at q
  cases e1 : fg ρ with
  | none => rw [e1] at q; exact q.elim
  | some ss =>
    simp only [e1] at q
    by_cases hfr : ss.all slFree = true
    · rw [if_pos hfr] at q
      refine ha F0 H0 F ρ σ H _ ss S e1 fun vs F1 H1 g1 r1 hl => ?_
      show spD X.K CL CN n m bd (vs ++ []) H1 _ E0
      rw [List.append_nil]
      refine ⟨hl.trans hn, tupO F1, ss, fuel, (tupO_same F1).trans g1.fh, r1.tup hfr, ?_⟩
      cases e2 : bd fuel (ss ++ List.replicate m .un) with
      | rt d =>
        rw [e2] at q
        cases d <;> first | (exact q.elim) | skip
        · intro v F' H' g2 r2
          cases r2
          exact q F1 _ H' (((S.grow g1).grow (Grow.more g1.fh g2.hh)).setZ .non)
        · rename_i ds
          by_cases hno : noLs ds = true
          · have q' : OutOk X.K F0 H0 D EX (if noLs ds = true then .nx (ρ.set i (.ow ds)) else .no) := q
            rw [if_pos hno] at q'
            intro v F' H' g2 r2
            cases r2 with
            | lst h1 h2 =>
              rename_i l xs
              have hl1 : H1 l = none := by
                cases h : H1 l with
                | none => rfl
                | some o => exact (tupO_lst ((g2.ag l o h).symm.trans h1)).elim
              obtain ⟨gj, sj⟩ := join_grow g1.fh g2
              refine q' (joinF F1 H1 (tupO F')) _ H' ((S.grow g1).setO gj hl1 ?_ (g2.fh _ _ h1) (RpAll.mono sj _ _ (RpAll.tupF _ _ h2 hno)))
              unfold joinF
              rw [hl1]
              show tupO F' l = none
              unfold tupO
              rw [h1]
          · have q' : OutOk X.K F0 H0 D EX (if noLs ds = true then .nx (ρ.set i (.ow ds)) else .no) := q
            rw [if_neg hno] at q'
            exact q'.elim
      | _ => rw [e2] at q; exact q.elim
    · rw [if_neg hfr] at q; exact q.elim
/-- x.clear() -/
def sClr (i : Nat) : SFn := fun ρ => match ρ[i]? with
  | some (.ow _) => .nx (ρ.set i (.ow []))
  | _ => .no
theorem ds_clear (i : Nat) {apos cpos : Pos} (hN : X.N[i]? = some x := by rfl) (hv : Vis X.env.scope x := by first | exact Or.inl rfl | exact Or.inr (Or.inl rfl) | exact Or.inr (Or.inr rfl)) (hd : (x == ("__debug__" : Str)) = false := by decide)
    (hcd : (x == ("__classdict__" : Str)) = false := by decide)
    (hbase : attributeBase (.Name x p) "clear" X.env (eval (.Name x p) X.env) = eval (.Name x p) X.env := by rfl)
    (hline : (apos.endLine == cpos.line) = true := by rfl)
    (hsw : swapsWith (.Call (.Attribute (.Name x p) "clear" apos) [] [] cpos) none pos.line X.env = pure false := by rfl) :
    DS X EX (.Expr (.Call (.Attribute (.Name x p) "clear" apos) [] [] cpos) pos) (sClr i) := by
  refine ⟨_, ps_expr (pe_bm0 PySem.F.plainAttrs_list PySem.F.slot_list_clear PySem.F.type_list_clear mt_clear (pe_var hN hv hd hcd) hbase hline) hsw, fun F0 H0 F ρ σ H D S q => ?_⟩
  unfold sClr at q
  cases e1 : ρ[i]? with
  | none => rw [e1] at q; exact q.elim
  | some s =>
    rw [e1] at q
    cases s <;> first | (exact q.elim) | skip
    obtain ⟨a, vs, hsg, ha, fa', za, ra⟩ := S.sl i _ e1
    exact ⟨_, hsg, .inl ⟨rfl, _, SqL.of ha⟩, a, vs, rfl, rfl, ha, q F σ _ (S.write (vs := vs) e1 hsg .nil)⟩
end
end L2.RC

namespace L2.RC
open PySem PySem.Spec PyProof.Rows
section
variable {X : Cx} {EX : EXX} {E : XK} {e a c : Expr} {pos pos2 p : Pos} {f fa : EFn} {CL CN fI : Addr} {k : Nat} {x : Str} {ft : TFn} {fs : SFn} {tg : Expr} {sts : List Stmt}
variable {g : Addr} {fd : FuncData} {ps : List Str} {n m : Nat} {bd : Nat → SFn} {fg : LFn} {es : List Expr} {y : Str} {pos' : Pos} {CX : CXT}
/-! ### a lent list's slot in a loop, an own one in a comprehension -/
def iBr (i : Nat) : OFn := fun ρ => match ρ[i]? with | some (.br ds) => some ds | some (.fz (.list ds)) => some ds | _ => none
theorem di_br (i : Nat) (hN : X.N[i]? = some x := by rfl) (hv : Vis X.env.scope x := by first | exact Or.inl rfl | exact Or.inr (Or.inl rfl) | exact Or.inr (Or.inr rfl)) (hd : (x == ("__debug__" : Str)) = false := by decide)
    (hcd : (x == ("__classdict__" : Str)) = false := by decide) : DI X tg (.Name x pos) (iBr i) := by
  refine ⟨_, pi_list (pe_var hN hv hd hcd), fun F0 H0 F ρ σ H R ds S e q => ?_⟩
  unfold iBr at e
  cases hs : ρ[i]? with
  | none => rw [hs] at e; cases e
  | some s =>
    rw [hs] at e
    cases s with
    | br ds' =>
      cases e
      obtain ⟨b, xs, e1, h1, r⟩ := S.sl i _ hs
      exact ⟨_, e1, b, rfl, ⟨xs, S.gr.hh.seq h1⟩, q _ F H (.refl S.gr.fh) ⟨xs, r, fun i Hx _ s hi => ⟨xs, xs[i], s.seq h1, by simp [hi]⟩, fun i Hx x H' _ s hi y => ⟨y.1, y.2 xs (s.seq h1)⟩, fun i Hx _ s hi => ⟨xs, s.seq h1, hi⟩⟩⟩
    | fz d =>
      cases d <;> first | (cases e; done) | skip
      cases e
      obtain ⟨v, e1, r⟩ := S.sl i _ hs
      cases r with
      | lst f1 a1 =>
        rename_i b xs
        exact ⟨_, e1, b, rfl, ⟨xs, SqL.of (S.gr.fh _ _ f1)⟩, q _ F H (.refl S.gr.fh) ⟨xs, a1, fun i Hx s _ hi => ⟨xs, xs[i], SqL.of (s _ _ f1), by simp [hi]⟩, fun i Hx x H' s _ hi y => ⟨y.1, y.2 xs (SqL.of (s _ _ f1))⟩, fun i Hx s _ hi => ⟨xs, SqL.of (s _ _ f1), hi⟩⟩⟩
    | _ => cases e
def iOw (i : Nat) : OFn := fun ρ => match ρ[i]? with | some (.ow ds) => some ds | some (.br ds) => some ds | some (.fz (.list ds)) => some ds | _ => none
theorem dj_ow (i : Nat) (hN : X.N[i]? = some x := by rfl) (hv : Vis X.env.scope x := by first | exact Or.inl rfl | exact Or.inr (Or.inl rfl) | exact Or.inr (Or.inr rfl)) (hd : (x == ("__debug__" : Str)) = false := by decide)
    (hcd : (x == ("__classdict__" : Str)) = false := by decide) : DJ X tg (.Name x pos) (iOw i) := by
  refine ⟨_, pi_list (pe_var hN hv hd hcd), fun F0 H0 F ρ σ H R ds S e q => ?_⟩
  have fin : ∀ (b : Addr) (xs : List V), SqL X.K H b xs → σ[i]? = some (some (.ref b)) → RpAll X.K F xs ds → iList X.K (tVar i) σ H R := fun b xs h e1 r =>
    ⟨_, e1, b, rfl, ⟨xs, h⟩, q _ F H (.refl S.gr.fh) ⟨xs, r, fun i Hx _ s hi => ⟨xs, xs[i], s.seq h, by simp [hi]⟩, fun i Hx x H' _ s hi y => ⟨y.1, y.2 xs (s.seq h)⟩, fun i Hx _ s hi => ⟨xs, s.seq h, hi⟩⟩⟩
  unfold iOw at e
  cases hs : ρ[i]? with
  | none => rw [hs] at e; cases e
  | some s =>
    rw [hs] at e
    cases s with
    | ow ds' =>
      cases e
      obtain ⟨b, xs, e1, h1, _, _, r⟩ := S.sl i _ hs
      exact fin b xs (SqL.of h1) e1 r
    | br ds' =>
      cases e
      obtain ⟨b, xs, e1, h1, r⟩ := S.sl i _ hs
      exact fin b xs (S.gr.hh.seq h1) e1 r
    | fz d =>
      cases d <;> first | (cases e; done) | skip
      cases e
      obtain ⟨v, e1, r⟩ := S.sl i _ hs
      cases r with
      | lst f1 a1 => exact fin _ _ (SqL.of (S.gr.fh _ _ f1)) e1 a1
    | un => cases e
    | pw b ds' => cases e
/-! ### new data beside the frame -/
theorem StF.drop {K : PySem.W.Frag} {F0 H0 F H : Hp} {ρ : DEnv} {σ : St} {i : Nat} {o : Option V} (S : StF K F0 H0 F ρ σ H) : StF K F0 H0 F (ρ.set i .un) (σ.set i o) H := by
  refine ⟨S.gr, fun j s e => ?_, sep_set S.sep rfl, by rw [List.length_set, List.length_set, S.len]⟩
  rcases getD_set e with ⟨rfl, rfl⟩ | ⟨hj, e⟩
  · trivial
  · rw [List.getElem?_set_ne (Ne.symm hj)]
    exact S.sl j s e
structure TwoF (K : PySem.W.Frag) (F0 H0 F G : Hp) (ρ : DEnv) (i : Nat) (d : PyData) (σ : St) (H : Hp) : Prop where
  sb : StF K F0 H0 F ρ σ H
  un : ρ[i]? = some .un
  v : ∃ v, σ[i]? = some (some v) ∧ Rp K G v d
  sg : Same G H
  gl : ∀ a xs, G a = some (.lst xs) → F a = none ∧ H0 a = none
  go : ∀ (j : Nat) s a, ρ[j]? = some s → Sl.own s = true → σ[j]? = some (some (V.ref a)) → G a = none
  gb : ∀ a o x, H0 a = some o → G a = some x → F0 a = some x
def orF (G F : Hp) : Hp := fun a => match G a with | some x => some x | none => F a
theorem orF_l {G F : Hp} : Same G (orF G F) := fun a o e => by unfold orF; rw [e]
section
variable {K : PySem.W.Frag} {F0 H0 F G H H1 : Hp} {ρ : DEnv} {i : Nat} {d : PyData} {σ : St}
theorem TwoF.aS (T : TwoF K F0 H0 F G ρ i d σ H) : StF K F0 H0 (orF G F) (ρ.set i (.fz d)) σ H := by
  have agree : ∀ a o, F a = some o → orF G F a = some o := fun a o e => by
    unfold orF
    cases h : G a with
    | none => exact e
    | some x => exact (T.sg a x h).symm.trans (T.sb.gr.fh a o e)
  have isn : ∀ a, G a = none → orF G F a = F a := fun a e => by unfold orF; rw [e]
  have hfh : Same (orF G F) H := fun a o e => by
    unfold orF at e
    cases h : G a with
    | none => rw [h] at e; exact T.sb.gr.fh a o e
    | some z => rw [h] at e; exact (T.sg a z h).trans e
  refine ⟨⟨T.sb.gr.hh, fun a o e => agree a o (T.sb.gr.ff a o e), hfh, fun a o e => ?_⟩, fun j s e => ?_, sep_rho T.sb.sep rfl, by rw [List.length_set]; exact T.sb.len⟩
  · unfold orF
    cases h : G a with
    | none => exact T.sb.gr.ag a o e
    | some x => exact (T.gb a o x e h).symm
  · rcases getD_set e with ⟨rfl, rfl⟩ | ⟨hj, e⟩
    · obtain ⟨v, h1, h2⟩ := T.v
      exact ⟨v, h1, Rp.mono orF_l _ _ h2⟩
    · have q := T.sb.sl j s e
      cases s with
      | un => trivial
      | fz d' => obtain ⟨v, h1, h2⟩ := q; exact ⟨v, h1, Rp.mono agree _ _ h2⟩
      | br ds => obtain ⟨b, us, h1, h2, h3⟩ := q; exact ⟨b, us, h1, h2, RpAll.mono agree _ _ h3⟩
      | ow ds =>
        obtain ⟨b, us, h1, h2, h3, h4, h5⟩ := q
        exact ⟨b, us, h1, h2, (isn b (T.go j _ b e rfl h1)).trans h3, h4, RpAll.mono agree _ _ h5⟩
      | pw b ds =>
        obtain ⟨us, h1, h2, h3, h4, h5⟩ := q
        exact ⟨us, h1, h2, (isn b (T.go j _ b e rfl h1)).trans h3, h4, RpAll.mono agree _ _ h5⟩
/-- the heap has grown, the slots are as they were -/
theorem TwoF.more (T : TwoF K F0 H0 F G ρ i d σ H) (s : Same H H1) : TwoF K F0 H0 F G ρ i d σ H1 :=
  ⟨T.sb.grow (.more T.sb.gr.fh s), T.un, T.v, T.sg.trans s, T.gl, T.go, T.gb⟩
/-- the frame has grown with the heap -/
theorem TwoF.grow {F1 : Hp} (T : TwoF K F0 H0 F G ρ i d σ H) (g : Grow F H F1 H1) : TwoF K F0 H0 F1 G ρ i d σ H1 :=
  ⟨T.sb.grow g, T.un, T.v, T.sg.trans g.hh, fun a xs e => ⟨(g.ag a _ (T.sg a _ e)).trans (T.gl a xs e).1, (T.gl a xs e).2⟩, T.go, T.gb⟩
theorem TwoF.setZ {j : Nat} {v : V} {d' : PyData} (T : TwoF K F0 H0 F G ρ i d σ H) (hj : j ≠ i) (r : Rp K F v d') : TwoF K F0 H0 F G (ρ.set j (.fz d')) i d (σ.set j (some v)) H := by
  refine ⟨T.sb.setZ r, by rw [List.getElem?_set_ne hj]; exact T.un, by rw [List.getElem?_set_ne hj]; exact T.v, T.sg, T.gl, fun k s a h1 o1 h2 => ?_, T.gb⟩
  rcases getD_set h1 with ⟨_, rfl⟩ | ⟨hk, h1⟩
  · cases o1
  · rw [List.getElem?_set_ne (Ne.symm hk)] at h2
    exact T.go k s a h1 o1 h2
theorem TwoF.setO {j : Nat} {p : Addr} {vs : List V} {ds : List PyData} {F1 : Hp} (T : TwoF K F0 H0 F G ρ i d σ H) (hj : j ≠ i) (g : Grow F H F1 H1) (n1 : H p = none) (n2 : F1 p = none) (hp : H1 p = some (.lst vs)) (r : RpAll K F1 vs ds) :
    TwoF K F0 H0 F1 G (ρ.set j (.ow ds)) i d (σ.set j (some (.ref p))) H1 := by
  have T1 := T.grow g
  refine ⟨T.sb.setO g n1 n2 hp r, by rw [List.getElem?_set_ne hj]; exact T.un, by rw [List.getElem?_set_ne hj]; exact T.v, T1.sg, T1.gl, fun k s a h1 o1 h2 => ?_, T1.gb⟩
  rcases getD_set h1 with ⟨rfl, _⟩ | ⟨hk, h1⟩
  · have hl : k < σ.length := by
      by_cases hl : k < σ.length
      · exact hl
      · rw [List.getElem?_eq_none (by rw [List.length_set]; omega)] at h2; cases h2
    rw [List.getElem?_set_self hl] at h2
    cases h2
    exact T.sg.free n1
  · rw [List.getElem?_set_ne (Ne.symm hk)] at h2
    exact T.go k s a h1 o1 h2
/-- a list that nothing in the frame or the slots holds is changed -/
theorem StF.side {q : Addr} {o : HO} (S : StF K F0 H0 F ρ σ H) (h1 : F q = none) (h2 : H0 q = none) (h3 : ∀ (j : Nat) s, ρ[j]? = some s → Sl.own s = true → σ[j]? ≠ some (some (V.ref q))) : StF K F0 H0 F ρ σ (upd H q o) := by
  refine ⟨⟨fun b x e => ?_, S.gr.ff, fun b x e => ?_, S.gr.ag⟩, fun j s e => ?_, S.sep, S.len⟩
  · rw [upd_ne (ne_of_none e h2)]; exact S.gr.hh b x e
  · rw [upd_ne (ne_of_none e h1)]; exact S.gr.fh b x e
  · have q' := S.sl j s e
    cases s with
    | un => trivial
    | fz d => exact q'
    | br ds' => exact q'
    | ow ds' =>
      obtain ⟨b, us, e1, hb, fb, zb, rb⟩ := q'
      refine ⟨b, us, e1, ?_, fb, zb, rb⟩
      rw [upd_ne]
      · exact hb
      · rintro rfl
        exact h3 j _ e rfl e1
    | pw b ds' =>
      obtain ⟨us, e1, hb, fb, zb, rb⟩ := q'
      refine ⟨us, e1, ?_, fb, zb, rb⟩
      rw [upd_ne]
      · exact hb
      · rintro rfl
        exact h3 j _ e rfl e1
/-- q is a list of the data beside the frame -/
def Beside (F0 H0 F : Hp) (ρ : DEnv) (σ : St) (q : Addr) : Prop := F q = none ∧ H0 q = none ∧ ∀ (j : Nat) s, ρ[j]? = some s → Sl.own s = true → σ[j]? ≠ some (some (V.ref q))
theorem TwoF.beside {q : Addr} {xs : List V} (T : TwoF K F0 H0 F G ρ i d σ H) (h : G q = some (.lst xs)) : Beside F0 H0 F ρ σ q :=
  ⟨(T.gl q xs h).1, (T.gl q xs h).2, fun j s e1 o1 e2 => by rw [T.go j s q e1 o1 e2] at h; cases h⟩
end
abbrev KFn := DEnv → PyData → Out
structure DD (X : Cx) (EX : EXX) (i : Nat) (sts : List Stmt) (f : KFn) : Prop where
  ex : ∃ ts, PSs X sts ts ∧ ∀ F0 H0 F G ρ σ H D d, TwoF X.K F0 H0 F G ρ i d σ H → OutOk X.K F0 H0 D EX (f ρ d) → ts D σ H
variable {i : Nat} {fk : KFn} {rest : List Stmt} {fo : OFn}
/-- if c: return .. -/
def kIf (i : Nat) (ft : TFn) (fs : SFn) (fk : KFn) : KFn := fun ρ d => match ft (ρ.set i (.fz d)) with
  | some true => (match fs (ρ.set i (.fz d)) with | .rt r => .rt r | _ => .no)
  | some false => fk ρ d
  | none => .no
theorem dd_if (i : Nat) {xs : List Stmt} (hc : DT X c ft) (ha : DSs X EX xs fs) (hr : DD X EX i rest fk) : DD X EX i (.If c xs [] pos :: rest) (kIf i ft fs fk) := by
  obtain ⟨tc, pc, hc⟩ := hc.ex
  obtain ⟨t, p1, h1⟩ := ha.ex
  obtain ⟨u, p2, h2⟩ := hr.ex
  refine ⟨_, pss_cons (ps_if pc p1 pss_nil) p2, fun F0 H0 F G ρ σ H D d T q => ?_⟩
  unfold kIf at q
  cases e : ft (ρ.set i (.fz d)) with
  | none => rw [e] at q; exact q.elim
  | some k =>
    rw [e] at q
    refine hc F0 H0 (orF G F) _ σ H _ k T.aS e fun F1 H1 g => ?_
    cases k with
    | false => exact iteF (h2 F0 H0 F G ρ σ H1 D d (T.more g.hh) q)
    | true =>
      refine iteT (h1 F0 H0 F1 _ σ H1 { D with nx := u D } (T.aS.grow g) ?_)
      dsimp only at q
      cases e2 : fs (ρ.set i (.fz d)) with
      | rt r => rw [e2] at q; exact q
      | _ => rw [e2] at q; exact q.elim
/-- x = e, e without the data beside the frame -/
def kSet (i j : Nat) (f : EFn) (fk : KFn) : KFn := fun ρ d => match f ρ with
  | some d' => fk (ρ.set j (.fz d')) d
  | none => .no
theorem dd_set (i j : Nat) (h : DEs X e f) (hr : DD X EX i rest fk) (hN : X.N.Nodup) (hj : j ≠ i := by decide) (hi : X.N[j]? = some x := by rfl) (hx : Loc X.env.scope x := by first | exact Or.inl rfl | exact Or.inr rfl) (hs : swapsWith e (some (.Name x pos')) pos.line X.env = pure false := by rfl)
    (hf : X.fn x = true ∨ X.env.scope.names.lookup x = some .local := by first | exact .inl rfl | exact .inr rfl) : DD X EX i (.Assign [.Name x pos'] e pos :: rest) (kSet i j f fk) := by
  obtain ⟨te, p, h⟩ := h.ex
  obtain ⟨u, p2, h2⟩ := hr.ex
  refine ⟨_, pss_cons (L2.ps_set hN hi hx p hs hf) p2, fun F0 H0 F G ρ σ H D d T q => ?_⟩
  unfold kSet at q
  cases e1 : f ρ with
  | none => rw [e1] at q; exact q.elim
  | some d' =>
    rw [e1] at q
    exact h F0 H0 F ρ σ H _ d' T.sb e1 fun v F1 H1 g r => h2 F0 H0 F1 G _ _ H1 D d ((T.grow g).setZ hj r) q
def kSetO (i j : Nat) (f : OFn) (fk : KFn) : KFn := fun ρ d => match f ρ with
  | some ds => fk (ρ.set j (.ow ds)) d
  | none => .no
theorem dd_setLc0 {elt iter : Expr} {q : Pos} {scope : Scope} {fe : EFn} {fi : OFn} {spos : Pos} (i w j : Nat) {y : Str} {py : Pos} (hI : DJ X (.Name x q) iter fi) (ok : BlkOk X.N X.env.scope scope [(x, w)]) (hN : X.N.Nodup)
    (he : ∀ (s : Shared) (H : Hp) (C : Addr) (cl : List (Str × Addr)) (fp : List Addr), DEs (X.blk s H scope (compEnvC scope cl C X.env) fp) elt fe)
    (hg : ∀ (s : Shared) (H : Hp) (C : Addr) (cl : List (Str × Addr)) (fp : List Addr), PG (X.blk s H scope (compEnvC scope cl C X.env) fp) (.Name x q) (gName w))
    (hsw : swapsWith (.ListComp elt [⟨.Name x q, iter, [], 0⟩] scope pos) (some (.Name y py)) spos.line X.env = pure true) (hr : DD X EX i rest fk)
    (hj : j ≠ i := by decide) (hy : X.N[j]? = some y := by rfl) (hyl : X.env.scope.names.lookup y = some .local := by rfl) (hc : X.calm = true := by rfl) (hs : ∀ x, foldedSetIterable iter X.env x = pure x := by intro _; rfl) :
    DD X EX i (.Assign [.Name y py] (.ListComp elt [⟨.Name x q, iter, [], 0⟩] scope pos) spos :: rest) (kSetO i j (oComp w fi tTrue fe) fk) := by
  obtain ⟨wi, pi, hwi⟩ := hI.ex
  obtain ⟨u, p2, h2⟩ := hr.ex
  refine ⟨_, pss_cons (ps_setLc (te := cEs X.K fe) hc hN hy hyl hsw pi ok hg (fun _ _ _ _ _ => pts_nil) (fun s H C cl fp => (he s H C cl fp).can) hs) p2, fun F0 H0 F G ρ σ H D d T q => ?_⟩
  unfold kSetO at q
  cases e1 : oComp w fi tTrue fe ρ with
  | none => rw [e1] at q; exact q.elim
  | some ds =>
    rw [e1] at q
    have hte : EsOk X.K (cEs X.K fe) fe := fun F0 H0 F ρ σ H Q d S e q => ⟨F0, H0, F, ρ, d, S, e, q⟩
    refine eo_lc w hwi (fun F0 H0 F ρ σ H Q b S e q => ?_) hte F0 H0 F ρ σ H (fun v H1 => u D (σ.set j (some v)) H1) ds T.sb e1 fun t vs F1 H1 g n1 n2 hp r => ?_
    · cases e
      exact q F H (.refl S.gr.fh)
    · exact h2 F0 H0 F1 G _ _ H1 D d (T.setO hj g n1 n2 hp r) q
/-- x = f(..): the result stands beside the frame -/
def sKp (i : Nat) (b : SFn) (m : Nat) (fg : LFn) (fk : KFn) : SFn := fun ρ => match fg ρ with
  | some ss => if ss.all slFree = true ∧ i < ρ.length then (match b (ss ++ List.replicate m .un) with | .rt d => fk (ρ.set i .un) d | _ => .no) else .no
  | none => .no
theorem dss_kp (i : Nat) (fuel : Nat) (G : FnOk X.prog X.w X.K X.mg X.base CX k g fd ps (spD X.K CL CN n m bd)) (hr : Room k X.A) (hm : X.mg x = some (.ref g)) (hk : PySem.W.keepIn X.K (.ref g) = true) (hb : Binds X.K fd ps []) (hpx : Passes CX X E0)
    (ha : DG X (a :: es) fg) (hN : X.N.Nodup) (hR : DD X EX i rest fk) (hn : (a :: es).length = n := by rfl) (hg : Gl X x := by rfl) (hdb : (x == ("__debug__" : Str)) = false := by decide)
    (he : starEach (a :: es) X.env = (false, eval a X.env) :: starEach es X.env := by rfl) (hpl : (backTo pos (starEach es X.env)).any (·.1) = false := by rfl)
    (hi : X.N[i]? = some y := by rfl) (hx : Loc X.env.scope y := by first | exact Or.inl rfl | exact Or.inr rfl) (hs : swapsWith (.Call (.Name x p) (a :: es) [] pos) (some (.Name y pos')) pos2.line X.env = pure false := by rfl)
    (hf : X.fn y = true ∨ X.env.scope.names.lookup y = some .local := by first | exact .inl rfl | exact .inr rfl) :
    DSs X EX (.Assign [.Name y pos'] (.Call (.Name x p) (a :: es) [] pos) pos2 :: rest) (sKp i (bd fuel) m fg fk) := by
  obtain ⟨ta, pa, ha⟩ := ha.ex
  obtain ⟨u, p2, h2⟩ := hR.ex
  refine ⟨_, pss_cons (L2.ps_set hN hi hx (pe_call G hr hg hm hk hb .nil hpx pa hdb he hpl) hs hf) p2, fun F0 H0 F ρ σ H D S q => ?_⟩
  unfold sKp at q
  cases e1 : fg ρ with
  | none => rw [e1] at q; exact q.elim
  | some ss =>
    simp only [e1] at q
    by_cases hfr : ss.all slFree = true ∧ i < ρ.length
    · rw [if_pos hfr] at q
      obtain ⟨hfr, hil'⟩ := hfr
      refine ha F0 H0 F ρ σ H _ ss S e1 fun vs F1 H1 g1 r1 hl => ?_
      show spD X.K CL CN n m bd (vs ++ []) H1 _ E0
      rw [List.append_nil]
      refine ⟨hl.trans hn, tupO F1, ss, fuel, (tupO_same F1).trans g1.fh, r1.tup hfr, ?_⟩
      cases e2 : bd fuel (ss ++ List.replicate m .un) with
      | rt d =>
        rw [e2] at q
        dsimp only at q
        intro v F' H' g2 r2
        have S1 := (S.grow g1).grow (Grow.more g1.fh g2.hh)
        have hil : i < σ.length := S.len ▸ hil'
        refine h2 F0 H0 F1 F' (ρ.set i .un) (σ.set i (some v)) H' D d ⟨?_, ?_, ⟨v, List.getElem?_set_self hil, r2⟩, g2.fh, fun b xs e => ?_, fun j s b e3 o3 e4 => ?_, fun b o z e3 e4 => ?_⟩ q
        · exact S1.drop
        · rw [List.getElem?_set_self hil']
        · have hb1 : H1 b = none := by
            cases h : H1 b with
            | none => rfl
            | some o => exact (tupO_lst ((g2.ag b o h).symm.trans e)).elim
          exact ⟨g1.fh.free hb1, (S.gr.trans g1).hh.free hb1⟩
        · rcases getD_set e3 with ⟨_, rfl⟩ | ⟨hj, e3⟩
          · cases o3
          · rw [List.getElem?_set_ne (Ne.symm hj)] at e4
            obtain ⟨us, q2, q3⟩ : ∃ us, H1 b = some (.lst us) ∧ F1 b = none := by
              have q := (S.grow g1).sl j _ e3
              cases s with
              | ow ds =>
                obtain ⟨b', us, q1, q2, q3, _⟩ := q
                rw [e4] at q1
                cases q1
                exact ⟨us, q2, q3⟩
              | pw b' ds =>
                obtain ⟨us, q1, q2, q3, _⟩ := q
                rw [e4] at q1
                cases q1
                exact ⟨us, q2, q3⟩
              | un => cases o3
              | fz d => cases o3
              | br ds => cases o3
            cases h : F' b with
            | none => rfl
            | some z =>
              have e5 : tupO F1 b = some z := (g2.ag b _ q2).symm.trans h
              rw [tupO_same F1 b z e5] at q3
              cases q3
        · have hz : H1 b = some o := (S.gr.trans g1).hh b o e3
          have e5 : tupO F1 b = some z := (g2.ag b o hz).symm.trans e4
          exact ((S.gr.trans g1).ag b o e3).symm.trans (tupO_same F1 b z e5)
      | _ => rw [e2] at q; exact q.elim
    · rw [if_neg hfr] at q; exact q.elim

/-! ### the data beside the frame is changed, and never read again -/
theorem pair_rp {K : PySem.W.Frag} {G : Hp} {v : V} {d0 : PyData} {ds : List PyData} (r : Rp K G v (.tuple [d0, .list ds])) : ∃ t x0 q vs, v = .ref t ∧ SqT K G t [x0, .ref q] ∧ G q = some (.lst vs) ∧ RpAll K G vs ds := by
  cases r with
  | tup h1 h2 =>
    cases h2 with
    | cons r0 h2 =>
      cases h2 with
      | cons r1 h2 =>
        cases h2
        cases r1 with
        | lst h3 h4 => exact ⟨_, _, _, _, rfl, h1, h3, h4⟩
theorem ix1 {K : PySem.W.Frag} {t : Addr} {x0 y : V} {H : Hp} {i : Nat} {σ : St} {Q : VK} (hs : σ[i]? = some (some (.ref t))) (h : SqT K H t [x0, y]) (q : Q y H) : tOp (rIx K) (tVar i) (tC (.int 1)) σ H Q :=
  ⟨_, hs, .inr (.inl ⟨t, _, 1, y, rfl, rfl, h, rfl, q⟩)⟩
section
variable {j1 : Nat} {p1 p2 p3 p4 : Pos} {fs : SFn}
def kApp (f : EFn) (fs : SFn) : KFn := fun ρ d => match d with
  | .tuple [_, .list ds] => if ds.length < 1000000 then (match f ρ with | some _ => fs ρ | none => .no) else .no
  | _ => .no
/-- x[1].append(e) -/
theorem dd_append (i : Nat) {apos cpos : Pos} (h : DEs X e f) (hr : DSs X EX rest fs) (hN : X.N[i]? = some x := by rfl) (hv : Vis X.env.scope x := by first | exact Or.inl rfl | exact Or.inr (Or.inl rfl) | exact Or.inr (Or.inr rfl)) (hd : (x == ("__debug__" : Str)) = false := by decide)
    (hcd : (x == ("__classdict__" : Str)) = false := by decide)
    (hbase : attributeBase (.Subscript (.Name x p1) (.Constant (.int 1) j1 p2) p3) "append" X.env (eval (.Subscript (.Name x p1) (.Constant (.int 1) j1 p2) p3) X.env) = eval (.Subscript (.Name x p1) (.Constant (.int 1) j1 p2) p3) X.env := by rfl)
    (hfew : ((backTo cpos (starEach [e] X.env)).all (fun x => !x.1) && (backToKw cpos (keywordEach [] X.env)).all (fun x => x.1.isSome)
      && decide ([e].length + ([] : List Keyword).length + (if ([] : List Keyword).isEmpty then 0 else 1) < 30)) = true := by rfl)
    (hline : (apos.endLine == cpos.line) = true := by rfl) (hs : starEach [e] X.env = [(false, eval e X.env)] := by rfl)
    (hsw : swapsWith (.Call (.Attribute (.Subscript (.Name x p1) (.Constant (.int 1) j1 p2) p3) "append" apos) [e] [] cpos) none pos.line X.env = pure false := by rfl) :
    DD X EX i (.Expr (.Call (.Attribute (.Subscript (.Name x p1) (.Constant (.int 1) j1 p2) p3) "append" apos) [e] [] cpos) pos :: rest) (kApp f fs) := by
  obtain ⟨te, pe, h⟩ := h.ex
  obtain ⟨u, p2', h2⟩ := hr.ex
  refine ⟨_, pss_cons (ps_expr (pe_bm PySem.F.plainAttrs_list PySem.F.slot_list_append PySem.F.type_list_append mt_append (pe_ix ix_seq (pe_var hN hv hd hcd) pe_int (by exact fun _ _ => rfl)) (pa_cons pe pa_nil hs) hbase hfew hline hs rfl) hsw) p2', fun F0 H0 F G ρ σ H D d T q => ?_⟩
  obtain ⟨v, hσ, r⟩ := T.v
  unfold kApp at q
  split at q
  · rename_i d0 ds
    by_cases hl : ds.length < 1000000
    · rw [if_pos hl] at q
      obtain ⟨t, x0, b, vs, rfl, h1, hb, rb⟩ := pair_rp r
      cases e2 : f ρ with
      | none => rw [e2] at q; exact q.elim
      | some d' =>
        simp only [e2] at q
        refine ix1 hσ (seqT_same T.sg h1) ⟨.inl ⟨rfl, _, SqL.of (T.sg _ _ hb)⟩, h F0 H0 F ρ σ H _ d' T.sb e2 fun w F1 H1 g r1 => ?_⟩
        obtain ⟨b1, b2, b3⟩ := T.beside hb
        refine ⟨b, vs, w, rfl, rfl, g.hh _ _ (T.sg _ _ hb), by rw [rb.length]; exact small1l (Nat.le_of_lt hl), ?_⟩
        exact h2 F0 H0 F1 ρ σ _ D ((T.sb.grow g).side ((g.ag _ _ (T.sg _ _ hb)).trans b1) b2 b3) q
    · rw [if_neg hl] at q; exact q.elim
  · exact q.elim
def kClr (fs : SFn) : KFn := fun ρ d => match d with
  | .tuple [_, .list _] => fs ρ
  | _ => .no
/-- x[1].clear() -/
theorem dd_clear (i : Nat) {apos cpos : Pos} (hr : DSs X EX rest fs) (hN : X.N[i]? = some x := by rfl) (hv : Vis X.env.scope x := by first | exact Or.inl rfl | exact Or.inr (Or.inl rfl) | exact Or.inr (Or.inr rfl)) (hd : (x == ("__debug__" : Str)) = false := by decide)
    (hcd : (x == ("__classdict__" : Str)) = false := by decide)
    (hbase : attributeBase (.Subscript (.Name x p1) (.Constant (.int 1) j1 p2) p3) "clear" X.env (eval (.Subscript (.Name x p1) (.Constant (.int 1) j1 p2) p3) X.env) = eval (.Subscript (.Name x p1) (.Constant (.int 1) j1 p2) p3) X.env := by rfl)
    (hline : (apos.endLine == cpos.line) = true := by rfl)
    (hsw : swapsWith (.Call (.Attribute (.Subscript (.Name x p1) (.Constant (.int 1) j1 p2) p3) "clear" apos) [] [] cpos) none pos.line X.env = pure false := by rfl) :
    DD X EX i (.Expr (.Call (.Attribute (.Subscript (.Name x p1) (.Constant (.int 1) j1 p2) p3) "clear" apos) [] [] cpos) pos :: rest) (kClr fs) := by
  obtain ⟨u, p2', h2⟩ := hr.ex
  refine ⟨_, pss_cons (ps_expr (pe_bm0 PySem.F.plainAttrs_list PySem.F.slot_list_clear PySem.F.type_list_clear mt_clear (pe_ix ix_seq (pe_var hN hv hd hcd) pe_int (by exact fun _ _ => rfl)) hbase hline) hsw) p2', fun F0 H0 F G ρ σ H D d T q => ?_⟩
  obtain ⟨v, hσ, r⟩ := T.v
  unfold kClr at q
  split at q
  · rename_i d0 ds
    obtain ⟨t, x0, b, vs, rfl, h1, hb, rb⟩ := pair_rp r
    obtain ⟨b1, b2, b3⟩ := T.beside hb
    exact ix1 hσ (seqT_same T.sg h1) ⟨.inl ⟨rfl, _, SqL.of (T.sg _ _ hb)⟩, b, vs, rfl, rfl, T.sg _ _ hb, h2 F0 H0 F ρ σ _ D (T.sb.side b1 b2 b3) q⟩
  · exact q.elim
end
end
end L2.RC

namespace L2.RC
open PySem PySem.Spec PyProof.Rows
/-! ### sorted(set(xs)), xs a list of ints -/
/-- a new set's object -/
abbrev soN (w : World) : Obj := { cls := .type "set", dict := none, data := .set #[] 0 (.fresh 0 0 (!w.params.followText "set-order")) }
section
variable {P : Program} {w : World} {A : Around} {E : Value → Shared → Prop} {s : Shared}
/-- set(xs): what the set then holds -/
theorem set_of_list {l : Addr} {items : Array Value} (ns : List Int) {Q : Value → Shared → Prop} (hh : A.handled = none) (hl : s.heap.IsList l items) (hit : IntsAre items.toList ns) (hb : ns.length + 1 < scanBound)
    (h : ∀ (h' : Heap) (tk c : Nat), SetR w h' s.heap.objs.size (fun j => decide (j ∈ ns)) c → c ≤ ns.length → (∀ b o, s.heap.get? b = some o → h'.get? b = some o) → Q (.ref s.heap.objs.size) { s with heap := h', toks := tk }) :
    wpAny (model P w) A (call (.type "set") [.ref l]) Q E s := by
  have hisz : items.size = ns.length := by have q := IntsAre.length hit; rw [Array.length_toList] at q; exact q
  obtain ⟨c, tl, hmro⟩ := F.called_set.mro
  have hmade := F.called_set.made; have hsub := F.called_set.sub
  refine wpAny_call (codeAny_of_tree ?_)
  show wpAny _ _ (callAny (.type "set") _) _ _ _
  refine wpAny_pure ⟨Code.quiet_builtin _ (by decide +kernel), codeAny_builtin F.entry_type_call ?_⟩
  rw [Around.under_plain (weight_type_call_type "set" [.ref l] []) rfl]
  have h1 := F.called_set.notType; have h2 := F.called_set.canCreate
  have hct := F.typeCall_set_1 (.ref l)
  repeat (any_goals (first | assumption | wp_step))
  refine codeAny_mono (code_set_led1 (.ref l) (E := E) (Q₁ := fun obj s₁ => obj = .ref s.heap.objs.size ∧ s₁ = { s with heap := s.heap.push (soN w) }) ⟨rfl, rfl⟩) fun r s₁ hr => ?_
  cases r with
  | error e => exact hr
  | ok fl =>
    cases fl with
    | ret obj =>
      obtain ⟨rfl, rfl⟩ := hr
      have hS : (s.heap.push (soN w)).get? s.heap.objs.size = some (soN w) := Heap.get?_push_size _ rfl
      have hT : Shared.TypeIs { s with heap := s.heap.push (soN w) } (.ref s.heap.objs.size) "set" := ⟨_, hS, rfl⟩
      have hli := F.called_set.init.lookup; have hbi := F.called_set.init.bind (.ref s.heap.objs.size)
      repeat (any_goals (first | assumption | wp_step))
      refine codeAny_mono (codeAny_call_builtin (R := wants (fun r s₂ => r = .none ∧ ∃ h' tk c, s₂ = { s with heap := h', toks := tk } ∧ SetR w h' s.heap.objs.size (fun j => decide (j ∈ ns)) c ∧ c ≤ ns.length ∧
          (∀ b o, s.heap.get? b = some o → h'.get? b = some o)) E) F.called_set.init.plain F.entry_set_init (check_set_init_1 hT ?_)) fun r₂ s₂ hr₂ => ?_
      · obtain ⟨ol, hol, hcl, nl, hdl⟩ := hl
        obtain ⟨ocls, odict, odata, oslots⟩ := ol
        simp only at hcl hdl
        subst hcl; subst hdl
        have hol' : (s.heap.push (soN w)).get? l = some { cls := .type "list", dict := odict, data := .seq items nl, slots := oslots } := Heap.get?_push_of_some _ hol
        have hsls := F.sub_list_set; have hslf := F.sub_list_frozenset
        have hne : (Value.type "list" == Value.type "dict") = false := by decide
        have hl1 : (s.heap.push (soN w)).IsList l items := ⟨_, hol', rfl, nl, rfl⟩
        unfold Builtin.«set.__init__» noKeywords Builtin.Frozenset.updateFrom
        generalize hPI : pyIter = PI
        wp_walk
        subst hPI
        refine wpAny_pyIter_list hl1 ?_
        refine wpAny_bind (wpAny_runValue ?_)
        have hlS : l < s.heap.objs.size := Heap.lt_size hol
        have hh3 : A.in1.in1.in1.handled = none := by simp [hh]
        have hneI : l ≠ (s.heap.push (soN w)).objs.size := by rw [Heap.size_push]; exact Nat.ne_of_lt (Nat.lt_succ_of_lt hlS)
        have hSf : s.heap.objs.size ∉ [(s.heap.push (soN w)).objs.size, l] := by
          rw [Heap.size_push]; simp only [List.mem_cons, List.mem_singleton, List.not_mem_nil, or_false, not_or]
          exact ⟨Nat.ne_of_lt (Nat.lt_succ_self _), Nat.ne_of_gt hlS⟩
        have hval : ∀ (i : Nat) (v : Value), items[i]? = some v → ∃ k t, ns[i]? = some k ∧ v = .int k t := fun i v hv => by
          have hi : i < ns.length := by rw [← hisz]; exact (Array.getElem?_eq_some_iff.mp hv).1
          obtain ⟨t, e⟩ := PyProof.Rows.IntsAre.int_at hit i v (by rw [Array.getElem?_toList]; exact hv)
          exact ⟨ns[i], t, List.getElem?_eq_getElem hi, by rw [e, List.getD_eq_getElem?_getD, List.getElem?_eq_getElem hi] <;> rfl⟩
        refine set_update_ints ((Walks.list hh3 _ l hneI items).toS) s.heap.objs.size hSf ns hisz hb hval (items.size - 0) 0 _ (by omega) (Nat.zero_le _) ⟨⟨_, Heap.get?_push_size _ rfl, rfl, rfl⟩, (hl1.push _)⟩ ?hS0 ?hR
        case hS0 => exact ⟨0, Nat.le_refl 0, setR_new_at (Heap.get?_push_of_some _ hS)⟩
        case hR =>
          intro s' c' hm hc' hS'
          obtain ⟨h', g2, d', tk', os'⟩ := s'
          have eg : g2 = s.gens := hm.gens
          have ed : d' = s.drawn := hm.drawn
          have eo : os' = s.os := hm.os
          subst eg; subst ed; subst eo
          show wpAny _ _ _ _ _ _
          refine wpAny_pure ?_
          show wpAny _ _ (ret Value.none) _ _ _
          rw [hisz] at hc'
          refine wpAny_pure ⟨rfl, h', tk', c', rfl, hS', hc', fun b o e => ?_⟩
          have hb0 : b < s.heap.objs.size := Heap.lt_size e
          have hb2 : b ≠ (s.heap.push (soN w)).objs.size := by rw [Heap.size_push]; exact Nat.ne_of_lt (Nat.lt_succ_of_lt hb0)
          exact hm.heap b o (by simp only [List.mem_cons, List.mem_singleton, List.not_mem_nil, or_false, not_or]; exact ⟨Nat.ne_of_lt hb0, hb2⟩) (Heap.get?_push_of_some _ (Heap.get?_push_of_some _ e))
      · cases r₂ with
        | error e => exact hr₂
        | ok fl₂ =>
          cases fl₂ with
          | ret r =>
            obtain ⟨rfl, h', tk, c, rfl, hS', hc', hk'⟩ := hr₂
            repeat (any_goals (first | assumption | wp_step))
            exact h _ _ _ hS' hc' hk'
          | _ => exact hr₂.elim
    | _ => exact hr.elim
end
section
variable {X : Cx}
def rSetL (K : PySem.W.Frag) (w : World) : List V → Hp → VK → Prop := fun xs H Q => ∃ (l : Addr) (ns : List Int), xs = [.ref l] ∧ SqL K H l (ns.map V.int) ∧ ns.length ≤ 60 ∧ ∀ p c, H p = none → c ≤ ns.length → Q (.ref p) (upd H p (SetO w p (fun j => decide (j ∈ ns)) c))
theorem cr_setL (hc : X.calm = true) : CallR X (.type "set") (rSetL X.K X.w) := by
  intro pins s σ H xs us Q I r h
  obtain ⟨l, ns, rfl, hq, hl, q⟩ := h
  rw [Vals.ref1 r]
  obtain ⟨its, rv, pl, hz⟩ := I.list hq
  refine set_of_list ns (I.ok.hd hc) pl.isList (by simpa using ints_of_vals rv) (by unfold scanBound; omega) fun h' tk c R hcn k => ?_
  exact ⟨.ref _, upd H s.heap.objs.size (SetO X.w s.heap.objs.size (fun j => decide (j ∈ ns)) c), I.laid (t' := tk) k (Nat.le_refl _) (setO_new R), rfl, q _ _ (I.hok.fresh (Nat.le_refl _)) hcn⟩
end
end L2.RC

namespace L2.RC
open PySem PySem.Spec PyProof.Rows
/-! ### rising ints, each once -/
def insU (x : Int) : List Int → List Int
  | [] => [x]
  | y :: ys => if x < y then x :: y :: ys else if x = y then y :: ys else y :: insU x ys
def srtU : List Int → List Int
  | [] => []
  | x :: xs => insU x (srtU xs)
theorem insU_mem (x k : Int) : ∀ l : List Int, k ∈ insU x l ↔ k = x ∨ k ∈ l
  | [] => by simp [insU]
  | y :: ys => by
    unfold insU
    split
    · simp
    · split
      · rename_i h; subst h; simp
      · have ih := insU_mem x k ys
        simp only [List.mem_cons, ih]
        constructor
        · rintro (h | h | h)
          · exact .inr (.inl h)
          · exact .inl h
          · exact .inr (.inr h)
        · rintro (h | h | h)
          · exact .inr (.inl h)
          · exact .inl h
          · exact .inr (.inr h)
theorem insU_sorted (x : Int) : ∀ l : List Int, l.Pairwise (· < ·) → (insU x l).Pairwise (· < ·)
  | [], _ => by simp [insU]
  | y :: ys, h => by
    rw [List.pairwise_cons] at h
    unfold insU
    split
    · rename_i hx
      rw [List.pairwise_cons]
      refine ⟨fun a ha => ?_, List.pairwise_cons.mpr h⟩
      rcases List.mem_cons.mp ha with rfl | ha
      · exact hx
      · exact Int.lt_trans hx (h.1 a ha)
    · split
      · exact List.pairwise_cons.mpr h
      · rename_i h1 h2
        rw [List.pairwise_cons]
        refine ⟨fun a ha => ?_, insU_sorted x ys h.2⟩
        rcases (insU_mem x a ys).mp ha with rfl | ha
        · omega
        · exact h.1 a ha
theorem srtU_mem (k : Int) : ∀ l : List Int, k ∈ srtU l ↔ k ∈ l
  | [] => Iff.rfl
  | x :: xs => by
    unfold srtU
    rw [insU_mem, srtU_mem k xs, List.mem_cons]
theorem srtU_sorted : ∀ l : List Int, (srtU l).Pairwise (· < ·)
  | [] => .nil
  | x :: xs => insU_sorted x _ (srtU_sorted xs)
theorem sorted_unique : ∀ {l m : List Int}, l.Pairwise (· < ·) → m.Pairwise (· < ·) → (∀ k, k ∈ l ↔ k ∈ m) → l = m
  | [], [], _, _, _ => rfl
  | [], y :: ys, _, _, h => absurd ((h y).mpr List.mem_cons_self) (by simp)
  | x :: xs, [], _, _, h => absurd ((h x).mp List.mem_cons_self) (by simp)
  | x :: xs, y :: ys, h1, h2, h => by
    rw [List.pairwise_cons] at h1 h2
    have e : x = y := by
      rcases List.mem_cons.mp ((h x).mp List.mem_cons_self) with e | e
      · exact e
      · rcases List.mem_cons.mp ((h y).mpr List.mem_cons_self) with e' | e'
        · exact e'.symm
        · have a := h2.1 x e
          have b := h1.1 y e'
          omega
    subst e
    congr 1
    refine sorted_unique h1.2 h2.2 fun k => ?_
    constructor
    · intro hk
      have := h1.1 k hk
      rcases List.mem_cons.mp ((h k).mp (List.mem_cons_of_mem _ hk)) with e | e
      · omega
      · exact e
    · intro hk
      have := h2.1 k hk
      rcases List.mem_cons.mp ((h k).mpr (List.mem_cons_of_mem _ hk)) with e | e
      · omega
      · exact e
theorem insU_len (x : Int) : ∀ l : List Int, (insU x l).length ≤ l.length + 1
  | [] => Nat.le_refl _
  | y :: ys => by
    unfold insU
    split
    · exact Nat.le_refl _
    · split
      · exact Nat.le_succ _
      · have := insU_len x ys
        rw [List.length_cons, List.length_cons]
        omega
theorem srtU_len : ∀ l : List Int, (srtU l).length ≤ l.length
  | [] => Nat.le_refl _
  | x :: xs => by
    have h1 := insU_len x (srtU xs)
    have h2 := srtU_len xs
    unfold srtU
    rw [List.length_cons]
    omega
section
variable {X : Cx} {EX : EXX} {e a b c : Expr} {pos p p2 q : Pos} {f fa fb : EFn} {x : Str}
def oSrt (fa : EFn) : OFn := fun ρ => match fa ρ with
  | some (.list ds) => (match intsOf ds with | some ns => if ns.length ≤ 60 then some ((srtU ns).map .int) else none | none => none)
  | _ => none
theorem de_sortedSet (hm : X.mg "sorted" = none) (hm2 : X.mg "set" = none) (ha : DEw X a fa) (hc : X.calm = true := by rfl) (hg : Gl X "sorted" := by rfl) (hg2 : Gl X "set" := by rfl) (hs : starEach [a] X.env = [(false, eval a X.env)] := by rfl)
    (hs2 : starEach [.Call (.Name "set" p2) [a] [] q] X.env = [(false, eval (.Call (.Name "set" p2) [a] [] q) X.env)] := by rfl) :
    DEo X (.Call (.Name "sorted" p) [.Call (.Name "set" p2) [a] [] q] [] pos) (oSrt fa) := by
  obtain ⟨ta, pa, ha⟩ := ha.ex
  refine ⟨_, pe_callB (cr_sortedSet hc) hg hm (by decide +kernel) (pa_cons (pe_callTy (cr_setL hc) hg2 hm2 (by decide +kernel) (pa_cons pa pa_nil hs) (by decide) (by decide) hs rfl) pa_nil hs2) (by decide) (by decide) hs2 rfl, fun F0 H0 F ρ σ H Q ds S e q => ?_⟩
  unfold oSrt at e
  cases h1 : fa ρ with
  | none => rw [h1] at e; cases e
  | some x =>
    rw [h1] at e
    cases x <;> first | (cases e; done) | skip
    rename_i zs
    cases h2 : intsOf zs with
    | none => simp only [h2] at e; cases e
    | some ns =>
      simp only [h2] at e
      rw [Option.ite_none_right_eq_some] at e
      obtain ⟨hl, e⟩ := e
      cases e
      have hz := intsOf_eq h2
      subst hz
      refine ha F0 H0 F ρ σ H _ _ S h1 fun v F1 H1 g1 r1 => ?_
      obtain ⟨l, vs, rfl, q1, q2⟩ := r1.list g1.fh
      rw [q2.ints] at q1
      refine ⟨l, ns, rfl, q1, hl, fun t c ht hcn => ?_⟩
      refine ⟨t, _, c, rfl, upd_same, by omega, fun ms p' hpw hmem hlen hp' => ?_⟩
      have em : ms = srtU ns := sorted_unique hpw (srtU_sorted ns) fun k => by rw [hmem, srtU_mem, decide_eq_true_iff]
      subst em
      have g2 := g1.trans (Grow.own (o := SetO X.w t (fun j => decide (j ∈ ns)) c) g1.fh ht)
      have hpn : H1 p' = none := (same_upd ht).free hp'
      exact q p' _ F1 _ (g2.trans (Grow.own g2.fh hp')) (g1.hh.free hpn) (none_of g1.fh hpn) upd_same (rpAll_ints _)
end
end L2.RC

namespace L2.RC
open PySem PySem.Spec PyProof.Rows
/-! ### defs that change the list they are handed first -/
/-- a heap without one place -/
def del (H : Hp) (a : Addr) : Hp := fun b => if b = a then none else H b
theorem del_ne {H : Hp} {a b : Addr} (h : b ≠ a) : del H a b = H b := if_neg h
theorem del_self {H : Hp} {a : Addr} : del H a a = none := if_pos rfl
theorem del_same (H : Hp) (a : Addr) : Same (del H a) H := fun b o e => by
  unfold del at e
  split at e
  · cases e
  · exact e
theorem same_del {F H : Hp} {a : Addr} (s : Same F H) (h : F a = none) : Same F (del H a) := fun b o e => by
  rw [del_ne (fun z => by rw [z, h] at e; cases e)]
  exact s b o e
section
variable {X : Cx} {EX : EXX} {E : XK} {e a : Expr} {pos p p2 : Pos} {f fa : EFn} {CL CN : Addr} {k : Nat} {x : Str}
variable {g : Addr} {fd : FuncData} {ps : List Str} {n m : Nat} {bd : Nat → SFn} {fg fr : LFn} {es : List Expr} {y : Str} {CX : CXT}
/-- x.insert(k, e), x the list handed over -/
def sInsP (i : Nat) (fk fa : EFn) : SFn := fun ρ => match ρ[i]? with
  | some (.pw a ds) => (match fk ρ with | some (.int k) => (match fa ρ with | some d => if ds.length < 1000000 ∧ 0 ≤ k ∧ k < 1000000 then .nx (ρ.set i (.pw a (ds.take k.toNat ++ [d] ++ ds.drop k.toNat))) else .no | none => .no) | _ => .no)
  | _ => .no
theorem ds_insertP (i : Nat) {ek : Expr} {fk : EFn} {apos cpos : Pos} (hk : DEs X ek fk) (h : DEs X e f) (hN : X.N[i]? = some x := by rfl) (hv : Vis X.env.scope x := by first | exact Or.inl rfl | exact Or.inr (Or.inl rfl) | exact Or.inr (Or.inr rfl)) (hd : (x == ("__debug__" : Str)) = false := by decide)
    (hcd : (x == ("__classdict__" : Str)) = false := by decide)
    (hbase : attributeBase (.Name x p) "insert" X.env (eval (.Name x p) X.env) = eval (.Name x p) X.env := by rfl)
    (hfew : ((backTo cpos (starEach [ek, e] X.env)).all (fun x => !x.1) && (backToKw cpos (keywordEach [] X.env)).all (fun x => x.1.isSome)
      && decide ([ek, e].length + ([] : List Keyword).length + (if ([] : List Keyword).isEmpty then 0 else 1) < 30)) = true := by rfl)
    (hline : (apos.endLine == cpos.line) = true := by rfl) (hs : starEach [ek, e] X.env = (false, eval ek X.env) :: starEach [e] X.env := by rfl) (hs2 : starEach [e] X.env = [(false, eval e X.env)] := by rfl) (hpl : (backTo cpos (starEach [e] X.env)).any (·.1) = false := by rfl)
    (hsw : swapsWith (.Call (.Attribute (.Name x p) "insert" apos) [ek, e] [] cpos) none pos.line X.env = pure false := by rfl) :
    DS X EX (.Expr (.Call (.Attribute (.Name x p) "insert" apos) [ek, e] [] cpos) pos) (sInsP i fk f) := by
  obtain ⟨te, pe, h⟩ := h.ex
  obtain ⟨tk, pk, hk⟩ := hk.ex
  refine ⟨_, ps_expr (pe_bm PySem.F.plainAttrs_list PySem.F.slot_list_insert PySem.F.type_list_insert mt_insert (pe_var hN hv hd hcd) (pa_cons pk (pa_cons pe pa_nil hs2) hs) hbase hfew hline hs hpl) hsw, fun F0 H0 F ρ σ H D S q => ?_⟩
  unfold sInsP at q
  cases e1 : ρ[i]? with
  | none => rw [e1] at q; exact q.elim
  | some s =>
    rw [e1] at q
    cases s <;> first | (exact q.elim) | skip
    rename_i b ds
    cases e2 : fk ρ with
    | none => simp only [e2] at q; exact q.elim
    | some dk =>
      simp only [e2] at q
      cases dk <;> first | (exact q.elim) | skip
      rename_i k
      cases e3 : f ρ with
      | none => simp only [e3] at q; exact q.elim
      | some d =>
        simp only [e3] at q
        by_cases hc : ds.length < 1000000 ∧ 0 ≤ k ∧ k < 1000000
        · rw [if_pos hc] at q
          obtain ⟨vs, hsg, ha, fa', za, ra⟩ := S.sl i _ e1
          refine ⟨_, hsg, .inl ⟨rfl, _, SqL.of ha⟩, hk F0 H0 F ρ σ H _ _ S e2 fun v F1 H1 g r => h F0 H0 F1 ρ σ H1 _ d (S.grow g) e3 fun v2 F2 H2 g2 r2 => ?_⟩
          cases r
          have g12 := g.trans g2
          refine ⟨b, vs, k, v2, rfl, rfl, g12.hh _ _ ha, by rw [ra.length]; exact small1l (Nat.le_of_lt hc.1), hc.2.1, by omega, ?_⟩
          have ra2 := RpAll.mono g12.ff _ _ ra
          exact q F2 σ _ ((S.grow g12).writeP e1 (((ra2.take k.toNat).append (.cons r2 .nil)).append (ra2.drop k.toNat)))
        · rw [if_neg hc] at q; exact q.elim
/-- x[k] = e, x the list handed over -/
def sPutP (i : Nat) (fk fa : EFn) : SFn := fun ρ => match ρ[i]? with
  | some (.pw a ds) => (match fa ρ with | some d => (match fk ρ with | some (.int k) => (match ixN ds.length k with | some j => .nx (ρ.set i (.pw a (ds.set j d))) | none => .no) | _ => .no) | none => .no)
  | _ => .no
theorem ds_putP (i : Nat) {ek : Expr} {fk : EFn} {spos : Pos} (hk : DEs X ek fk) (h : DEs X e f) (hN : X.N[i]? = some x := by rfl) (hv : Vis X.env.scope x := by first | exact Or.inl rfl | exact Or.inr (Or.inl rfl) | exact Or.inr (Or.inr rfl)) (hd : (x == ("__debug__" : Str)) = false := by decide)
    (hcd : (x == ("__classdict__" : Str)) = false := by decide)
    (ha : ∀ v, assign (.Subscript (.Name x p) ek spos) X.env v = (do
      let ov ← holding [v] (eval (.Name x p) X.env)
      let iv ← holding [v, ov] (eval ek X.env)
      standAt spos
      holding [v, ov, iv] (setItem ov iv v)
      release [v, ov, iv] []) := by intro _; rfl)
    (hs : swapsWithSole [.Subscript (.Name x p) ek spos] e pos.line X.env = pure false := by rfl) (hw : swappedStores [.Subscript (.Name x p) ek spos] e X.env = pure none := by rfl)
    (h1 : (assignEach [.Subscript (.Name x p) ek spos] X.env).map (·.2) = [assign (.Subscript (.Name x p) ek spos) X.env] := by rfl) :
    DS X EX (.Assign [.Subscript (.Name x p) ek spos] e pos) (sPutP i fk f) := by
  obtain ⟨te, pe, h⟩ := h.ex
  obtain ⟨tk, pk, hk⟩ := hk.ex
  refine ⟨_, ps_asg pe (pg_sub (pe_var hN hv hd hcd) pk set_list ha) hs hw h1, fun F0 H0 F ρ σ H D S q => ?_⟩
  unfold sPutP at q
  cases e1 : ρ[i]? with
  | none => rw [e1] at q; exact q.elim
  | some s =>
    rw [e1] at q
    cases s <;> first | (exact q.elim) | skip
    rename_i b ds
    cases e3 : f ρ with
    | none => simp only [e3] at q; exact q.elim
    | some d =>
      simp only [e3] at q
      cases e2 : fk ρ with
      | none => simp only [e2] at q; exact q.elim
      | some dk =>
        simp only [e2] at q
        cases dk <;> first | (exact q.elim) | skip
        rename_i k
        cases e4 : ixN ds.length k with
        | none => simp only [e4] at q; exact q.elim
        | some j =>
          simp only [e4] at q
          obtain ⟨vs, hsg, ha, fa', za, ra⟩ := S.sl i _ e1
          refine h F0 H0 F ρ σ H _ d S e3 fun v F1 H1 g r => ⟨_, hsg, hk F0 H0 F1 ρ σ H1 _ _ (S.grow g) e2 fun v2 F2 H2 g2 r2 => ?_⟩
          cases r2
          have g12 := g.trans g2
          refine ⟨b, vs, k, j, rfl, rfl, g12.hh _ _ ha, by rw [ra.length]; exact e4, ?_⟩
          exact q F2 σ _ ((S.grow g12).writeP e1 ((RpAll.mono g12.ff _ _ ra).set j (Rp.mono g2.ff _ _ r)))
/-- what such a def promises -/
def spM (K : PySem.W.Frag) (n m : Nat) (b : Nat → SFn) : Sp := fun vs H Q _ => vs.length = n ∧ ∃ (F : Hp) (a : Addr) (xs : List V) (ds : List PyData) (rest : List V) (ss : List Sl) (fuel : Nat) (ρ' : DEnv) (ds' : List PyData),
  vs = .ref a :: rest ∧ Same F H ∧ H a = some (.lst xs) ∧ F a = none ∧ RpAll K F xs ds ∧ ArgsOk K F (del H a) rest ss ∧ b fuel (.pw a ds :: (ss ++ List.replicate m .un)) = .nx ρ' ∧ ρ'[0]? = some (.pw a ds') ∧
  ∀ F' H' ws, Grow F (del H a) F' H' → H' a = some (.lst ws) → F' a = none → RpAll K F' ws ds' → Q .non H'
theorem startM_ok {K : PySem.W.Frag} {F H : Hp} {N : List Str} {a : Addr} {xs : List V} {ds : List PyData} {vs : List V} {ss : List Sl} {n : Nat} (s : Same F H) (ha : H a = some (.lst xs)) (fa : F a = none) (rx : RpAll K F xs ds) (r : ArgsOk K F (del H a) vs ss) (hl : (V.ref a :: vs).length = n) (hn : n ≤ N.length) :
    StF K F (del H a) F (.pw a ds :: (ss ++ List.replicate (N.length - n) .un)) (start N (.ref a :: vs)) H := by
  have hls := r.length
  rw [List.length_cons] at hl
  have noOwn : ∀ (i : Nat) (t : Sl), (ss ++ List.replicate (N.length - n) .un)[i]? = some t → t.own = true → False := fun i t h1 o1 => by
    by_cases hi : i < ss.length
    · rw [List.getElem?_append_left hi] at h1
      obtain ⟨v, _, h2⟩ := r.get h1
      cases t with
      | ow ds => exact h2.elim
      | pw b ds => exact h2.elim
      | un => cases o1
      | fz d => cases o1
      | br ds => cases o1
    · rw [List.getElem?_append_right (by omega), List.getElem?_replicate] at h1
      split at h1
      · cases h1; cases o1
      · cases h1
  refine ⟨⟨del_same H a, .refl _, s, fun _ _ _ => rfl⟩, fun i x e => ?_, fun i j b t u h1 h2 o1 o2 _ _ => ?_, ?_⟩
  · cases i with
    | zero =>
      cases e
      refine ⟨xs, ?_, ha, fa, del_self, rx⟩
      unfold start
      rfl
    | succ i =>
      have e' : (ss ++ List.replicate (N.length - n) .un)[i]? = some x := by simpa using e
      by_cases hi : i < ss.length
      · rw [List.getElem?_append_left hi] at e'
        obtain ⟨v, h1, h2⟩ := r.get e'
        have hs : (start N (.ref a :: vs))[i + 1]? = some (some v) := by
          unfold start
          rw [List.getElem?_append_left (by rw [List.length_map, List.length_cons]; omega), List.getElem?_map, List.getElem?_cons_succ, h1]
          rfl
        rw [hs]
        cases x with
        | un => trivial
        | fz d => exact ⟨v, rfl, h2⟩
        | ow ds => exact h2.elim
        | pw b ds => exact h2.elim
        | br ds => obtain ⟨b, ws, rfl, h3, h4⟩ := h2; exact ⟨b, ws, rfl, h3, h4⟩
      · rw [List.getElem?_append_right (by omega), List.getElem?_replicate] at e'
        split at e'
        · cases e'; trivial
        · cases e'
  · cases i with
    | zero =>
      cases j with
      | zero => rfl
      | succ j => exact (noOwn j u (by simpa using h2) o2).elim
    | succ i => exact (noOwn i t (by simpa using h1) o1).elim
  · unfold start
    rw [List.length_append, List.length_map, List.length_replicate, List.length_cons, List.length_append, List.length_replicate, List.length_cons]
    omega
theorem mk_okM {P : Program} {w : World} {K : PySem.W.Frag} {mg : Str → Option Value} {base : Heap} {x qual : Str} {st : Stmt} {f : Addr} {fd : FuncData} {N ps : List Str} {k : Nat} {b : Nat → SFn} (F : Fun K x qual st f fd) (S : FnScope N ps (defScope st))
    (hb : ∀ (cdv : Value) (A : Around) (outer : List Env) (s : Shared) (H : Hp) (E : XK), Room k (A.deeper (envOfC qual (defScope st) s.heap.objs.size f cdv)) → ∀ n, DSs (cxOf CX0 P w K mg base N qual (defScope st) f cdv A outer s H E).nox (fun _ _ => False) (defBody st) (b n)) :
    FnOk P w K mg base CX0 (k + 1) f fd ps (spM K ps.length (N.length - ps.length) b) := by
  refine F.ok S (fun vs H Q E h => h.1) fun cdv A outer s H vs Q E hr h => ?_
  obtain ⟨hl, F, a, xs, ds, rest, ss, fuel, ρ', ds', rfl, sF, ha, fa, rx, ra, hn, h0, q⟩ := h
  obtain ⟨t, pt, ht⟩ := (hb cdv A outer s H E hr fuel).ex
  refine ⟨t, pt, ht F (del H a) F _ _ H _ (startM_ok sF ha fa rx ra hl (scope_le S)) ?_⟩
  rw [hn]
  intro F' σ' H' S'
  obtain ⟨ws, _, h1, h2, _, h3⟩ := S'.sl 0 _ h0
  exact q F' H' ws S'.gr h1 h2 h3
/-- the arguments behind the first; none of them is the list of the slot i -/
def EgmOk (K : PySem.W.Frag) (ta : TA) (n i : Nat) (f : LFn) : Prop := ∀ F0 H0 F ρ σ H Q ss, StF K F0 H0 F ρ σ H → f ρ = some ss → (∀ vs F' H', Grow F H F' H' → (∀ a ds, ρ[i]? = some (.ow ds) → σ[i]? = some (some (.ref a)) → ArgsOk K F' (del H' a) vs ss) → vs.length = n → Q vs H') → ta σ H Q
structure DM (X : Cx) (i : Nat) (es : List Expr) (f : LFn) : Prop where
  ex : ∃ ta, PA X es ta ∧ EgmOk X.K ta es.length i f
theorem dm_nil (i : Nat) : DM X i [] gNil := ⟨_, pa_nil, fun F0 H0 F ρ σ H Q ss S e q => by cases e; exact q [] F H (.refl S.gr.fh) (fun _ _ _ _ => .nil) rfl⟩
theorem StF.ownNot {K : PySem.W.Frag} {F0 H0 F H : Hp} {ρ : DEnv} {σ : St} {i : Nat} {ds : List PyData} {a : Addr} (S : StF K F0 H0 F ρ σ H) (h1 : ρ[i]? = some (.ow ds)) (h2 : σ[i]? = some (some (.ref a))) : ∃ vs, H a = some (.lst vs) ∧ F a = none ∧ H0 a = none ∧ RpAll K F vs ds := by
  obtain ⟨b, vs, e, h3, h4, h5, h6⟩ := S.sl i _ h1
  rw [h2] at e
  cases e
  exact ⟨vs, h3, h4, h5, h6⟩
theorem args_del {K : PySem.W.Frag} {F H F' H' : Hp} {a : Addr} {o : HO} (ha : H a = some o) (g : Grow F H F' H') : ∀ {vs : List V} {ss : List Sl}, ArgsOk K F (del H a) vs ss → ArgsOk K F' (del H' a) vs ss
  | _, _, .nil => .nil
  | _, _, .cons (s := s) r t => by
    refine .cons ?_ (args_del ha g t)
    cases s with
    | fz d => exact Rp.mono g.ff _ _ r
    | br ds =>
      obtain ⟨b, us, e, h1, h2⟩ := r
      refine ⟨b, us, e, Same.seq (fun c u z => ?_) h1, RpAll.mono g.ff _ _ h2⟩
      unfold del at z ⊢
      split at z
      · cases z
      · rename_i hc; rw [if_neg hc]; exact g.hh c u z
    | un => exact r
    | ow ds => exact r
    | pw b ds => exact r
theorem dm_s (i : Nat) (ha : DEs X a fa) (hr : DM X i es fr) (hs : starEach (a :: es) X.env = (false, eval a X.env) :: starEach es X.env := by rfl) : DM X i (a :: es) (gS fa fr) := by
  obtain ⟨ta, pa, ha⟩ := ha.ex
  obtain ⟨tr, pr, hr⟩ := hr.ex
  refine ⟨_, pa_cons pa pr hs, fun F0 H0 F ρ σ H Q ss S e q => ?_⟩
  obtain ⟨d, e1, e2⟩ := Option.bind_eq_some_iff.mp e
  obtain ⟨ss', e3, e4⟩ := Option.map_eq_some_iff.mp e2
  subst e4
  refine ha F0 H0 F ρ σ H _ d S e1 fun v F1 H1 g r => ?_
  refine hr F0 H0 F1 ρ σ H1 _ ss' (S.grow g) e3 fun vs F2 H2 g2 r2 hl => ?_
  exact q (v :: vs) F2 H2 (g.trans g2) (fun b ds h1 h2 => .cons (Rp.mono g2.ff _ _ r) (r2 b ds h1 h2)) (congrArg (· + 1) hl)
theorem dm_w (i j : Nat) (hij : j ≠ i) {z : Str} (hr : DM X i es fr) (hN : X.N[j]? = some z := by rfl) (hv : Vis X.env.scope z := by first | exact Or.inl rfl | exact Or.inr (Or.inl rfl) | exact Or.inr (Or.inr rfl)) (hd : (z == ("__debug__" : Str)) = false := by decide)
    (hcd : (z == ("__classdict__" : Str)) = false := by decide) (hs : starEach (.Name z p2 :: es) X.env = (false, eval (.Name z p2) X.env) :: starEach es X.env := by rfl) : DM X i (.Name z p2 :: es) (gW (eSeq j) fr) := by
  obtain ⟨tr, pr, hr⟩ := hr.ex
  refine ⟨_, pa_cons (pe_var hN hv hd hcd) pr hs, fun F0 H0 F ρ σ H Q ss S e q => ?_⟩
  unfold gW at e
  cases h1 : eSeq j ρ with
  | none => rw [h1] at e; cases e
  | some x =>
    rw [h1] at e
    cases x <;> first | (cases e; done) | skip
    rename_i ds
    obtain ⟨ss', e3, e4⟩ := Option.map_eq_some_iff.mp (show (fr ρ).map (Sl.br ds :: ·) = some ss from e)
    subst e4
    obtain ⟨b, us, hb, hbs, hba⟩ : ∃ b us, σ[j]? = some (some (.ref b)) ∧ (∀ a ds', ρ[i]? = some (.ow ds') → σ[i]? = some (some (.ref a)) → SqL X.K (del H a) b us) ∧ RpAll X.K F us ds := by
      unfold eSeq at h1
      cases hsl : ρ[j]? with
      | none => rw [hsl] at h1; cases h1
      | some s =>
        rw [hsl] at h1
        have sl := S.sl j _ hsl
        cases s with
        | un => cases h1
        | fz d =>
          cases h1
          obtain ⟨v, e1, r⟩ := sl
          cases r with
          | lst f1 a1 =>
            refine ⟨_, _, e1, fun a ds' g1 g2 => ?_, a1⟩
            obtain ⟨_, _, n1, _⟩ := S.ownNot g1 g2
            exact SqL.of (by rw [del_ne (fun z => by rw [z, n1] at f1; cases f1)]; exact S.gr.fh _ _ f1)
        | ow ds2 =>
          cases h1
          obtain ⟨b, vs, e1, g3, _, _, r⟩ := sl
          refine ⟨b, vs, e1, fun a ds' g1 g2 => ?_, r⟩
          refine SqL.of ?_
          rw [del_ne]
          · exact g3
          · rintro rfl
            exact hij (S.sep j i b _ _ hsl g1 rfl rfl e1 g2)
        | br ds2 =>
          cases h1
          obtain ⟨b, vs, e1, g3, r⟩ := sl
          refine ⟨b, vs, e1, fun a ds' g1 g2 => ?_, r⟩
          obtain ⟨_, _, _, n2, _⟩ := S.ownNot g1 g2
          exact Same.seq (same_del S.gr.hh n2) g3
        | pw c ds2 =>
          cases h1
          obtain ⟨vs, e1, g3, _, _, r⟩ := sl
          refine ⟨c, vs, e1, fun a ds' g1 g2 => ?_, r⟩
          refine SqL.of ?_
          rw [del_ne]
          · exact g3
          · rintro rfl
            exact hij (S.sep j i c _ _ hsl g1 rfl rfl e1 g2)
    refine ⟨_, hb, ?_⟩
    refine hr F0 H0 F ρ σ H _ ss' S e3 fun vs F2 H2 g2 r2 hl => ?_
    refine q (.ref b :: vs) F2 H2 g2 (fun a ds' h1 h2 => ?_) (congrArg (· + 1) hl)
    obtain ⟨xs, k1, _⟩ := S.ownNot h1 h2
    refine .cons ?_ (r2 a ds' h1 h2)
    have one : ArgsOk X.K F (del H a) [.ref b] [.br ds] := .cons ⟨b, us, rfl, hbs a ds' h1 h2, hba⟩ .nil
    cases args_del k1 g2 one with
    | cons h _ => exact h
/-- the list comes back, changed -/
theorem StF.mu {K : PySem.W.Frag} {F0 H0 F H F' H' : Hp} {ρ : DEnv} {σ : St} {i : Nat} {a : Addr} {ds ds' : List PyData} {ws : List V} (S : StF K F0 H0 F ρ σ H) (h1 : ρ[i]? = some (.ow ds)) (h2 : σ[i]? = some (some (.ref a))) (g : Grow F (del H a) F' H') (hw : H' a = some (.lst ws)) (fa : F' a = none) (r : RpAll K F' ws ds') :
    StF K F0 H0 F' (ρ.set i (.ow ds')) σ H' := by
  obtain ⟨vs, k1, k2, k3, k4⟩ := S.ownNot h1 h2
  have keep : ∀ b o, b ≠ a → H b = some o → H' b = some o := fun b o hb e => g.hh b o (by rw [del_ne hb]; exact e)
  have ne0 : ∀ b o, H0 b = some o → b ≠ a := fun b o e z => by rw [z, k3] at e; cases e
  have agF : ∀ b o, b ≠ a → H b = some o → F' b = F b := fun b o hb e => g.ag b o (by rw [del_ne hb]; exact e)
  refine ⟨⟨fun b o e => keep b o (ne0 b o e) (S.gr.hh b o e), S.gr.ff.trans g.ff, g.fh, fun b o e => (agF b o (ne0 b o e) (S.gr.hh b o e)).trans (S.gr.ag b o e)⟩, fun j s e => ?_, sep_re S.sep h1 rfl, by rw [List.length_set, S.len]⟩
  rcases getD_set e with ⟨rfl, rfl⟩ | ⟨hj, e⟩
  · exact ⟨a, ws, h2, hw, fa, k3, r⟩
  · have q := S.sl j s e
    cases s with
    | un => trivial
    | fz d => obtain ⟨v, e1, r1⟩ := q; exact ⟨v, e1, Rp.mono g.ff _ _ r1⟩
    | br es => obtain ⟨b, us, e1, hb, r1⟩ := q; exact ⟨b, us, e1, hb, RpAll.mono g.ff _ _ r1⟩
    | ow es =>
      obtain ⟨b, us, e1, hb, fb, zb, rb⟩ := q
      have hne : b ≠ a := by
        rintro rfl
        exact hj (S.sep j i b _ _ e h1 rfl rfl e1 h2)
      exact ⟨b, us, e1, keep b _ hne hb, (agF b _ hne hb).trans fb, zb, RpAll.mono g.ff _ _ rb⟩
    | pw b es =>
      obtain ⟨us, e1, hb, fb, zb, rb⟩ := q
      have hne : b ≠ a := by
        rintro rfl
        exact hj (S.sep j i b _ _ e h1 rfl rfl e1 h2)
      exact ⟨us, e1, keep b _ hne hb, (agF b _ hne hb).trans fb, zb, RpAll.mono g.ff _ _ rb⟩
/-- f(x, ..), f a def that changes x -/
def MuTo (b : SFn) (ds : List PyData) (ss : List Sl) (m : Nat) (ds' : List PyData) : Prop := ∀ a, ∃ ρ', b (.pw a ds :: (ss ++ List.replicate m .un)) = .nx ρ' ∧ ρ'[0]? = some (.pw a ds')
open Classical in
noncomputable def muRes (b : SFn) (ds : List PyData) (ss : List Sl) (m : Nat) : Option (List PyData) := if h : ∃ ds', MuTo b ds ss m ds' then some (Classical.choose h) else none
theorem muRes_spec {b : SFn} {ds ds' : List PyData} {ss : List Sl} {m : Nat} (e : muRes b ds ss m = some ds') : MuTo b ds ss m ds' := by
  unfold muRes at e
  split at e
  · rename_i h
    cases e
    exact Classical.choose_spec h
  · cases e
theorem muRes_eq {b : SFn} {ds ds' : List PyData} {ss : List Sl} {m : Nat} (h3 : MuTo b ds ss m ds') : muRes b ds ss m = some ds' := by
  have h : ∃ ds', MuTo b ds ss m ds' := ⟨ds', h3⟩
  unfold muRes
  rw [dif_pos h]
  obtain ⟨ρ1, a1, a2⟩ := Classical.choose_spec h 0
  obtain ⟨ρ2, b1, b2⟩ := h3 0
  rw [a1] at b1
  cases b1
  rw [a2] at b2
  cases b2
  rfl
noncomputable def sMuCall (i : Nat) (b : SFn) (m : Nat) (fg : LFn) : SFn := fun ρ => match ρ[i]?, fg ρ with
  | some (.ow ds), some ss => (match muRes b ds ss m with | some ds' => .nx (ρ.set i (.ow ds')) | none => .no)
  | _, _ => .no
theorem ds_mucall (i : Nat) (fuel : Nat) (G : FnOk X.prog X.w X.K X.mg X.base CX0 k g fd ps (spM X.K n m bd)) (hr : Room k X.A) (hm : X.mg x = some (.ref g)) (hk : PySem.W.keepIn X.K (.ref g) = true) (hb : Binds X.K fd ps [])
    (ha : DM X i es fg) (hN : X.N[i]? = some y := by rfl) (hv : Vis X.env.scope y := by first | exact Or.inl rfl | exact Or.inr (Or.inl rfl) | exact Or.inr (Or.inr rfl)) (hd : (y == ("__debug__" : Str)) = false := by decide)
    (hcd : (y == ("__classdict__" : Str)) = false := by decide) (hn : (Expr.Name y p2 :: es).length = n := by rfl) (hg : Gl X x := by rfl) (hdb : (x == ("__debug__" : Str)) = false := by decide)
    (he : starEach (.Name y p2 :: es) X.env = (false, eval (.Name y p2) X.env) :: starEach es X.env := by rfl) (hpl : (backTo pos (starEach es X.env)).any (·.1) = false := by rfl) {spos : Pos}
    (hsw : swapsWith (.Call (.Name x p) (.Name y p2 :: es) [] pos) none spos.line X.env = pure false := by rfl) :
    DS X EX (.Expr (.Call (.Name x p) (.Name y p2 :: es) [] pos) spos) (sMuCall i (bd fuel) m fg) := by
  obtain ⟨ta, pa, ha⟩ := ha.ex
  refine ⟨_, ps_expr (pe_call G hr hg hm hk hb .nil pass0 (pa_cons (pe_var hN hv hd hcd) pa he) hdb he hpl) hsw, fun F0 H0 F ρ σ H D S q => ?_⟩
  unfold sMuCall at q
  cases e1 : ρ[i]? with
  | none => rw [e1] at q; exact q.elim
  | some s =>
    cases s with
    | ow ds =>
      cases e2 : fg ρ with
      | none => rw [e1, e2] at q; exact q.elim
      | some ss =>
        rw [e1, e2] at q
        cases hmu : muRes (bd fuel) ds ss m with
        | none => simp only [hmu] at q; exact q.elim
        | some ds' =>
          simp only [hmu] at q
          have sp := muRes_spec hmu
          obtain ⟨a, vs, hsg, k1, k2, k3, k4⟩ := S.sl i _ e1
          obtain ⟨ρ', b1, b2⟩ := sp a
          refine ⟨_, hsg, ha F0 H0 F ρ σ H _ ss S e2 fun us F1 H1 g1 r1 hl => ?_⟩
          show spM X.K n m bd ((.ref a :: us) ++ []) H1 _ E0
          rw [List.append_nil]
          refine ⟨by rw [List.length_cons, hl]; exact hn, F1, a, vs, ds, us, ss, fuel, ρ', ds', rfl, g1.fh, g1.hh _ _ k1, (g1.ag _ _ k1).trans k2, RpAll.mono g1.ff _ _ k4, r1 a ds e1 hsg, b1, b2, fun F' H' ws g2 hw fa rw' => ?_⟩
          exact q F' σ H' ((S.grow g1).mu e1 hsg g2 hw fa rw')
    | _ => rw [e1] at q; exact q.elim
end
end L2.RC

namespace L2.RC
open PySem PySem.Spec PyProof.Rows
/-! ### the functions of the slots, at given slots -/
section
variable {ρ : DEnv} {f g fa fb : EFn} {s t : SFn} {ft fu : TFn} {fo fi : OFn} {fg : LFn} {i : Nat} {d : PyData} {b : SFn} {m : Nat}
theorem a_nil : sNil ρ = .nx ρ := rfl
theorem a_seq : sSeq s t ρ = (match s ρ with | .nx ρ' => t ρ' | o => o) := rfl
theorem a_if : sIf ft s t ρ = (match ft ρ with | some true => s ρ | some false => t ρ | none => .no) := rfl
theorem a_ret : sRet f ρ = (match f ρ with | some d => .rt d | none => .no) := rfl
theorem a_set : sSet i f ρ = (match f ρ with | some d => .nx (ρ.set i (.fz d)) | none => .no) := rfl
theorem a_setO : sSetO i fo ρ = (match fo ρ with | some ds => .nx (ρ.set i (.ow ds)) | none => .no) := rfl
theorem a_sfrz : sFrz i s ρ = s (frz i ρ) := rfl
theorem a_frz : frz i ρ = (match ρ[i]? with | some (.ow ds) => ρ.set i (.fz (.list ds)) | _ => ρ) := rfl
theorem a_mut {h : List PyData → PyData → Option (List PyData)} : sMut i f h ρ = (match ρ[i]? with
  | some (.ow ds) => (match f ρ with | some d => (match h ds d with | some es => .nx (ρ.set i (.ow es)) | none => .no) | none => .no)
  | _ => .no) := rfl
theorem a_put : sPut i f g ρ = (match ρ[i]? with
  | some (.ow ds) => (match g ρ with | some d => (match f ρ with | some (.int k) => (match ixN ds.length k with | some j => .nx (ρ.set i (.ow (ds.set j d))) | none => .no) | _ => .no) | none => .no)
  | _ => .no) := rfl
theorem a_ins : sIns i f g ρ = (match ρ[i]? with
  | some (.ow ds) => (match f ρ with | some (.int k) => (match g ρ with | some d => if ds.length < 1000000 ∧ 0 ≤ k ∧ k < 1000000 then .nx (ρ.set i (.ow (ds.take k.toNat ++ [d] ++ ds.drop k.toNat))) else .no | none => .no) | _ => .no)
  | _ => .no) := rfl
theorem a_for : sFor i fi s ρ = (match fi ρ with | some ds => forL i s ds ρ | none => .no) := rfl
theorem a_bin {h : PyData → PyData → Option PyData} : eBin h fa fb ρ = (fa ρ).bind fun x => (fb ρ).bind fun y => h x y := rfl
theorem a_seqv : eSeq i ρ = (match ρ[i]? with | some (.fz d) => some d | some (.ow ds) => some (.list ds) | some (.br ds) => some (.list ds) | some (.pw _ ds) => some (.list ds) | _ => none) := rfl
theorem a_var : eVar i ρ = (match ρ[i]? with | some (.fz d) => some d | _ => none) := rfl
theorem a_c : eC d ρ = some d := rfl
theorem a_un {h : PyData → Option PyData} : eUn h f ρ = (f ρ).bind h := rfl
theorem a_tup {fs : AFn} : eTup fs ρ = (fs ρ).map .tuple := rfl
theorem a_evs0 : evs [] ρ = some [] := rfl
theorem a_evs1 {fs : List EFn} : evs (f :: fs) ρ = (f ρ).bind fun d => (evs fs ρ).map (d :: ·) := rfl
theorem a_call : eCall b m fg ρ = (fg ρ).bind fun ss => match b (ss ++ List.replicate m .un) with
  | .rt d => some d
  | .nx _ => some .none
  | _ => none := rfl
theorem a_gs : gS f fg ρ = (f ρ).bind fun d => (fg ρ).map (Sl.fz d :: ·) := rfl
theorem a_gw : gW f fg ρ = (match f ρ with | some (.list ds) => (fg ρ).map (Sl.br ds :: ·) | _ => none) := rfl
theorem a_gnil : gNil ρ = some [] := rfl
theorem a_tof : tOf f ρ = (match f ρ with | some (.bool b) => some b | _ => none) := rfl
theorem a_tand : tAnd2 ft fu ρ = (match ft ρ with | some true => fu ρ | some false => some false | none => none) := rfl
theorem a_tor : tOr2 ft fu ρ = (match ft ρ with | some true => some true | some false => fu ρ | none => none) := rfl
theorem a_tnot : tNot2 ft ρ = (ft ρ).map (!·) := rfl
theorem a_and : eAnd fa fb ρ = (match fa ρ with | some (.bool true) => fb ρ | some (.bool false) => some (.bool false) | _ => none) := rfl
theorem a_or : eOr fa fb ρ = (match fa ρ with | some (.bool true) => some (.bool true) | some (.bool false) => fb ρ | _ => none) := rfl
theorem a_not : eNot fa ρ = (match fa ρ with | some (.bool k) => some (.bool !k) | _ => none) := rfl
theorem a_eif : eIf ft fa fb ρ = (match ft ρ with | some true => fa ρ | some false => fb ρ | none => none) := rfl
theorem a_neg : eNeg fa ρ = (match fa ρ with | some (.int i) => some (.int (-i)) | _ => none) := rfl
theorem a_lstD : lstD fo ρ = (fo ρ).map PyData.list := rfl
theorem a_rg1 : iRg1 fa ρ = (match fa ρ with | some (.int j) => if rngOk j = true then some (rngD 0 j.toNat) else none | _ => none) := rfl
theorem a_rg2 : iRg2 fa fb ρ = (match fa ρ with | some (.int i) => (match fb ρ with | some (.int j) => if (rngOk i && rngOk j) = true then some (rngD i (j - i).toNat) else none | _ => none) | _ => none) := rfl
theorem a_ilst : iLst fa ρ = (match fa ρ with | some (.list ds) => some ds | _ => none) := rfl
theorem a_itpl : iTpl fa ρ = (match fa ρ with | some (.tuple ds) => some ds | _ => none) := rfl
theorem a_olst : oLst fa ρ = (match fa ρ with | some (.list ds) => some ds | some (.tuple ds) => some ds | _ => none) := rfl
theorem a_comp : oComp i fi ft f ρ = (fi ρ).bind fun ds => if ds.length ≤ 1000000 then compL i ft f ρ ds else none := rfl
theorem a_cat : oCat fa fb ρ = (match fa ρ with
  | some (.list xs) => (match fb ρ with | some (.list ys) => if xs.length + ys.length ≤ 1000000 then some (xs ++ ys) else none | _ => none)
  | _ => none) := rfl
theorem a_for0 : forL i s [] ρ = .nx ρ := rfl
theorem a_for1 {ds : List PyData} : forL i s (d :: ds) ρ = (match s (ρ.set i (.fz d)) with
    | .nx ρ' => forL i s ds ρ'
    | .ct ρ' => forL i s ds ρ'
    | .bk ρ' => .nx ρ'
    | o => o) := rfl
theorem a_comp0 : compL i ft f ρ [] = some [] := rfl
theorem a_comp1 {ds : List PyData} : compL i ft f ρ (d :: ds) = (match ft (ρ.set i (.fz d)) with
    | some true => (f (ρ.set i (.fz d))).bind fun y => (compL i ft f ρ ds).map (y :: ·)
    | some false => compL i ft f ρ ds
    | none => none) := rfl
theorem a_ttrue : tTrue ρ = some true := rfl
end
section
variable {ρ : DEnv} {f g fa fb : EFn} {s t : SFn} {ft fu : TFn} {fo fi : OFn} {fg : LFn} {i j : Nat} {d : PyData} {b : SFn} {m : Nat} {fk : KFn} {s1 s2 : Str}
theorem a_late : sLate f ρ = (match f ρ with | some (.int j) => .rs (.late j) | _ => .no) := rfl
theorem a_nopl : sNoPlan ρ = .rs .noplan := rfl
theorem a_setX : sSetX i b m fg ρ = (match fg ρ with
  | some ss => (match b (ss ++ List.replicate m .un) with
    | .rt d => .nx (ρ.set i (.fz d))
    | .nx _ => .nx (ρ.set i (.fz .none))
    | .rs y => .rs y
    | _ => .no)
  | none => .no) := rfl
theorem a_tryN : sTryN i b m fg ρ = (match fg ρ with
  | some ss => (match b (ss ++ List.replicate m .un) with
    | .rt d => .nx (ρ.set i (.fz d))
    | .rs (.late _) => .rt .none
    | _ => .no)
  | none => .no) := rfl
theorem a_tryL : sTryL i j s1 s2 b m fg ρ = (match fg ρ, ρ[j]? with
  | some ss, some .un => (match b (ss ++ List.replicate m .un) with
    | .rt d => .nx (ρ.set i (.fz (.tuple [.str s1, d])))
    | .rs (.late r) => .nx (ρ.set i (.fz (.tuple [.str s2, .int r])))
    | _ => .no)
  | _, _ => .no) := rfl
theorem a_setT : sSetT i b m fg ρ = (match fg ρ with
  | some ss => if ss.all slFree = true then (match b (ss ++ List.replicate m .un) with
    | .rt (.list ds) => if noLs ds = true then .nx (ρ.set i (.ow ds)) else .no
    | .rt .none => .nx (ρ.set i (.fz .none))
    | _ => .no) else .no
  | none => .no) := rfl
theorem a_clr : sClr i ρ = (match ρ[i]? with | some (.ow _) => .nx (ρ.set i (.ow [])) | _ => .no) := rfl
theorem a_ibr : iBr i ρ = (match ρ[i]? with | some (.br ds) => some ds | some (.fz (.list ds)) => some ds | _ => none) := rfl
theorem a_iow : iOw i ρ = (match ρ[i]? with | some (.ow ds) => some ds | some (.br ds) => some ds | some (.fz (.list ds)) => some ds | _ => none) := rfl
theorem a_kif : kIf i ft s fk ρ d = (match ft (ρ.set i (.fz d)) with
  | some true => (match s (ρ.set i (.fz d)) with | .rt r => .rt r | _ => .no)
  | some false => fk ρ d
  | none => .no) := rfl
theorem a_kset : kSet i j f fk ρ d = (match f ρ with | some d' => fk (ρ.set j (.fz d')) d | none => .no) := rfl
theorem a_ksetO : kSetO i j fo fk ρ d = (match fo ρ with | some ds => fk (ρ.set j (.ow ds)) d | none => .no) := rfl
theorem a_skp : sKp i b m fg fk ρ = (match fg ρ with
  | some ss => if ss.all slFree = true ∧ i < ρ.length then (match b (ss ++ List.replicate m .un) with | .rt d => fk (ρ.set i .un) d | _ => .no) else .no
  | none => .no) := rfl
theorem a_kapp {d0 : PyData} {ds : List PyData} : kApp f s ρ (.tuple [d0, .list ds]) = (if ds.length < 1000000 then (match f ρ with | some _ => s ρ | none => .no) else .no) := rfl
theorem a_kclr {d0 : PyData} {ds : List PyData} : kClr s ρ (.tuple [d0, .list ds]) = s ρ := rfl
end
/-! ### operators at given data -/
theorem dEq_int (i j : Int) : dEq (.int i) (.int j) = some (.bool (i == j)) := rfl
theorem dNe_int (i j : Int) : dNe (.int i) (.int j) = some (.bool (!(i == j))) := rfl
theorem dEq_bool (i j : Bool) : dEq (.bool i) (.bool j) = some (.bool (i == j)) := rfl
theorem dNe_bool (i j : Bool) : dNe (.bool i) (.bool j) = some (.bool (!(i == j))) := rfl
theorem dAdd_int (i j : Int) : dAdd (.int i) (.int j) = some (.int (i + j)) := rfl
theorem dSub_int (i j : Int) : dSub (.int i) (.int j) = some (.int (i - j)) := rfl
theorem dLt_int (i j : Int) : dLt (.int i) (.int j) = some (.bool (decide (i < j))) := rfl
theorem dLe_int (i j : Int) : dLe (.int i) (.int j) = some (.bool (decide (i ≤ j))) := rfl
theorem dGt_int (i j : Int) : dGt (.int i) (.int j) = some (.bool (decide (j < i))) := rfl
theorem dGe_int (i j : Int) : dGe (.int i) (.int j) = some (.bool (decide (j ≤ i))) := rfl
theorem dIs_non (x : PyData) : dIs x .none = some (.bool (isN x)) := rfl
theorem dIsNot_non (x : PyData) : dIsNot x .none = some (.bool (!isN x)) := rfl
theorem dLen_list (ds : List PyData) : dLen (.list ds) = some (.int ds.length) := rfl
theorem dLen_tuple (ds : List PyData) : dLen (.tuple ds) = some (.int ds.length) := rfl
theorem dLen_t2 (a b : PyData) : dLen (.tuple [a, b]) = some (.int 2) := rfl
theorem dAbs_int (i : Int) : dAbs (.int i) = some (.int (if i < 0 then -i else i)) := rfl
theorem isN_none : isN .none = true := rfl
theorem isN_int (i : Int) : isN (.int i) = false := rfl
theorem isN_tup (i : List PyData) : isN (.tuple i) = false := rfl
theorem isN_lst (i : List PyData) : isN (.list i) = false := rfl
theorem ix_t0 (a b : PyData) : dIx (.tuple [a, b]) (.int 0) = some a := rfl
theorem ix_t1 (a b : PyData) : dIx (.tuple [a, b]) (.int 1) = some b := rfl
theorem ix_l0 (a : PyData) : dIx (.list [a]) (.int 0) = some a := rfl
theorem ix_l20 (a b : PyData) : dIx (.list [a, b]) (.int 0) = some a := rfl
theorem ix_l21 (a b : PyData) : dIx (.list [a, b]) (.int 1) = some b := rfl
theorem len_1 (a : PyData) : dLen (.list [a]) = some (.int 1) := rfl
theorem len_2 (a b : PyData) : dLen (.list [a, b]) = some (.int 2) := rfl
theorem mul_r {i j : Int} (h : j.natAbs < 2 ^ 64) : dMul (.int i) (.int j) = some (.int (i * j)) := by
  have e : mulOk i j = true := by unfold mulOk; rw [decide_eq_true h, Bool.or_true]
  simp only [dMul, e, if_true]
theorem mul_l {i j : Int} (h : i.natAbs < 2 ^ 64) : dMul (.int i) (.int j) = some (.int (i * j)) := by
  have e : mulOk i j = true := by unfold mulOk; rw [decide_eq_true h, Bool.true_or]
  simp only [dMul, e, if_true]
theorem mod_p {i j : Int} (h : 0 < j) : dMod (.int i) (.int j) = some (.int (i % j)) := by simp only [dMod, h, if_true]
theorem div_p {i j : Int} (h : 0 < j) (h2 : j < 1073741824) : dDiv (.int i) (.int j) = some (.int (i / j)) := by simp only [dDiv, h, h2, and_self, if_true]
theorem mul_two (j : Int) : dMul (.int 2) (.int j) = some (.int (2 * j)) := mul_l (by decide)
theorem mod_2 (i : Int) : dMod (.int i) (.int 2) = some (.int (i % 2)) := mod_p (by decide)
theorem div_2 (i : Int) : dDiv (.int i) (.int 2) = some (.int (i / 2)) := div_p (by decide) (by decide)
/-! isinstance -/
theorem isi_tt (x : List PyData) : dIsi "tuple" (.tuple x) = some (.bool true) := by show (kitB "tuple" "tuple").map _ = _; rw [show kitB "tuple" "tuple" = some true by decide +kernel]; rfl
theorem isi_ib (x : Int) : dIsi "bool" (.int x) = some (.bool false) := by show (kitB "int" "bool").map _ = _; rw [show kitB "int" "bool" = some false by decide +kernel]; rfl
theorem isi_ii (x : Int) : dIsi "int" (.int x) = some (.bool true) := by show (kitB "int" "int").map _ = _; rw [show kitB "int" "int" = some true by decide +kernel]; rfl
theorem isi_bb (x : Bool) : dIsi "bool" (.bool x) = some (.bool true) := by show (kitB "bool" "bool").map _ = _; rw [show kitB "bool" "bool" = some true by decide +kernel]; rfl
theorem isi_ll (x : List PyData) : dIsi "list" (.list x) = some (.bool true) := by show (kitB "list" "list").map _ = _; rw [show kitB "list" "list" = some true by decide +kernel]; rfl
theorem isi_ss (x : Str) : dIsi "str" (.str x) = some (.bool true) := by show (kitB "str" "str").map _ = _; rw [show kitB "str" "str" = some true by decide +kernel]; rfl
end L2.RC

namespace L2.RC
open PySem PySem.Spec PyProof.Rows
/-! ### dyadic fractions: (t, k) stands for t / 2 ^ k -/
def lowN : Nat → Int → Int × Nat
  | 0, t => (t, 0)
  | k + 1, t => if t % 2 = 0 then lowN k (t / 2) else (t, k + 1)
abbrev Mo := Int × Nat
theorem p2_pos (k : Nat) : (0 : Int) < 2 ^ k := Int.pow_pos (by decide)
theorem p2_succ (k : Nat) : (2 : Int) ^ (k + 1) = 2 * 2 ^ k := by rw [Int.pow_succ]; exact Int.mul_comm _ _
theorem p2_add (i j : Nat) : (2 : Int) ^ (i + j) = 2 ^ i * 2 ^ j := Int.pow_add 2 i j
theorem p2_one : (2 : Int) ^ 0 = 1 := rfl
theorem lowN_val : ∀ (k : Nat) (t : Int), (lowN k t).1 * 2 ^ k = t * 2 ^ (lowN k t).2
  | 0, t => rfl
  | k + 1, t => by
    unfold lowN
    split
    · rename_i h
      have ih := lowN_val k (t / 2)
      have e : t = 2 * (t / 2) := by omega
      generalize t / 2 = u at ih e
      subst e
      rw [p2_succ]
      generalize (lowN k u).1 = a at ih ⊢
      generalize (2 : Int) ^ (lowN k u).2 = b at ih ⊢
      generalize (2 : Int) ^ k = c at ih ⊢
      grind
    · rfl
theorem lowN_le : ∀ (k : Nat) (t : Int), (lowN k t).2 ≤ k
  | 0, t => Nat.le_refl _
  | k + 1, t => by
    unfold lowN
    split
    · exact Nat.le_succ_of_le (lowN_le k _)
    · exact Nat.le_refl _
theorem lowN_norm : ∀ (k : Nat) (t : Int), (lowN k t).2 = 0 ∨ (lowN k t).1 % 2 = 1
  | 0, t => .inl rfl
  | k + 1, t => by
    unfold lowN
    split
    · exact lowN_norm k _
    · rename_i h
      exact .inr (by show t % 2 = 1; omega)
theorem lowN_same {k : Nat} {t : Int} (h : k = 0 ∨ t % 2 = 1) : lowN k t = (t, k) := by
  cases k with
  | zero => rfl
  | succ k =>
    unfold lowN
    rw [if_neg (by omega)]
theorem lowN_two (k : Nat) (t : Int) : lowN (k + 1) (2 * t) = lowN k t := by
  show (if 2 * t % 2 = 0 then lowN k (2 * t / 2) else _) = _
  rw [if_pos (by omega), show 2 * t / 2 = t by omega]
theorem lowN_up (k : Nat) (t : Int) : ∀ i : Nat, lowN (k + i) (2 ^ i * t) = lowN k t
  | 0 => by rw [p2_one, Int.one_mul]; rfl
  | i + 1 => by
    rw [p2_succ, Int.mul_assoc]
    exact (lowN_two (k + i) (2 ^ i * t)).trans (lowN_up k t i)
theorem lowN_eq {k j : Nat} {t s : Int} (h : t * 2 ^ j = s * 2 ^ k) : lowN k t = lowN j s := by
  rcases Nat.le_total k j with hk | hk
  · obtain ⟨i, rfl⟩ := Nat.exists_eq_add_of_le hk
    have e : s = 2 ^ i * t := by
      rw [p2_add] at h
      have hp := p2_pos k
      refine (Int.eq_of_mul_eq_mul_right (Int.ne_of_gt hp) ?_)
      rw [← h]
      generalize (2 : Int) ^ k = a
      generalize (2 : Int) ^ i = b
      grind
    rw [e, lowN_up]
  · obtain ⟨i, rfl⟩ := Nat.exists_eq_add_of_le hk
    have e : t = 2 ^ i * s := by
      rw [p2_add] at h
      have hp := p2_pos j
      refine (Int.eq_of_mul_eq_mul_right (Int.ne_of_gt hp) ?_)
      rw [h]
      generalize (2 : Int) ^ j = a
      generalize (2 : Int) ^ i = b
      grind
    rw [e, lowN_up]
theorem lowN_inj {k : Nat} {t s : Int} (h : lowN k t = lowN k s) : t = s := by
  have h1 := lowN_val k t
  have h2 := lowN_val k s
  rw [h] at h1
  have h3 : t * 2 ^ (lowN k s).2 = s * 2 ^ (lowN k s).2 := h1.symm.trans h2
  exact Int.eq_of_mul_eq_mul_right (Int.ne_of_gt (p2_pos _)) h3
/-- the told form stays the told form -/
theorem lowN_idem (k : Nat) (t : Int) : lowN (lowN k t).2 (lowN k t).1 = lowN k t := lowN_eq (lowN_val k t)

/-! ### sums, halves, gaps, order, all over the bottom 2 ^ K -/
section
variable {K : Nat} {v u : Int}
/-- (t, k) the told form of v / 2 ^ K -/
theorem mean_eq (v u : Int) (K : Nat) : lowN ((lowN K v).2 + (lowN K u).2 + 1) ((lowN K v).1 * 2 ^ (lowN K u).2 + (lowN K u).1 * 2 ^ (lowN K v).2 + 2 ^ (lowN K v).2 * 2 ^ (lowN K u).2) = lowN (K + 1) (v + u + 2 ^ K) := by
  have h1 := lowN_val K v
  have h2 := lowN_val K u
  refine lowN_eq ?_
  rw [p2_succ, p2_succ, p2_add]
  generalize (lowN K v).1 = t at *
  generalize (lowN K u).1 = s at *
  generalize (2 : Int) ^ (lowN K v).2 = a at *
  generalize (2 : Int) ^ (lowN K u).2 = b at *
  generalize (2 : Int) ^ K = c at *
  grind
theorem sum_eq (v u : Int) (K : Nat) : lowN ((lowN K v).2 + (lowN K u).2) ((lowN K v).1 * 2 ^ (lowN K u).2 + (lowN K u).1 * 2 ^ (lowN K v).2) = lowN K (v + u) := by
  have h1 := lowN_val K v
  have h2 := lowN_val K u
  refine lowN_eq ?_
  rw [p2_add]
  generalize (lowN K v).1 = t at *
  generalize (lowN K u).1 = s at *
  generalize (2 : Int) ^ (lowN K v).2 = a at *
  generalize (2 : Int) ^ (lowN K u).2 = b at *
  generalize (2 : Int) ^ K = c at *
  grind
theorem diff_eq (v u : Int) (K : Nat) : lowN ((lowN K v).2 + (lowN K u).2) ((lowN K v).1 * 2 ^ (lowN K u).2 - (lowN K u).1 * 2 ^ (lowN K v).2) = lowN K (v - u) := by
  have h1 := lowN_val K v
  have h2 := lowN_val K u
  refine lowN_eq ?_
  rw [p2_add]
  generalize (lowN K v).1 = t at *
  generalize (lowN K u).1 = s at *
  generalize (2 : Int) ^ (lowN K v).2 = a at *
  generalize (2 : Int) ^ (lowN K u).2 = b at *
  generalize (2 : Int) ^ K = c at *
  grind
theorem hour_eq (v : Int) (K : Nat) : ((lowN K v).1 + 2 ^ (lowN K v).2, (lowN K v).2) = lowN K (v + 2 ^ K) := by
  have h1 := lowN_val K v
  have h2 := lowN_norm K v
  generalize (lowN K v).1 = t at *
  generalize (lowN K v).2 = k at *
  have e : lowN k (t + 2 ^ k) = (t + 2 ^ k, k) := by
    refine lowN_same ?_
    rcases h2 with h | h
    · exact .inl h
    · cases k with
      | zero => exact .inl rfl
      | succ k => rw [p2_succ]; exact .inr (by omega)
  rw [← e]
  refine lowN_eq ?_
  generalize (2 : Int) ^ k = a at *
  generalize (2 : Int) ^ K = c at *
  grind
theorem less_iff (v u : Int) (K : Nat) : (lowN K v).1 * 2 ^ (lowN K u).2 < (lowN K u).1 * 2 ^ (lowN K v).2 ↔ v < u := by
  have h1 := lowN_val K v
  have h2 := lowN_val K u
  have ha := p2_pos (lowN K v).2
  have hb := p2_pos (lowN K u).2
  have hc := p2_pos K
  generalize (lowN K v).1 = t at *
  generalize (lowN K u).1 = s at *
  generalize (2 : Int) ^ (lowN K v).2 = a at *
  generalize (2 : Int) ^ (lowN K u).2 = b at *
  generalize (2 : Int) ^ K = c at *
  have e1 : t * b * c = v * (a * b) := by grind
  have e2 : s * a * c = u * (a * b) := by grind
  constructor
  · intro h
    have h3 : t * b * c < s * a * c := Int.mul_lt_mul_of_pos_right h hc
    rw [e1, e2] at h3
    exact Int.lt_of_mul_lt_mul_right h3 (Int.le_of_lt (Int.mul_pos ha hb))
  · intro h
    have h3 : v * (a * b) < u * (a * b) := Int.mul_lt_mul_of_pos_right h (Int.mul_pos ha hb)
    rw [← e1, ← e2] at h3
    exact Int.lt_of_mul_lt_mul_right h3 (Int.le_of_lt hc)
theorem one_eq (K : Nat) : lowN K (2 ^ K) = (1, 0) := by
  have h := lowN_up 0 1 K
  rw [Nat.zero_add, Int.mul_one] at h
  exact h
theorem zero_eq : ∀ (K : Nat), lowN K 0 = (0, 0)
  | 0 => rfl
  | K + 1 => by
    have h := lowN_two K 0
    rw [Int.mul_zero] at h
    exact h.trans (zero_eq K)
end
def mo (m : Mo) : PyData := .tuple [.int m.1, .int (2 ^ m.2)]
theorem mo_0 (m : Mo) : dIx (mo m) (.int 0) = some (.int m.1) := rfl
theorem mo_1 (m : Mo) : dIx (mo m) (.int 1) = some (.int (2 ^ m.2)) := rfl
end L2.RC

namespace L2.RC
open PySem PySem.Spec PyProof.Rows
/-! ### plans, and when ropes go out, over the bottom 2 ^ K -/
abbrev Rope := Int × Option Int
def oD : Option Int → PyData
  | none => .none
  | some b => .int b
def ropeD (r : Rope) : PyData := .tuple [.int r.1, oD r.2]
def planD (p : List Rope) : List PyData := p.map ropeD
def numOk (k : Nat) (a : Int) : Prop := a = -1 ∨ (0 ≤ a ∧ a < (k : Int))
def ropeOk (k : Nat) (r : Rope) : Prop := numOk k r.1 ∧ ∀ b, r.2 = some b → numOk k b ∧ r.1 ≤ b
def PlanOk (p : List Rope) : Prop := ∀ k r, p[k]? = some r → ropeOk k r
def vOf (acc : List Int) (n : Int) : Int := if n = -1 then 0 else (acc[n.toNat]?).getD 0
def outsV (K : Nat) : List Rope → List Int → List Int × Option Nat
  | [], acc => (acc, none)
  | (a, none) :: rs, acc => outsV K rs (acc ++ [vOf acc a + 2 ^ K])
  | (a, some b) :: rs, acc => if ((vOf acc a - vOf acc b).natAbs : Int) < 2 ^ K then outsV K rs (acc ++ [(vOf acc a + vOf acc b + 2 ^ K) / 2]) else (acc, some acc.length)
def fl (K : Nat) (acc : List Int) : List PyData := acc.map fun v => mo (lowN K v)
theorem fl_len (K : Nat) (acc : List Int) : (fl K acc).length = acc.length := List.length_map _
theorem fl_app (K : Nat) (acc : List Int) (v : Int) : fl K acc ++ [mo (lowN K v)] = fl K (acc ++ [v]) := by unfold fl; rw [List.map_append]; rfl
/-- the moment with the number i is a multiple of 2 ^ (K - 1 - i) -/
def Dv (K : Nat) (acc : List Int) : Prop := ∀ i v, acc[i]? = some v → (2 : Int) ^ (K - 1 - i) ∣ v
theorem p2_dvd {i j : Nat} (h : i ≤ j) : (2 : Int) ^ i ∣ 2 ^ j := by
  obtain ⟨k, rfl⟩ := Nat.exists_eq_add_of_le h
  rw [p2_add]
  exact Int.dvd_mul_right _ _
theorem Dv.of {K : Nat} {acc : List Int} (h : Dv K acc) {a : Int} (ha : numOk acc.length a) : (2 : Int) ^ (K - acc.length) ∣ vOf acc a := by
  unfold vOf
  rcases ha with rfl | ⟨h0, h1⟩
  · rw [if_pos rfl]; exact Int.dvd_zero _
  · rw [if_neg (by omega)]
    cases e : acc[a.toNat]? with
    | none => exact Int.dvd_zero _
    | some v => exact Int.dvd_trans (p2_dvd (by omega)) (h _ _ e)
theorem Dv.app {K : Nat} {acc : List Int} (h : Dv K acc) {v : Int} (hv : (2 : Int) ^ (K - 1 - acc.length) ∣ v) : Dv K (acc ++ [v]) := by
  intro i u e
  rcases Nat.lt_trichotomy i acc.length with c | c | c
  · rw [List.getElem?_append_left c] at e; exact h i u e
  · subst c
    rw [List.getElem?_append_right (Nat.le_refl _), Nat.sub_self] at e
    cases e
    exact hv
  · rw [List.getElem?_eq_none (by rw [List.length_append, List.length_singleton]; omega)] at e
    cases e
theorem Dv.hour {K : Nat} {acc : List Int} (h : Dv K acc) {a : Int} (ha : numOk acc.length a) : Dv K (acc ++ [vOf acc a + 2 ^ K]) :=
  h.app (Int.dvd_add (Int.dvd_trans (p2_dvd (by omega)) (h.of ha)) (p2_dvd (by omega)))
/-- the mean is whole -/
theorem Dv.half {K : Nat} {acc : List Int} (h : Dv K acc) {a b : Int} (ha : numOk acc.length a) (hb : numOk acc.length b) (hK : acc.length < K) :
    vOf acc a + vOf acc b + 2 ^ K = 2 * ((vOf acc a + vOf acc b + 2 ^ K) / 2) ∧ Dv K (acc ++ [(vOf acc a + vOf acc b + 2 ^ K) / 2]) := by
  have d := Int.dvd_add (Int.dvd_add (h.of ha) (h.of hb)) (p2_dvd (show K - acc.length ≤ K by omega))
  generalize vOf acc a + vOf acc b + 2 ^ K = s at d
  obtain ⟨c, e⟩ := d
  have e1 : K - acc.length = (K - 1 - acc.length) + 1 := by omega
  rw [e1, p2_succ, Int.mul_assoc] at e
  refine ⟨by omega, h.app ⟨c, ?_⟩⟩
  generalize (2 : Int) ^ (K - 1 - acc.length) * c = z at e ⊢
  omega
theorem rngD_len (lo : Int) (m : Nat) : (rngD lo m).length = m := by unfold rngD; rw [List.length_map, List.length_range]
theorem rngD_succ (lo : Int) (m : Nat) : rngD lo (m + 1) = .int lo :: rngD (lo + 1) m := by
  unfold rngD
  rw [List.range_succ_eq_map, List.map_cons, List.map_map]
  congr 1
  · rw [Int.natCast_zero, Int.add_zero]
  · refine List.map_congr_left fun i _ => ?_
    show PyData.int (lo + ((i + 1 : Nat) : Int)) = PyData.int (lo + 1 + (i : Int))
    congr 1
    omega
theorem rngD_zero (lo : Int) : rngD lo 0 = [] := rfl
theorem atI_nat' {ds : List PyData} {k : Nat} {d : PyData} (h : ds[k]? = some d) : dIx (.list ds) (.int (k : Int)) = some d := atI_nat h
theorem ix_num {K : Nat} {acc : List Int} {a : Int} (h0 : 0 ≤ a) (h1 : a < (acc.length : Int)) : dIx (.list (fl K acc)) (.int a) = some (mo (lowN K (vOf acc a))) := by
  obtain ⟨k, rfl⟩ := Int.eq_ofNat_of_zero_le h0
  refine atI_nat' ?_
  have hk : k < acc.length := by omega
  have e : vOf acc (k : Int) = acc[k] := by
    unfold vOf
    rw [if_neg (by omega), Int.toNat_natCast, List.getElem?_eq_getElem hk]
    rfl
  unfold fl
  rw [List.getElem?_map, List.getElem?_eq_getElem hk, e] <;> rfl
theorem planD_get {p : List Rope} {k : Nat} {r : Rope} (h : p[k]? = some r) : dIx (.list (planD p)) (.int (k : Int)) = some (ropeD r) := by
  refine atI_nat' ?_
  unfold planD
  rw [List.getElem?_map, h] <;> rfl
theorem planD_len (p : List Rope) : (planD p).length = p.length := List.length_map _
theorem lAppend_fl {K : Nat} {acc : List Int} {v : Int} (h : acc.length < 1000000) : lAppend (fl K acc) (mo (lowN K v)) = some (fl K (acc ++ [v])) := by
  unfold lAppend
  rw [if_pos (by rw [fl_len]; exact h), fl_app]
theorem get_drop {α : Type} {p rs : List α} {r : α} {k : Nat} (h : p.drop k = r :: rs) : p[k]? = some r ∧ p.drop (k + 1) = rs := by
  have hk : k < p.length := by
    by_cases c : k < p.length
    · exact c
    · rw [List.drop_of_length_le (by omega)] at h; cases h
  rw [List.drop_eq_getElem_cons hk] at h
  cases h
  exact ⟨List.getElem?_eq_getElem hk, rfl⟩
end L2.RC

namespace L2.RC
open PySem PySem.Spec PyProof.Rows
/-! ### equal data -/
mutual
theorem eqv_self : ∀ d : PyData, d.canLay0 = true → PyData.eqv d d = true
  | .none, _ => rfl
  | .bool b, _ => by show (b == b) = true; exact beq_self_eq_true b
  | .int b, _ => by show (b == b) = true; exact beq_self_eq_true b
  | .str b, _ => by show (b == b) = true; exact beq_self_eq_true b
  | .list ds, h => eqvAll_self ds (by simpa [PyData.canLay0] using h)
  | .tuple ds, h => eqvAll_self ds (by simpa [PyData.canLay0] using h)
  | .dict _, h => by simp [PyData.canLay0] at h
theorem eqvAll_self : ∀ ds : List PyData, PyData.canLayAll0 ds = true → PyData.eqvAll ds ds = true
  | [], _ => rfl
  | d :: ds, h => by
    have h' : d.canLay0 = true ∧ PyData.canLayAll0 ds = true := by simpa [PyData.canLayAll0] using h
    show (PyData.eqv d d && PyData.eqvAll ds ds) = true
    rw [eqv_self d h'.1, eqvAll_self ds h'.2]
    rfl
end
theorem shaped_split {d : PyData} : SeqAt.shaped d = true ↔ d.canLay0 = true ∧ d.depth ≤ 64 := by
  unfold SeqAt.shaped
  rw [Bool.and_eq_true, decide_eq_true_iff]
def Flat (n : Nat) (d : PyData) : Prop := d.canLay0 = true ∧ d.depth ≤ n
theorem all_flat : ∀ {ds : List PyData} {n : Nat}, (∀ d ∈ ds, Flat n d) → PyData.canLayAll0 ds = true ∧ PyData.depthAll ds ≤ n
  | [], n, _ => ⟨rfl, Nat.zero_le _⟩
  | d :: ds, n, h => by
    obtain ⟨h1, h2⟩ := h d List.mem_cons_self
    obtain ⟨h3, h4⟩ := all_flat (ds := ds) (n := n) fun x hx => h x (List.mem_cons_of_mem _ hx)
    refine ⟨?_, ?_⟩
    · show (d.canLay0 && PyData.canLayAll0 ds) = true
      rw [h1, h3]
      rfl
    · show max d.depth (PyData.depthAll ds) ≤ n
      omega
theorem flat_list {ds : List PyData} {n : Nat} (h : ∀ d ∈ ds, Flat n d) : Flat (n + 1) (.list ds) := by
  obtain ⟨h1, h2⟩ := all_flat h
  exact ⟨by simpa [PyData.canLay0] using h1, by show PyData.depthAll ds + 1 ≤ n + 1; omega⟩
theorem flat_tuple {ds : List PyData} {n : Nat} (h : ∀ d ∈ ds, Flat n d) : Flat (n + 1) (.tuple ds) := by
  obtain ⟨h1, h2⟩ := all_flat h
  exact ⟨by simpa [PyData.canLay0] using h1, by show PyData.depthAll ds + 1 ≤ n + 1; omega⟩
theorem Flat.up {n m : Nat} {d : PyData} (h : Flat n d) (hm : n ≤ m) : Flat m d := ⟨h.1, Nat.le_trans h.2 hm⟩
theorem flat_int (i : Int) : Flat 0 (.int i) := ⟨rfl, Nat.le_refl _⟩
theorem flat_str {i : Str} (h : (PyData.str i).canLay0 = true := by decide +kernel) : Flat 0 (.str i) := ⟨h, Nat.le_refl _⟩
theorem flat_none : Flat 0 .none := ⟨rfl, Nat.le_refl _⟩
theorem Flat.sh {n : Nat} {d : PyData} (h : Flat n d) (hn : n ≤ 64 := by decide) : SeqAt.shaped d = true := shaped_split.mpr ⟨h.1, Nat.le_trans h.2 hn⟩
theorem dEq_self {n : Nat} {d : PyData} (h : Flat n d) (hn : n ≤ 64 := by decide) : dEq d d = some (.bool true) := by
  unfold dEq
  rw [h.sh hn, eqv_self d h.1]
  rfl
theorem dNe_self {n : Nat} {d : PyData} (h : Flat n d) (hn : n ≤ 64 := by decide) : dNe d d = some (.bool false) := by
  unfold dNe
  rw [h.sh hn, eqv_self d h.1]
  rfl
theorem flat_rope (r : Rope) : Flat 1 (ropeD r) := by
  obtain ⟨a, o⟩ := r
  cases o with
  | none => exact ⟨rfl, by show (1 : Nat) ≤ 1; exact Nat.le_refl _⟩
  | some b => exact ⟨rfl, by show (1 : Nat) ≤ 1; exact Nat.le_refl _⟩
theorem flat_plan (p : List Rope) : Flat 2 (.list (planD p)) := flat_list fun d h => by
  obtain ⟨r, _, e⟩ := List.mem_map.mp h
  rw [← e]
  exact flat_rope r
theorem flat_mo (m : Mo) : Flat 1 (mo m) := ⟨rfl, by show (1 : Nat) ≤ 1; exact Nat.le_refl _⟩
theorem flat_fl (K : Nat) (acc : List Int) : Flat 2 (.list (fl K acc)) := flat_list fun d h => by
  obtain ⟨r, _, e⟩ := List.mem_map.mp h
  rw [← e]
  exact flat_mo _
theorem noLs_plan : ∀ p : List Rope, noLs (planD p) = true
  | [] => rfl
  | (a, none) :: p => by show (noL (ropeD (a, none)) && noLs (planD p)) = true; rw [noLs_plan p]; rfl
  | (a, some b) :: p => by show (noL (ropeD (a, some b)) && noLs (planD p)) = true; rw [noLs_plan p]; rfl
theorem noLs_fl (K : Nat) : ∀ p : List Int, noLs (fl K p) = true
  | [] => rfl
  | a :: p => by show (noL (mo (lowN K a)) && noLs (fl K p)) = true; rw [noLs_fl K p]; rfl
/-! ### the plans drawn -/
def cell (ns : List Int) (k : Nat) : Int := (ns[k]?).getD 0
def drawn (c1 c2 : Int) (k : Nat) : Rope :=
  let one := c1 % ((k : Int) + 1) - 1
  if c2 % 4 = 3 then (one, none) else if c2 % 4 = 2 then (one, some one) else (one, some (one + c2 / 4 % ((k : Int) - one)))
def drawnPlan (ns : List Int) (s : Nat) : Nat → Nat → List Rope
  | _, 0 => []
  | k, m + 1 => drawn (cell ns (s + 2 * k)) (cell ns (s + 2 * k + 1)) k :: drawnPlan ns s (k + 1) m
theorem drawnPlan_len (ns : List Int) (s : Nat) : ∀ (m k : Nat), (drawnPlan ns s k m).length = m
  | 0, _ => rfl
  | m + 1, k => congrArg (· + 1) (drawnPlan_len ns s m (k + 1))
theorem drawn_ok (c1 c2 : Int) (k : Nat) : ropeOk k (drawn c1 c2 k) := by
  have h0 : 0 ≤ c1 % ((k : Int) + 1) := Int.emod_nonneg _ (by omega)
  have h1 : c1 % ((k : Int) + 1) < (k : Int) + 1 := Int.emod_lt_of_pos _ (by omega)
  unfold drawn ropeOk numOk
  dsimp only
  generalize c1 % ((k : Int) + 1) = o at h0 h1
  have h2 : 0 ≤ c2 / 4 % ((k : Int) - (o - 1)) := Int.emod_nonneg _ (by omega)
  have h3 : c2 / 4 % ((k : Int) - (o - 1)) < (k : Int) - (o - 1) := Int.emod_lt_of_pos _ (by omega)
  generalize c2 / 4 % ((k : Int) - (o - 1)) = q at h2 h3
  split
  · exact ⟨by dsimp only; omega, fun b e => by cases e⟩
  · split
    · exact ⟨by dsimp only; omega, fun b e => by cases e; dsimp only; omega⟩
    · exact ⟨by dsimp only; omega, fun b e => by cases e; dsimp only; omega⟩
theorem drawnPlan_get (ns : List Int) (s : Nat) : ∀ (m k i : Nat) (r : Rope), (drawnPlan ns s k m)[i]? = some r → ropeOk (k + i) r
  | 0, _, i, r, e => by simp [drawnPlan] at e
  | m + 1, k, 0, r, e => by
    have e' : drawn (cell ns (s + 2 * k)) (cell ns (s + 2 * k + 1)) k = r := by simpa [drawnPlan] using e
    rw [← e']
    exact drawn_ok _ _ _
  | m + 1, k, i + 1, r, e => by
    have := drawnPlan_get ns s m (k + 1) i r (by simpa [drawnPlan] using e)
    rw [show k + (i + 1) = k + 1 + i by omega]
    exact this
theorem drawnPlan_ok (ns : List Int) (s m : Nat) : PlanOk (drawnPlan ns s 0 m) := fun k r e => by
  have := drawnPlan_get ns s m 0 k r e
  rwa [Nat.zero_add] at this
/-- what the law's own outs tells -/
def duD (K : Nat) (acc : List Int) : Option Nat → PyData
  | none => .tuple [.none, .list (fl K acc)]
  | some j => .tuple [.int (j : Int), .list (fl K acc)]
/-! ### what outsV comes to -/
theorem outsV_len (K : Nat) : ∀ (rs : List Rope) (acc : List Int), (outsV K rs acc).1.length ≤ acc.length + rs.length ∧ ((outsV K rs acc).2 = none → (outsV K rs acc).1.length = acc.length + rs.length)
  | [], acc => ⟨Nat.le_refl _, fun _ => rfl⟩
  | (a, none) :: rs, acc => by
    have h := outsV_len K rs (acc ++ [vOf acc a + 2 ^ K])
    rw [List.length_append, List.length_singleton] at h
    rw [show outsV K ((a, none) :: rs) acc = outsV K rs (acc ++ [vOf acc a + 2 ^ K]) from rfl, List.length_cons]
    exact ⟨by omega, fun e => by have := h.2 e; omega⟩
  | (a, some b) :: rs, acc => by
    have h := outsV_len K rs (acc ++ [(vOf acc a + vOf acc b + 2 ^ K) / 2])
    rw [List.length_append, List.length_singleton] at h
    unfold outsV
    rw [List.length_cons]
    split
    · exact ⟨by omega, fun e => by have := h.2 e; omega⟩
    · exact ⟨by show acc.length ≤ _; omega, fun e => by cases e⟩
end L2.RC

namespace L2.RC
open PySem PySem.Spec PyProof.Rows
/-! ### what the moments of a plan in time satisfy -/
theorem outsV_pre (K : Nat) : ∀ (rs : List Rope) (acc : List Int), ∃ t, (outsV K rs acc).1 = acc ++ t
  | [], acc => ⟨[], (List.append_nil _).symm⟩
  | (a, none) :: rs, acc => by
    obtain ⟨t, h⟩ := outsV_pre K rs (acc ++ [vOf acc a + 2 ^ K])
    exact ⟨_ :: t, by rw [show outsV K ((a, none) :: rs) acc = outsV K rs (acc ++ [vOf acc a + 2 ^ K]) from rfl, h, List.append_assoc]; rfl⟩
  | (a, some b) :: rs, acc => by
    unfold outsV
    split
    · obtain ⟨t, h⟩ := outsV_pre K rs (acc ++ [(vOf acc a + vOf acc b + 2 ^ K) / 2])
      exact ⟨_ :: t, by rw [h, List.append_assoc]; rfl⟩
    · exact ⟨[], (List.append_nil _).symm⟩
theorem vOf_pre {acc t : List Int} {a : Int} (h : numOk acc.length a) : vOf (acc ++ t) a = vOf acc a := by
  unfold vOf
  rcases h with rfl | ⟨h0, h1⟩
  · rfl
  · rw [if_neg (by omega), if_neg (by omega), List.getElem?_append_left (by omega)]
/-- rope r goes out at v -/
def Goes (K : Nat) (acc : List Int) (r : Rope) (v : Int) : Prop := match r.2 with
  | none => v = vOf acc r.1 + 2 ^ K
  | some b => ((vOf acc r.1 - vOf acc b).natAbs : Int) < 2 ^ K ∧ 2 * v = vOf acc r.1 + vOf acc b + 2 ^ K
theorem outsV_goes {K : Nat} (p : List Rope) (hp : PlanOk p) : ∀ (rs : List Rope) (acc : List Int), p.drop acc.length = rs → acc.length + rs.length ≤ K → Dv K acc → (outsV K rs acc).2 = none →
    ∀ i r, rs[i]? = some r → ∃ v, (outsV K rs acc).1[acc.length + i]? = some v ∧ Goes K (outsV K rs acc).1 r v
  | [], acc, _, _, _, _, i, r, e => by simp at e
  | (a, o) :: rs, acc, hd, hl, hD, hn, i, r, e => by
    obtain ⟨hg, hd'⟩ := get_drop hd
    obtain ⟨na, nb⟩ := hp _ _ hg
    rw [List.length_cons] at hl
    have hd2 : ∀ v, p.drop (acc ++ [v]).length = rs := fun v => by rw [List.length_append, List.length_singleton]; exact hd'
    have hl2 : ∀ v, (acc ++ [v]).length + rs.length ≤ K := fun v => by rw [List.length_append, List.length_singleton]; omega
    cases o with
    | none =>
      rw [show outsV K ((a, none) :: rs) acc = outsV K rs (acc ++ [vOf acc a + 2 ^ K]) from rfl] at hn ⊢
      cases i with
      | zero =>
        cases e
        obtain ⟨t, ht⟩ := outsV_pre K rs (acc ++ [vOf acc a + 2 ^ K])
        refine ⟨vOf acc a + 2 ^ K, ?_, ?_⟩
        · rw [ht, List.append_assoc, List.getElem?_append_right (by omega)]
          simp
        · unfold Goes
          rw [ht, List.append_assoc]
          show vOf acc a + 2 ^ K = vOf (acc ++ _) a + 2 ^ K
          rw [vOf_pre na]
      | succ i =>
        have ih := outsV_goes p hp rs (acc ++ [vOf acc a + 2 ^ K]) (hd2 _) (hl2 _) (hD.hour na) hn i r (by simpa using e)
        rw [List.length_append, List.length_singleton, show acc.length + 1 + i = acc.length + (i + 1) by omega] at ih
        exact ih
    | some b =>
      obtain ⟨nb, _⟩ := nb b rfl
      obtain ⟨hh, hD2⟩ := hD.half na nb (by omega)
      by_cases c : ((vOf acc a - vOf acc b).natAbs : Int) < 2 ^ K
      · rw [show outsV K ((a, some b) :: rs) acc = outsV K rs (acc ++ [(vOf acc a + vOf acc b + 2 ^ K) / 2]) from if_pos c] at hn ⊢
        cases i with
        | zero =>
          cases e
          obtain ⟨t, ht⟩ := outsV_pre K rs (acc ++ [(vOf acc a + vOf acc b + 2 ^ K) / 2])
          refine ⟨(vOf acc a + vOf acc b + 2 ^ K) / 2, ?_, ?_⟩
          · rw [ht, List.append_assoc, List.getElem?_append_right (by omega)]
            simp
          · unfold Goes
            rw [ht, List.append_assoc]
            show ((vOf (acc ++ _) a - vOf (acc ++ _) b).natAbs : Int) < 2 ^ K ∧ 2 * ((vOf acc a + vOf acc b + 2 ^ K) / 2) = vOf (acc ++ _) a + vOf (acc ++ _) b + 2 ^ K
            rw [vOf_pre na, vOf_pre nb]
            exact ⟨c, hh.symm⟩
        | succ i =>
          have ih := outsV_goes p hp rs (acc ++ [(vOf acc a + vOf acc b + 2 ^ K) / 2]) (hd2 _) (hl2 _) hD2 hn i r (by simpa using e)
          rw [List.length_append, List.length_singleton, show acc.length + 1 + i = acc.length + (i + 1) by omega] at ih
          exact ih
      · rw [show outsV K ((a, some b) :: rs) acc = (acc, some acc.length) from if_neg c] at hn
        cases hn
theorem plan_goes {K : Nat} {p : List Rope} {acc : List Int} (hp : PlanOk p) (hl : p.length ≤ K) (e : outsV K p [] = (acc, none)) :
    acc.length = p.length ∧ ∀ (i : Nat) (r : Rope), p[i]? = some r → ∃ v, acc[i]? = some v ∧ Goes K acc r v := by
  have h1 := (outsV_len K p []).2 (by rw [e])
  have h2 := outsV_goes p hp p [] rfl (by simpa using hl) (fun i v e => by simp at e) (by rw [e])
  rw [e] at h1 h2
  refine ⟨by simpa using h1, fun i r hr => ?_⟩
  have := h2 i r hr
  simpa using this
theorem plan_num {p : List Rope} (hp : PlanOk p) {i : Nat} {r : Rope} (h : p[i]? = some r) : numOk p.length r.1 ∧ ∀ b, r.2 = some b → numOk p.length b := by
  have hi : i < p.length := (List.getElem?_eq_some_iff.mp h).1
  obtain ⟨h1, h2⟩ := hp i r h
  refine ⟨?_, fun b hb => ?_⟩
  · rcases h1 with h | h
    · exact .inl h
    · exact .inr ⟨h.1, by omega⟩
  · rcases (h2 b hb).1 with h | h
    · exact .inl h
    · exact .inr ⟨h.1, by omega⟩
theorem comp_rng {ρ : DEnv} {fe : EFn} {i : Nat} : ∀ (ds : List PyData) (k : Nat), (∀ j d, ds[j]? = some d → fe (ρ.set i (.fz (.int ((k + j : Nat) : Int)))) = some d) → compL i tTrue fe ρ (rngD (k : Int) ds.length) = some ds
  | [], k, _ => rfl
  | d :: ds, k, h => by
    have h0 := h 0 d rfl
    have ih := comp_rng (ρ := ρ) (fe := fe) (i := i) ds (k + 1) fun j e he => by
      have := h (j + 1) e (by simpa using he)
      rw [show k + 1 + j = k + (j + 1) by omega]
      exact this
    rw [List.length_cons, rngD_succ, a_comp1]
    rw [show ((k + 0 : Nat) : Int) = (k : Int) from rfl] at h0
    rw [show (((k + 1 : Nat)) : Int) = (k : Int) + 1 by omega] at ih
    simp only [a_ttrue, h0, ih, Option.bind_some, Option.map_some]
/-! ### what is left of a rope -/
def burntV (s t : Int) : Int := if s < t then t - s else 0
def lessV (a b : Int) : Int := if b < a then a - b else 0
def leftV (K : Nat) (acc : List Int) (t : Int) (r : Rope) : Int := match r.2 with
  | none => lessV (2 ^ K) (burntV (vOf acc r.1) t)
  | some b => lessV (lessV (2 ^ K) (burntV (vOf acc r.1) t)) (burntV (vOf acc b) t)
def eatenV (acc : List Int) (t : Int) (r : Rope) : Int := match r.2 with
  | none => burntV (vOf acc r.1) t
  | some b => burntV (vOf acc r.1) t + burntV (vOf acc b) t
theorem left_same {K : Nat} {acc : List Int} {t v : Int} {r : Rope} (h : Goes K acc r v) : (if t < v then ((eatenV acc t r - 2 ^ K).natAbs : Int) else 0) = leftV K acc t r := by
  have hp := p2_pos K
  obtain ⟨a, o⟩ := r
  cases o with
  | none =>
    have h' : v = vOf acc a + 2 ^ K := h
    unfold eatenV leftV burntV lessV
    dsimp only
    generalize vOf acc a = s at *
    generalize (2 : Int) ^ K = M at *
    split <;> split <;> (try split) <;> omega
  | some b =>
    have h' : ((vOf acc a - vOf acc b).natAbs : Int) < 2 ^ K ∧ 2 * v = vOf acc a + vOf acc b + 2 ^ K := h
    obtain ⟨h1, h2⟩ := h'
    unfold eatenV leftV burntV lessV
    dsimp only
    generalize vOf acc a = s at *
    generalize vOf acc b = u at *
    generalize (2 : Int) ^ K = M at *
    by_cases c1 : s < t <;> by_cases c2 : u < t <;> by_cases c3 : t < v <;> simp only [c1, c2, c3, if_true, if_false] <;> (repeat' split) <;> omega
end L2.RC

namespace L2.RC
open PySem PySem.Spec PyProof.Rows
theorem a_srt {fa : EFn} {ρ : DEnv} : oSrt fa ρ = (match fa ρ with
  | some (.list ds) => (match intsOf ds with | some ns => if ns.length ≤ 60 then some ((srtU ns).map .int) else none | none => none)
  | _ => none) := rfl
theorem comp_map {α : Type} {ρ : DEnv} {fe : EFn} {i : Nat} (f g : α → PyData) : ∀ l : List α, (∀ x ∈ l, fe (ρ.set i (.fz (f x))) = some (g x)) → compL i tTrue fe ρ (l.map f) = some (l.map g)
  | [], _ => rfl
  | x :: l, h => by
    rw [List.map_cons, List.map_cons, a_comp1]
    simp only [a_ttrue, h x List.mem_cons_self, comp_map f g l fun y hy => h y (List.mem_cons_of_mem _ hy), Option.bind_some, Option.map_some]
/-! ### rising -/
/-- the top of v over the common bottom 2 ^ B -/
def scV (K B : Nat) (v : Int) : Int := (lowN K v).1 * 2 ^ (B - (lowN K v).2)
theorem scV_val {K B : Nat} {v : Int} (h : (lowN K v).2 ≤ B) : scV K B v * 2 ^ K = v * 2 ^ B := by
  have h1 := lowN_val K v
  unfold scV
  have e : (2 : Int) ^ B = 2 ^ (lowN K v).2 * 2 ^ (B - (lowN K v).2) := by rw [← p2_add, show (lowN K v).2 + (B - (lowN K v).2) = B by omega]
  rw [e]
  generalize (lowN K v).1 = t at *
  generalize (2 : Int) ^ (lowN K v).2 = a at *
  generalize (2 : Int) ^ (B - (lowN K v).2) = b at *
  generalize (2 : Int) ^ K = c at *
  grind
theorem scV_low {K B : Nat} {v : Int} (h : (lowN K v).2 ≤ B) : lowN B (scV K B v) = lowN K v := lowN_eq (scV_val h)
theorem scV_lt {K B : Nat} {v u : Int} (h : (lowN K v).2 ≤ B) (h' : (lowN K u).2 ≤ B) (hl : v < u) : scV K B v < scV K B u := by
  have h1 := scV_val h
  have h2 := scV_val h'
  have h3 : v * 2 ^ B < u * 2 ^ B := Int.mul_lt_mul_of_pos_right hl (p2_pos B)
  rw [← h1, ← h2] at h3
  exact Int.lt_of_mul_lt_mul_right h3 (Int.le_of_lt (p2_pos K))
theorem srt_sc {K B : Nat} {acc : List Int} (h : ∀ v ∈ acc, (lowN K v).2 ≤ B) : srtU (acc.map (scV K B)) = (srtU acc).map (scV K B) := by
  refine sorted_unique (srtU_sorted _) ?_ fun k => ?_
  · rw [List.pairwise_map]
    refine (srtU_sorted acc).imp_of_mem fun {a b} ha hb hl => scV_lt (h a ((srtU_mem a acc).mp ha)) (h b ((srtU_mem b acc).mp hb)) hl
  · rw [srtU_mem, List.mem_map, List.mem_map]
    constructor
    · rintro ⟨v, hv, e⟩; exact ⟨v, (srtU_mem v acc).mpr hv, e⟩
    · rintro ⟨v, hv, e⟩; exact ⟨v, (srtU_mem v acc).mp hv, e⟩
theorem bottom_max {K : Nat} {acc : List Int} (h : acc ≠ []) : ∃ B, B ≤ K ∧ (∀ v ∈ acc, (lowN K v).2 ≤ B) ∧ dMax (.list (acc.map fun v => .int (2 ^ (lowN K v).2))) = some (.int (2 ^ B)) := by
  cases acc with
  | nil => exact absurd rfl h
  | cons v acc =>
    have e : intsOf ((v :: acc).map fun v => PyData.int (2 ^ (lowN K v).2)) = some ((2 : Int) ^ (lowN K v).2 :: acc.map fun v => (2 : Int) ^ (lowN K v).2) := by
      have := intsOf_map ((v :: acc).map fun v => (2 : Int) ^ (lowN K v).2)
      rw [List.map_map] at this
      exact this
    have hm := maxL_mem (acc.map fun v => (2 : Int) ^ (lowN K v).2) ((2 : Int) ^ (lowN K v).2)
    obtain ⟨g1, g2⟩ := maxL_ge (acc.map fun v => (2 : Int) ^ (lowN K v).2) ((2 : Int) ^ (lowN K v).2)
    have hd : dMax (.list ((v :: acc).map fun v => .int (2 ^ (lowN K v).2))) = some (.int (maxL ((2 : Int) ^ (lowN K v).2) (acc.map fun v => (2 : Int) ^ (lowN K v).2))) := by
      unfold dMax
      simp only [e]
    have le_of : ∀ i j : Nat, (2 : Int) ^ i ≤ 2 ^ j → i ≤ j := fun i j hij => by
      by_cases c : i ≤ j
      · exact c
      · have := Int.pow_lt_pow_of_lt (a := 2) (by decide) (show j < i by omega)
        omega
    obtain ⟨w, hw, ew⟩ : ∃ w ∈ v :: acc, (2 : Int) ^ (lowN K w).2 = maxL ((2 : Int) ^ (lowN K v).2) (acc.map fun v => (2 : Int) ^ (lowN K v).2) := by
      rcases List.mem_cons.mp hm with h1 | h1
      · exact ⟨v, List.mem_cons_self, h1.symm⟩
      · obtain ⟨w, hw, e⟩ := List.mem_map.mp h1
        exact ⟨w, List.mem_cons_of_mem _ hw, e⟩
    rw [← ew] at hd g1 g2
    refine ⟨(lowN K w).2, lowN_le K w, fun u hu => ?_, hd⟩
    rcases List.mem_cons.mp hu with rfl | hu
    · exact le_of _ _ g1
    · exact le_of _ _ (g2 _ (List.mem_map.mpr ⟨u, hu, rfl⟩))
end L2.RC

namespace L2.RC
open PySem PySem.Spec PyProof.Rows
/-! ### the book's pages -/
def natsD (l : List Nat) : List PyData := l.map fun (k : Nat) => .int (k : Int)
def pairD (x : Nat × Int) : PyData := .tuple [.int (x.1 : Int), .int x.2]
def pairsD (l : List (Nat × Int)) : List PyData := l.map pairD
/-- the ropes from k on, m of them, that go out at v -/
def goneL (acc : List Int) (v : Int) : Nat → Nat → List Nat
  | _, 0 => []
  | k, m + 1 => if acc[k]? = some v then k :: goneL acc v (k + 1) m else goneL acc v (k + 1) m
def litE (acc : List Int) (v : Int) (k : Nat) (e : Int) : Option Int → List (Nat × Int)
  | none => []
  | some b => if vOf acc b = v then [(k, e)] else []
abbrev litB (acc : List Int) (v : Int) (k : Nat) : Option Int → List (Nat × Int) := litE acc v k 1
def litR (acc : List Int) (v : Int) (k : Nat) (r : Rope) : List (Nat × Int) :=
  (if vOf acc r.1 = v then [(k, (0 : Int))] else []) ++ litB acc v k r.2
def litL (acc : List Int) (v : Int) : Nat → List Rope → List (Nat × Int)
  | _, [] => []
  | k, r :: rs => litR acc v k r ++ litL acc v (k + 1) rs
def pageD (K : Nat) (acc : List Int) (p : List Rope) (v : Int) : PyData :=
  .tuple [mo (lowN K v), .list (natsD (goneL acc v 0 p.length)), .list (pairsD (litL acc v 0 p))]
theorem goneL_mem (acc : List Int) (v : Int) (j : Nat) : ∀ (m k : Nat), j ∈ goneL acc v k m ↔ (k ≤ j ∧ j < k + m ∧ acc[j]? = some v)
  | 0, k => by simp [goneL]; omega
  | m + 1, k => by
    unfold goneL
    have ih := goneL_mem acc v j m (k + 1)
    split
    · rename_i h
      rw [List.mem_cons, ih]
      constructor
      · rintro (rfl | ⟨a, b, c⟩)
        · exact ⟨Nat.le_refl _, by omega, h⟩
        · exact ⟨by omega, by omega, c⟩
      · rintro ⟨a, b, c⟩
        by_cases e : j = k
        · exact .inl e
        · exact .inr ⟨by omega, by omega, c⟩
    · rename_i h
      rw [ih]
      constructor
      · rintro ⟨a, b, c⟩; exact ⟨by omega, by omega, c⟩
      · rintro ⟨a, b, c⟩
        refine ⟨?_, by omega, c⟩
        by_cases e : j = k
        · subst e; exact absurd c h
        · omega
theorem comp_gone {ρ : DEnv} {ft : TFn} {fe : EFn} {i : Nat} (acc : List Int) (v : Int) : ∀ (m k : Nat), (∀ j : Nat, j < k + m → ft (ρ.set i (.fz (.int (j : Int)))) = some (decide (acc[j]? = some v))) → (∀ j : Nat, fe (ρ.set i (.fz (.int (j : Int)))) = some (.int (j : Int))) →
    compL i ft fe ρ (rngD (k : Int) m) = some (natsD (goneL acc v k m))
  | 0, k, _, _ => rfl
  | m + 1, k, h, he => by
    have ih := comp_gone (ρ := ρ) (ft := ft) (fe := fe) (i := i) acc v m (k + 1) (fun j hj => h j (by omega)) he
    rw [show (((k + 1 : Nat)) : Int) = (k : Int) + 1 by omega] at ih
    rw [rngD_succ, a_comp1, h k (by omega), he k, ih]
    by_cases c : acc[k]? = some v
    · rw [show goneL acc v k (m + 1) = k :: goneL acc v (k + 1) m from if_pos c, decide_eq_true c]; rfl
    · rw [show goneL acc v k (m + 1) = goneL acc v (k + 1) m from if_neg c, decide_eq_false c]
theorem flat_nats (l : List Nat) : Flat 1 (.list (natsD l)) := flat_list fun d h => by
  obtain ⟨r, _, e⟩ := List.mem_map.mp h
  rw [← e]
  exact flat_int _
theorem flat_page (K : Nat) (acc : List Int) (p : List Rope) (v : Int) : Flat 3 (pageD K acc p v) := flat_tuple fun d h => by
  rcases List.mem_cons.mp h with rfl | h
  · exact (flat_mo _).up (by decide)
  · rcases List.mem_cons.mp h with rfl | h
    · exact (flat_nats _).up (by decide)
    · rw [List.mem_singleton.mp h]
      refine flat_list fun d h => ?_
      obtain ⟨r, _, e⟩ := List.mem_map.mp h
      rw [← e]
      exact ⟨rfl, by show (1 : Nat) ≤ 1; exact Nat.le_refl _⟩
theorem litR_len (acc : List Int) (v : Int) (k : Nat) (r : Rope) : (litR acc v k r).length ≤ 2 := by
  unfold litR
  rw [List.length_append]
  have h1 : (if vOf acc r.1 = v then [((k : Nat), (0 : Int))] else []).length ≤ 1 := by split <;> simp
  have h2 : (litB acc v k r.2).length ≤ 1 := by
    unfold litB litE
    split
    · simp
    · split <;> simp
  omega
theorem litL_len (acc : List Int) (v : Int) : ∀ (rs : List Rope) (k : Nat), (litL acc v k rs).length ≤ 2 * rs.length
  | [], _ => Nat.le_refl _
  | r :: rs, k => by
    have h1 := litR_len acc v k r
    have h2 := litL_len acc v rs (k + 1)
    unfold litL
    rw [List.length_append, List.length_cons]
    omega
theorem lAppend_pair {l : List (Nat × Int)} {x : Nat × Int} (h : l.length < 1000000) : lAppend (pairsD l) (pairD x) = some (pairsD (l ++ [x])) := by
  unfold lAppend
  rw [if_pos (by show (l.map pairD).length < 1000000; rw [List.length_map]; exact h)]
  unfold pairsD
  rw [List.map_append]
  rfl
theorem lAppend_map {α : Type} {f : α → PyData} {l : List α} {x : α} (h : l.length < 1000000) : lAppend (l.map f) (f x) = some ((l ++ [x]).map f) := by
  unfold lAppend
  rw [if_pos (by rw [List.length_map]; exact h), List.map_append]
  rfl
theorem mo_test {K : Nat} {u v : Int} : (lowN K u = lowN K v) ↔ u = v := ⟨lowN_inj, fun e => by rw [e]⟩
end L2.RC

namespace L2.RC
open PySem PySem.Spec PyProof.Rows
/-! ### longer and shorter plans -/
theorem outsV_app (K : Nat) : ∀ (rs qs : List Rope) (acc acc' : List Int), outsV K rs acc = (acc', none) → outsV K (rs ++ qs) acc = outsV K qs acc'
  | [], qs, acc, acc', e => by cases e; rfl
  | (a, none) :: rs, qs, acc, acc', e => by
    rw [show outsV K ((a, none) :: rs) acc = outsV K rs (acc ++ [vOf acc a + 2 ^ K]) from rfl] at e
    exact outsV_app K rs qs _ acc' e
  | (a, some b) :: rs, qs, acc, acc', e => by
    by_cases c : ((vOf acc a - vOf acc b).natAbs : Int) < 2 ^ K
    · rw [show outsV K ((a, some b) :: rs) acc = outsV K rs (acc ++ [(vOf acc a + vOf acc b + 2 ^ K) / 2]) from if_pos c] at e
      refine Eq.trans ?_ (outsV_app K rs qs _ acc' e)
      exact if_pos c
    · rw [show outsV K ((a, some b) :: rs) acc = (acc, some acc.length) from if_neg c] at e
      cases e
theorem outsV_take (K : Nat) : ∀ (rs : List Rope) (acc acc' : List Int) (j : Nat), outsV K rs acc = (acc', some j) → j = acc'.length ∧ acc.length ≤ j ∧ j < acc.length + rs.length ∧ outsV K (rs.take (j - acc.length)) acc = (acc', none)
  | [], acc, acc', j, e => by cases e
  | (a, none) :: rs, acc, acc', j, e => by
    rw [show outsV K ((a, none) :: rs) acc = outsV K rs (acc ++ [vOf acc a + 2 ^ K]) from rfl] at e
    obtain ⟨h1, h2, h3, h4⟩ := outsV_take K rs _ acc' j e
    rw [List.length_append, List.length_singleton] at h2 h3 h4
    refine ⟨h1, by omega, by rw [List.length_cons]; omega, ?_⟩
    rw [show j - acc.length = (j - (acc.length + 1)) + 1 by omega, List.take_succ_cons]
    exact h4
  | (a, some b) :: rs, acc, acc', j, e => by
    by_cases c : ((vOf acc a - vOf acc b).natAbs : Int) < 2 ^ K
    · rw [show outsV K ((a, some b) :: rs) acc = outsV K rs (acc ++ [(vOf acc a + vOf acc b + 2 ^ K) / 2]) from if_pos c] at e
      obtain ⟨h1, h2, h3, h4⟩ := outsV_take K rs _ acc' j e
      rw [List.length_append, List.length_singleton] at h2 h3 h4
      refine ⟨h1, by omega, by rw [List.length_cons]; omega, ?_⟩
      rw [show j - acc.length = (j - (acc.length + 1)) + 1 by omega, List.take_succ_cons]
      exact (if_pos c).trans h4
    · rw [show outsV K ((a, some b) :: rs) acc = (acc, some acc.length) from if_neg c] at e
      cases e
      refine ⟨rfl, Nat.le_refl _, by rw [List.length_cons]; omega, ?_⟩
      rw [Nat.sub_self]
      rfl
theorem vOf_nonneg {acc : List Int} (h : ∀ v ∈ acc, 0 ≤ v) (a : Int) : 0 ≤ vOf acc a := by
  unfold vOf
  split
  · exact Int.le_refl _
  · cases e : acc[a.toNat]? with
    | none => exact Int.le_refl _
    | some v => exact h v (List.mem_of_getElem? e)
theorem outsV_nonneg (K : Nat) : ∀ (rs : List Rope) (acc : List Int), (∀ v ∈ acc, 0 ≤ v) → ∀ v ∈ (outsV K rs acc).1, 0 ≤ v
  | [], acc, h => h
  | (a, none) :: rs, acc, h => by
    have := vOf_nonneg h a
    have := p2_pos K
    refine outsV_nonneg K rs (acc ++ [vOf acc a + 2 ^ K]) fun v hv => ?_
    rcases List.mem_append.mp hv with hv | hv
    · exact h v hv
    · rw [List.mem_singleton.mp hv]; omega
  | (a, some b) :: rs, acc, h => by
    have h1 := vOf_nonneg h a
    have h2 := vOf_nonneg h b
    have h3 := p2_pos K
    unfold outsV
    split
    · refine outsV_nonneg K rs (acc ++ [(vOf acc a + vOf acc b + 2 ^ K) / 2]) fun v hv => ?_
      rcases List.mem_append.mp hv with hv | hv
      · exact h v hv
      · rw [List.mem_singleton.mp hv]; omega
    · exact h
theorem outsV_dv {K : Nat} (p : List Rope) (hp : PlanOk p) : ∀ (rs : List Rope) (acc : List Int), p.drop acc.length = rs → acc.length + rs.length ≤ K → Dv K acc → Dv K (outsV K rs acc).1
  | [], acc, _, _, hD => hD
  | (a, o) :: rs, acc, hd, hl, hD => by
    obtain ⟨hg, hd'⟩ := get_drop hd
    obtain ⟨na, nb⟩ := hp _ _ hg
    rw [List.length_cons] at hl
    have hd2 : ∀ v, p.drop (acc ++ [v]).length = rs := fun v => by rw [List.length_append, List.length_singleton]; exact hd'
    have hl2 : ∀ v, (acc ++ [v]).length + rs.length ≤ K := fun v => by rw [List.length_append, List.length_singleton]; omega
    cases o with
    | none => exact outsV_dv p hp rs _ (hd2 _) (hl2 _) (hD.hour na)
    | some b =>
      obtain ⟨hh, hD2⟩ := hD.half na (nb b rfl).1 (by omega)
      unfold outsV
      split
      · exact outsV_dv p hp rs _ (hd2 _) (hl2 _) hD2
      · exact hD
/-- a plan, cut ahead of a late rope -/
def cutP (p : List Rope) : Option Nat → List Rope
  | none => p
  | some j => p.take j
/-- a plan in time, with its moments -/
structure Good (K : Nat) (p : List Rope) (acc : List Int) : Prop where
  ok : PlanOk p
  ou : outsV K p [] = (acc, none)
  ne : p ≠ []
  le : p.length ≤ K
theorem Good.len {K : Nat} {p : List Rope} {acc : List Int} (g : Good K p acc) : acc.length = p.length := (plan_goes g.ok g.le g.ou).1
theorem Good.dv {K : Nat} {p : List Rope} {acc : List Int} (g : Good K p acc) : Dv K acc := by
  have := outsV_dv p g.ok p [] rfl (by simpa using g.le) (fun i v e => by simp at e)
  rwa [g.ou] at this
theorem Good.nonneg {K : Nat} {p : List Rope} {acc : List Int} (g : Good K p acc) : ∀ v ∈ acc, 0 ≤ v := by
  have := outsV_nonneg K p [] (fun v h => by cases h)
  rwa [g.ou] at this
theorem PlanOk.app {p : List Rope} {r : Rope} (h : PlanOk p) (hr : ropeOk p.length r) : PlanOk (p ++ [r]) := by
  intro k s e
  rcases Nat.lt_trichotomy k p.length with c | c | c
  · rw [List.getElem?_append_left c] at e; exact h k s e
  · subst c
    rw [List.getElem?_append_right (Nat.le_refl _), Nat.sub_self] at e
    cases e
    exact hr
  · rw [List.getElem?_eq_none (by rw [List.length_append, List.length_singleton]; omega)] at e
    cases e
theorem PlanOk.take {p : List Rope} (h : PlanOk p) (j : Nat) : PlanOk (p.take j) := by
  intro k s e
  refine h k s ?_
  by_cases c : k < j
  · rwa [List.getElem?_take_of_lt c] at e
  · rw [List.getElem?_eq_none (by rw [List.length_take]; omega)] at e
    cases e
theorem Good.one {K : Nat} {p : List Rope} {acc : List Int} {a : Int} (g : Good K p acc) (hl : p.length < K) (ha : numOk p.length a) : Good K (p ++ [(a, none)]) (acc ++ [vOf acc a + 2 ^ K]) :=
  ⟨g.ok.app ⟨ha, fun b e => by cases e⟩, by rw [outsV_app K p _ [] acc g.ou]; rfl, by simp, by rw [List.length_append, List.length_singleton]; omega⟩
theorem Good.two {K : Nat} {p : List Rope} {acc : List Int} {a b : Int} (g : Good K p acc) (hl : p.length < K) (ha : numOk p.length a) (hb : numOk p.length b) (hab : a ≤ b) (hc : ((vOf acc a - vOf acc b).natAbs : Int) < 2 ^ K) :
    Good K (p ++ [(a, some b)]) (acc ++ [(vOf acc a + vOf acc b + 2 ^ K) / 2]) :=
  ⟨g.ok.app ⟨ha, fun b' e => by cases e; exact ⟨hb, hab⟩⟩, by rw [outsV_app K p _ [] acc g.ou]; exact if_pos hc, by simp, by rw [List.length_append, List.length_singleton]; omega⟩
theorem Good.last {K : Nat} {p : List Rope} {acc : List Int} (g : Good K p acc) : ∃ xs v, acc = xs ++ [v] ∧ vOf acc ((p.length : Int) - 1) = v := by
  have hl := g.len
  have hne : acc ≠ [] := fun z => by
    rw [z] at hl
    exact g.ne (List.length_eq_zero_iff.mp hl.symm)
  have hlp : 0 < acc.length := List.length_pos_iff.mpr hne
  refine ⟨acc.dropLast, acc.getLast hne, (List.dropLast_concat_getLast hne).symm, ?_⟩
  unfold vOf
  rw [if_neg (by omega), show ((p.length : Int) - 1).toNat = acc.length - 1 by omega, List.getElem?_eq_getElem (by omega), List.getLast_eq_getElem]
  rfl
/-- a strictly rising list's last -/
theorem rise_last : ∀ {l : List Int}, l.Pairwise (· < ·) → l ≠ [] → ∃ xs m, l = xs ++ [m] ∧ m ∈ l ∧ ∀ v ∈ l, v ≤ m
  | [], _, h => absurd rfl h
  | [x], _, _ => ⟨[], x, rfl, List.mem_singleton.mpr rfl, fun v hv => by rw [List.mem_singleton.mp hv]; exact Int.le_refl _⟩
  | x :: y :: l, h, _ => by
    rw [List.pairwise_cons] at h
    obtain ⟨xs, m, e, hm, hv⟩ := rise_last (l := y :: l) h.2 (fun z => by cases z)
    refine ⟨x :: xs, m, by rw [e]; rfl, List.mem_cons_of_mem _ hm, fun v hv' => ?_⟩
    rcases List.mem_cons.mp hv' with rfl | hv'
    · exact Int.le_of_lt (h.1 m hm)
    · exact hv v hv'
theorem slice_take {xs : List PyData} {j : Nat} (h : j ≤ xs.length) : cutD xs none (some (j : Int)) = xs.take j := by
  unfold cutD
  rw [HT.sIx_none, HT.sIx_nat, List.drop_zero, Nat.sub_zero, Nat.min_eq_left h]
end L2.RC

namespace L2.RC
open PySem PySem.Spec PyProof.Rows
def topS (i : Nat) : Stmt := PySem.Challenge.pw_ropeclock_k05_whole_walked_by_lightings.main.body.getD i (.Pass ⟨0, 0, 0, 0⟩)
structure Txt (K : PySem.W.Frag) (mg : Str → Option Value) where
  CL : Addr
  CN : Addr
  f_plain : Addr
  d_plain : FuncData
  a_plain : DefAt K mg "plain" (topS 4) f_plain d_plain
  f_mean_and_half : Addr
  d_mean_and_half : FuncData
  a_mean_and_half : DefAt K mg "mean_and_half" (topS 5) f_mean_and_half d_mean_and_half
  f_hour_behind : Addr
  d_hour_behind : FuncData
  a_hour_behind : DefAt K mg "hour_behind" (topS 6) f_hour_behind d_hour_behind
  f_earlier : Addr
  d_earlier : FuncData
  a_earlier : DefAt K mg "earlier" (topS 7) f_earlier d_earlier
  f_between : Addr
  d_between : FuncData
  a_between : DefAt K mg "between" (topS 8) f_between d_between
  f_moment_of : Addr
  d_moment_of : FuncData
  a_moment_of : DefAt K mg "moment_of" (topS 11) f_moment_of d_moment_of
  f_outs : Addr
  d_outs : FuncData
  a_outs : DefAt K mg "outs" (topS 12) f_outs d_outs
  f_l_cell_at : Addr
  d_l_cell_at : FuncData
  a_l_cell_at : DefAt K mg "_law_cell_at" (topS 14) f_l_cell_at d_l_cell_at
  f_l_low : Addr
  d_l_low : FuncData
  a_l_low : DefAt K mg "_law_low" (topS 15) f_l_low d_l_low
  f_l_sum : Addr
  d_l_sum : FuncData
  a_l_sum : DefAt K mg "_law_sum" (topS 16) f_l_sum d_l_sum
  f_l_less : Addr
  d_l_less : FuncData
  a_l_less : DefAt K mg "_law_less" (topS 17) f_l_less d_l_less
  f_l_gap : Addr
  d_l_gap : FuncData
  a_l_gap : DefAt K mg "_law_gap" (topS 18) f_l_gap d_l_gap
  f_l_fraction : Addr
  d_l_fraction : FuncData
  a_l_fraction : DefAt K mg "_law_fraction" (topS 19) f_l_fraction d_l_fraction
  f_l_fractions : Addr
  d_l_fractions : FuncData
  a_l_fractions : DefAt K mg "_law_fractions" (topS 20) f_l_fractions d_l_fractions
  f_l_plan : Addr
  d_l_plan : FuncData
  a_l_plan : DefAt K mg "_law_plan" (topS 21) f_l_plan d_l_plan
  f_l_lit_now : Addr
  d_l_lit_now : FuncData
  a_l_lit_now : DefAt K mg "_law_lit_now" (topS 22) f_l_lit_now d_l_lit_now
  f_l_next : Addr
  d_l_next : FuncData
  a_l_next : DefAt K mg "_law_next" (topS 23) f_l_next d_l_next
  f_l_on : Addr
  d_l_on : FuncData
  a_l_on : DefAt K mg "_law_on" (topS 24) f_l_on d_l_on
  f_l_late : Addr
  d_l_late : FuncData
  a_l_late : DefAt K mg "_law_late" (topS 25) f_l_late d_l_late
  f_l_walked : Addr
  d_l_walked : FuncData
  a_l_walked : DefAt K mg "_law_walked" (topS 26) f_l_walked d_l_walked
  f_l_told : Addr
  d_l_told : FuncData
  a_l_told : DefAt K mg "_law_told" (topS 27) f_l_told d_l_told
  f_law : Addr
  d_law : FuncData
  a_law : DefAt K mg "law" (topS 28) f_law d_law
  z_abs : mg "abs" = none
  z_bool : mg "bool" = none
  z_int : mg "int" = none
  z_isinstance : mg "isinstance" = none
  z_len : mg "len" = none
  z_list : mg "list" = none
  z_range : mg "range" = none
  z_tuple : mg "tuple" = none
  hour : Addr
  hour_o : Obj
  hour_n : Nat
  hour_t : Tok
  hour_u : Tok
  hour_g : mg "HOUR" = some (.ref hour)
  hour_k : K.lookup hour = some hour_o
  hour_c : hour_o.cls = .type "tuple"
  hour_d : hour_o.data = .seq #[.int 1 hour_t, .int 1 hour_u] hour_n
  fI : Addr
  late : PySem.LateX.LateTxt K mg CL fI
section
variable {P : Program} {w : World} {K : PySem.W.Frag} {mg : Str → Option Value} {base : Heap}
abbrev s_plain : Stmt := topS 4
abbrev N_plain : List Str := ["top", "bottom"]
theorem sc_plain : FnScope N_plain ["top", "bottom"] (defScope s_plain) := ⟨rfl, rfl, rfl, by decide +kernel, rfl, by decide +kernel, by decide +kernel⟩
def c_plain_1 (n : Nat) : SFn :=
    (sSeq (sSet 0 (eBin dDiv (eSeq 0) (eC (.int 2))))
    (sSet 1 (eBin dDiv (eSeq 1) (eC (.int 2)))))
def b_plain (n : Nat) : SFn :=
    (sSeq (sWhile (tAnd2 (tOf (eBin dGt (eSeq 1) (eC (.int 1)))) (tOf (eBin dEq (eBin dMod (eSeq 0) (eC (.int 2))) (eC (.int 0))))) (c_plain_1 n) n)
    (sRet (eTup (evs [(eVar 0), (eVar 1)]))))
theorem bi_plain (T : Txt K mg) : Binds K T.d_plain ["top", "bottom"] [] := T.a_plain.F.binds fun _ _ _ _ _ _ us hl => match us, hl with | [_, _], _ => rfl
theorem ok_plain (T : Txt K mg) : FnOk P w K mg base CX0 1 T.f_plain T.d_plain ["top", "bottom"] (spD K T.CL T.CN 2 0 b_plain) :=
  mk_ok T.a_plain.F sc_plain fun cdv A outer s H E hr n =>
    (dss_cons (ds_while n PassesOwn.never (dt_w (dw_and (dt_cmp op_gt vok_gt (de_seq 1) (DEs.w de_int) (nomark _)) (dw_and1 (dt_cmp (op_eqD (hu64 hr)) vok_eq (DEs.w (de_mod (de_seq 0) (DEs.w de_int))) (DEs.w de_int) (nomark _))))) (dss_cons (ds_set 0 (de_div (de_seq 0) (DEs.w de_int)) sc_plain.nd)
    (dss_one (ds_set 1 (de_div (de_seq 1) (DEs.w de_int)) sc_plain.nd))))
    (dss_one (ds_ret (de_tup (da_cons (de_var 0) (da_cons (de_var 1) da_nil))))))
abbrev s_mean_and_half : Stmt := topS 5
abbrev N_mean_and_half : List Str := ["one", "other", "top"]
theorem sc_mean_and_half : FnScope N_mean_and_half ["one", "other"] (defScope s_mean_and_half) := ⟨rfl, rfl, rfl, by decide +kernel, rfl, by decide +kernel, by decide +kernel⟩
def b_mean_and_half (n : Nat) : SFn :=
    (sSeq (sSet 2 (eBin dAdd (eBin dAdd (eBin dMul (eBin dIx (eSeq 0) (eC (.int 0))) (eBin dIx (eSeq 1) (eC (.int 1)))) (eBin dMul (eBin dIx (eSeq 1) (eC (.int 0))) (eBin dIx (eSeq 0) (eC (.int 1))))) (eBin dMul (eBin dIx (eSeq 0) (eC (.int 1))) (eBin dIx (eSeq 1) (eC (.int 1))))))
    (sRet (eCall (b_plain n) 0 (gS (eVar 2) (gS (eBin dMul (eBin dMul (eC (.int 2)) (eBin dIx (eSeq 0) (eC (.int 1)))) (eBin dIx (eSeq 1) (eC (.int 1)))) gNil)))))
theorem bi_mean_and_half (T : Txt K mg) : Binds K T.d_mean_and_half ["one", "other"] [] := T.a_mean_and_half.F.binds fun _ _ _ _ _ _ us hl => match us, hl with | [_, _], _ => rfl
theorem ok_mean_and_half (T : Txt K mg) : FnOk P w K mg base CX0 2 T.f_mean_and_half T.d_mean_and_half ["one", "other"] (spD K T.CL T.CN 2 1 b_mean_and_half) :=
  mk_ok T.a_mean_and_half.F sc_mean_and_half fun cdv A outer s H E hr n =>
    (dss_cons (ds_set 2 (de_add (DEs.w (de_add (DEs.w (de_mul (DEs.w (de_ix (de_seq 0) (DEs.w de_int))) (DEs.w (de_ix (de_seq 1) (DEs.w de_int))))) (DEs.w (de_mul (DEs.w (de_ix (de_seq 1) (DEs.w de_int))) (DEs.w (de_ix (de_seq 0) (DEs.w de_int))))))) (DEs.w (de_mul (DEs.w (de_ix (de_seq 0) (DEs.w de_int))) (DEs.w (de_ix (de_seq 1) (DEs.w de_int)))))) sc_mean_and_half.nd)
    (dss_one (ds_ret (de_call n (ok_plain T) (hr.mono (by decide)) T.a_plain.g T.a_plain.F.kp (bi_plain T) pass0 (dg_s (de_var 2) (dg_s (de_mul (DEs.w (de_mul (DEs.w de_int) (DEs.w (de_ix (de_seq 0) (DEs.w de_int))))) (DEs.w (de_ix (de_seq 1) (DEs.w de_int)))) dg_nil))))))
abbrev s_hour_behind : Stmt := topS 6
abbrev N_hour_behind : List Str := ["one"]
theorem sc_hour_behind : FnScope N_hour_behind ["one"] (defScope s_hour_behind) := ⟨rfl, rfl, rfl, by decide +kernel, rfl, by decide +kernel, by decide +kernel⟩
def b_hour_behind (n : Nat) : SFn :=
    (sRet (eTup (evs [(eBin dAdd (eBin dIx (eSeq 0) (eC (.int 0))) (eBin dIx (eSeq 0) (eC (.int 1)))), (eBin dIx (eSeq 0) (eC (.int 1)))])))
theorem bi_hour_behind (T : Txt K mg) : Binds K T.d_hour_behind ["one"] [] := T.a_hour_behind.F.binds fun _ _ _ _ _ _ us hl => match us, hl with | [_], _ => rfl
theorem ok_hour_behind (T : Txt K mg) : FnOk P w K mg base CX0 1 T.f_hour_behind T.d_hour_behind ["one"] (spD K T.CL T.CN 1 0 b_hour_behind) :=
  mk_ok T.a_hour_behind.F sc_hour_behind fun cdv A outer s H E hr n =>
    (dss_one (ds_ret (de_tup (da_cons (de_add (DEs.w (de_ix (de_seq 0) (DEs.w de_int))) (DEs.w (de_ix (de_seq 0) (DEs.w de_int)))) (da_cons (de_ix (de_seq 0) (DEs.w de_int)) da_nil)))))
abbrev s_earlier : Stmt := topS 7
abbrev N_earlier : List Str := ["one", "other"]
theorem sc_earlier : FnScope N_earlier ["one", "other"] (defScope s_earlier) := ⟨rfl, rfl, rfl, by decide +kernel, rfl, by decide +kernel, by decide +kernel⟩
def b_earlier (n : Nat) : SFn :=
    (sRet (eBin dLt (eBin dMul (eBin dIx (eSeq 0) (eC (.int 0))) (eBin dIx (eSeq 1) (eC (.int 1)))) (eBin dMul (eBin dIx (eSeq 1) (eC (.int 0))) (eBin dIx (eSeq 0) (eC (.int 1))))))
theorem bi_earlier (T : Txt K mg) : Binds K T.d_earlier ["one", "other"] [] := T.a_earlier.F.binds fun _ _ _ _ _ _ us hl => match us, hl with | [_, _], _ => rfl
theorem ok_earlier (T : Txt K mg) : FnOk P w K mg base CX0 1 T.f_earlier T.d_earlier ["one", "other"] (spD K T.CL T.CN 2 0 b_earlier) :=
  mk_ok T.a_earlier.F sc_earlier fun cdv A outer s H E hr n =>
    (dss_one (ds_ret (de_cmp op_lt vok_lt (DEs.w (de_mul (DEs.w (de_ix (de_seq 0) (DEs.w de_int))) (DEs.w (de_ix (de_seq 1) (DEs.w de_int))))) (DEs.w (de_mul (DEs.w (de_ix (de_seq 1) (DEs.w de_int))) (DEs.w (de_ix (de_seq 0) (DEs.w de_int))))) (nomark _))))
abbrev s_between : Stmt := topS 8
abbrev N_between : List Str := ["one", "other"]
theorem sc_between : FnScope N_between ["one", "other"] (defScope s_between) := ⟨rfl, rfl, rfl, by decide +kernel, rfl, by decide +kernel, by decide +kernel⟩
def b_between (n : Nat) : SFn :=
    (sRet (eCall (b_plain n) 0 (gS (eUn dAbs (eBin dSub (eBin dMul (eBin dIx (eSeq 0) (eC (.int 0))) (eBin dIx (eSeq 1) (eC (.int 1)))) (eBin dMul (eBin dIx (eSeq 1) (eC (.int 0))) (eBin dIx (eSeq 0) (eC (.int 1)))))) (gS (eBin dMul (eBin dIx (eSeq 0) (eC (.int 1))) (eBin dIx (eSeq 1) (eC (.int 1)))) gNil))))
theorem bi_between (T : Txt K mg) : Binds K T.d_between ["one", "other"] [] := T.a_between.F.binds fun _ _ _ _ _ _ us hl => match us, hl with | [_, _], _ => rfl
theorem ok_between (T : Txt K mg) : FnOk P w K mg base CX0 2 T.f_between T.d_between ["one", "other"] (spD K T.CL T.CN 2 0 b_between) :=
  mk_ok T.a_between.F sc_between fun cdv A outer s H E hr n =>
    (dss_one (ds_ret (de_call n (ok_plain T) (hr.mono (by decide)) T.a_plain.g T.a_plain.F.kp (bi_plain T) pass0 (dg_s (de_abs T.z_abs (DEs.w (de_sub (DEs.w (de_mul (DEs.w (de_ix (de_seq 0) (DEs.w de_int))) (DEs.w (de_ix (de_seq 1) (DEs.w de_int))))) (DEs.w (de_mul (DEs.w (de_ix (de_seq 1) (DEs.w de_int))) (DEs.w (de_ix (de_seq 0) (DEs.w de_int)))))))) (dg_s (de_mul (DEs.w (de_ix (de_seq 0) (DEs.w de_int))) (DEs.w (de_ix (de_seq 1) (DEs.w de_int)))) dg_nil)))))
abbrev s_moment_of : Stmt := topS 11
abbrev N_moment_of : List Str := ["found", "number"]
theorem sc_moment_of : FnScope N_moment_of ["found", "number"] (defScope s_moment_of) := ⟨rfl, rfl, rfl, by decide +kernel, rfl, by decide +kernel, by decide +kernel⟩
def b_moment_of (n : Nat) : SFn :=
    (sSeq (sIf (tOf (eBin dEq (eSeq 1) (eNeg (eC (.int 1))))) (sRet (eTup (evs [(eC (.int 0)), (eC (.int 1))]))) sNil)
    (sRet (eBin dIx (eSeq 0) (eSeq 1))))
theorem bi_moment_of (T : Txt K mg) : Binds K T.d_moment_of ["found", "number"] [] := T.a_moment_of.F.binds fun _ _ _ _ _ _ us hl => match us, hl with | [_, _], _ => rfl
theorem ok_moment_of (T : Txt K mg) : FnOk P w K mg base CX0 1 T.f_moment_of T.d_moment_of ["found", "number"] (spD K T.CL T.CN 2 0 b_moment_of) :=
  mk_ok T.a_moment_of.F sc_moment_of fun cdv A outer s H E hr n =>
    (dss_cons (ds_if (dt_cmp (op_eqD (hu64 hr)) vok_eq (de_seq 1) (DEs.w (de_neg de_int)) (nomark _)) (dss_one (ds_ret (de_tup (da_cons de_int (da_cons de_int da_nil))))) dss_nil)
    (dss_one (ds_ret (de_ix (de_seq 0) (de_seq 1)))))
abbrev s_outs : Stmt := topS 12
abbrev N_outs : List Str := ["plan", "found", "k", "first", "second"]
theorem sc_outs : FnScope N_outs ["plan"] (defScope s_outs) := ⟨rfl, rfl, rfl, by decide +kernel, rfl, by decide +kernel, by decide +kernel⟩
def c_outs_1 (n : Nat) : SFn :=
    (sSeq (sSet 3 (eCall (b_moment_of n) 0 (gW (eSeq 1) (gS (eBin dIx (eBin dIx (eSeq 0) (eSeq 2)) (eC (.int 0))) gNil))))
    (sIf (tOf (eBin dIs (eBin dIx (eBin dIx (eSeq 0) (eSeq 2)) (eC (.int 1))) (eC .none))) (sMut 1 (eCall (b_hour_behind n) 0 (gS (eVar 3) gNil)) lAppend) (sSeq (sSet 4 (eCall (b_moment_of n) 0 (gW (eSeq 1) (gS (eBin dIx (eBin dIx (eSeq 0) (eSeq 2)) (eC (.int 1))) gNil))))
    (sSeq (sIf (tNot2 (tOf (eCall (b_earlier n) 0 (gS (eCall (b_between n) 0 (gS (eVar 3) (gS (eVar 4) gNil))) (gS (eC (.tuple [.int 1, .int 1])) gNil))))) (sLate (eVar 2)) sNil)
    (sMut 1 (eCall (b_mean_and_half n) 1 (gS (eVar 3) (gS (eVar 4) gNil))) lAppend)))))
def b_outs (n : Nat) : SFn :=
    (sSeq (sSetO 1 (evs []))
    (sSeq (sFor 2 (iRg1 (eUn dLen (eSeq 0))) (c_outs_1 n))
    (sFrz 1 (sRet (eVar 1)))))
theorem bi_outs (T : Txt K mg) : Binds K T.d_outs ["plan"] [] := T.a_outs.F.binds fun _ _ _ _ _ _ us hl => match us, hl with | [_], _ => rfl
theorem ok_outs (T : Txt K mg) : FnOk P w K mg base (L2.CX P w) 3 T.f_outs T.d_outs ["plan"] (spD K T.CL T.CN 1 4 b_outs) :=
  mk_okX T.a_outs.F sc_outs fun cdv A outer s H E hr n =>
    (dss_cons (ds_setO 1 (de_lst da_nil) sc_outs.nd)
    (dss_cons (ds_for 2 (passes_of rfl) (di_range1 T.z_range (de_len T.z_len (de_seq 0))) (dss_cons (ds_set 3 (de_call n (ok_moment_of T) (hr.mono (by decide)) T.a_moment_of.g T.a_moment_of.F.kp (bi_moment_of T) pass0 (dg_w (de_seq 1) (dg_s (de_ix (DEs.w (de_ix (de_seq 0) (de_seq 2))) (DEs.w de_int)) dg_nil))) sc_outs.nd)
    (dss_one (ds_if (dt_cmp op_isN vok_is (DEs.w (de_ix (DEs.w (de_ix (de_seq 0) (de_seq 2))) (DEs.w de_int))) (DEs.w de_non) (nomark _)) (dss_one (ds_append 1 (de_call n (ok_hour_behind T) (hr.mono (by decide)) T.a_hour_behind.g T.a_hour_behind.F.kp (bi_hour_behind T) pass0 (dg_s (de_var 3) dg_nil)))) (dss_cons (ds_set 4 (de_call n (ok_moment_of T) (hr.mono (by decide)) T.a_moment_of.g T.a_moment_of.F.kp (bi_moment_of T) pass0 (dg_w (de_seq 1) (dg_s (de_ix (DEs.w (de_ix (de_seq 0) (de_seq 2))) (DEs.w de_int)) dg_nil))) sc_outs.nd)
    (dss_cons (ds_if (dt_not (dt_val (de_call n (ok_earlier T) (hr.mono (by decide)) T.a_earlier.g T.a_earlier.F.kp (bi_earlier T) pass0 (dg_s (de_call n (ok_between T) (hr.mono (by decide)) T.a_between.g T.a_between.F.kp (bi_between T) pass0 (dg_s (de_var 3) (dg_s (de_var 4) dg_nil))) (dg_s (de_gpair T.hour_g T.hour_k T.hour_c T.hour_d) dg_nil))))) (dss_one (ds_late T.late hr (takes_of rfl rfl rfl rfl) (de_var 2))) dss_nil)
    (dss_one (ds_append 1 (de_call n (ok_mean_and_half T) (hr.mono (by decide)) T.a_mean_and_half.g T.a_mean_and_half.F.kp (bi_mean_and_half T) pass0 (dg_s (de_var 3) (dg_s (de_var 4) dg_nil)))))))))) sc_outs.nd)
    (dss_one (ds_frz 1 (ds_ret (de_var 1))))))
abbrev s_l_cell_at : Stmt := topS 14
abbrev N_l_cell_at : List Str := ["script", "k"]
theorem sc_l_cell_at : FnScope N_l_cell_at ["script", "k"] (defScope s_l_cell_at) := ⟨rfl, rfl, rfl, by decide +kernel, rfl, by decide +kernel, by decide +kernel⟩
def b_l_cell_at (n : Nat) : SFn :=
    (sSeq (sIf (tOf (eBin dLt (eSeq 1) (eUn dLen (eSeq 0)))) (sRet (eBin dIx (eSeq 0) (eSeq 1))) sNil)
    (sRet (eC (.int 0))))
theorem bi_l_cell_at (T : Txt K mg) : Binds K T.d_l_cell_at ["script", "k"] [] := T.a_l_cell_at.F.binds fun _ _ _ _ _ _ us hl => match us, hl with | [_, _], _ => rfl
theorem ok_l_cell_at (T : Txt K mg) : FnOk P w K mg base CX0 1 T.f_l_cell_at T.d_l_cell_at ["script", "k"] (spD K T.CL T.CN 2 0 b_l_cell_at) :=
  mk_ok T.a_l_cell_at.F sc_l_cell_at fun cdv A outer s H E hr n =>
    (dss_cons (ds_if (dt_cmp op_lt vok_lt (de_seq 1) (DEs.w (de_len T.z_len (de_seq 0))) (nomark _)) (dss_one (ds_ret (de_ix (de_seq 0) (de_seq 1)))) dss_nil)
    (dss_one (ds_ret de_int)))
abbrev s_l_low : Stmt := topS 15
abbrev N_l_low : List Str := ["top", "bottom"]
theorem sc_l_low : FnScope N_l_low ["top", "bottom"] (defScope s_l_low) := ⟨rfl, rfl, rfl, by decide +kernel, rfl, by decide +kernel, by decide +kernel⟩
def c_l_low_1 (n : Nat) : SFn :=
    (sSeq (sSet 0 (eBin dDiv (eSeq 0) (eC (.int 2))))
    (sSet 1 (eBin dDiv (eSeq 1) (eC (.int 2)))))
def b_l_low (n : Nat) : SFn :=
    (sSeq (sWhile (tAnd2 (tOf (eBin dGt (eSeq 1) (eC (.int 1)))) (tOf (eBin dEq (eBin dMod (eSeq 0) (eC (.int 2))) (eC (.int 0))))) (c_l_low_1 n) n)
    (sRet (eTup (evs [(eVar 0), (eVar 1)]))))
theorem bi_l_low (T : Txt K mg) : Binds K T.d_l_low ["top", "bottom"] [] := T.a_l_low.F.binds fun _ _ _ _ _ _ us hl => match us, hl with | [_, _], _ => rfl
theorem ok_l_low (T : Txt K mg) : FnOk P w K mg base CX0 1 T.f_l_low T.d_l_low ["top", "bottom"] (spD K T.CL T.CN 2 0 b_l_low) :=
  mk_ok T.a_l_low.F sc_l_low fun cdv A outer s H E hr n =>
    (dss_cons (ds_while n PassesOwn.never (dt_w (dw_and (dt_cmp op_gt vok_gt (de_seq 1) (DEs.w de_int) (nomark _)) (dw_and1 (dt_cmp (op_eqD (hu64 hr)) vok_eq (DEs.w (de_mod (de_seq 0) (DEs.w de_int))) (DEs.w de_int) (nomark _))))) (dss_cons (ds_set 0 (de_div (de_seq 0) (DEs.w de_int)) sc_l_low.nd)
    (dss_one (ds_set 1 (de_div (de_seq 1) (DEs.w de_int)) sc_l_low.nd))))
    (dss_one (ds_ret (de_tup (da_cons (de_var 0) (da_cons (de_var 1) da_nil))))))
abbrev s_l_sum : Stmt := topS 16
abbrev N_l_sum : List Str := ["one", "other"]
theorem sc_l_sum : FnScope N_l_sum ["one", "other"] (defScope s_l_sum) := ⟨rfl, rfl, rfl, by decide +kernel, rfl, by decide +kernel, by decide +kernel⟩
def b_l_sum (n : Nat) : SFn :=
    (sRet (eCall (b_l_low n) 0 (gS (eBin dAdd (eBin dMul (eBin dIx (eSeq 0) (eC (.int 0))) (eBin dIx (eSeq 1) (eC (.int 1)))) (eBin dMul (eBin dIx (eSeq 1) (eC (.int 0))) (eBin dIx (eSeq 0) (eC (.int 1))))) (gS (eBin dMul (eBin dIx (eSeq 0) (eC (.int 1))) (eBin dIx (eSeq 1) (eC (.int 1)))) gNil))))
theorem bi_l_sum (T : Txt K mg) : Binds K T.d_l_sum ["one", "other"] [] := T.a_l_sum.F.binds fun _ _ _ _ _ _ us hl => match us, hl with | [_, _], _ => rfl
theorem ok_l_sum (T : Txt K mg) : FnOk P w K mg base CX0 2 T.f_l_sum T.d_l_sum ["one", "other"] (spD K T.CL T.CN 2 0 b_l_sum) :=
  mk_ok T.a_l_sum.F sc_l_sum fun cdv A outer s H E hr n =>
    (dss_one (ds_ret (de_call n (ok_l_low T) (hr.mono (by decide)) T.a_l_low.g T.a_l_low.F.kp (bi_l_low T) pass0 (dg_s (de_add (DEs.w (de_mul (DEs.w (de_ix (de_seq 0) (DEs.w de_int))) (DEs.w (de_ix (de_seq 1) (DEs.w de_int))))) (DEs.w (de_mul (DEs.w (de_ix (de_seq 1) (DEs.w de_int))) (DEs.w (de_ix (de_seq 0) (DEs.w de_int)))))) (dg_s (de_mul (DEs.w (de_ix (de_seq 0) (DEs.w de_int))) (DEs.w (de_ix (de_seq 1) (DEs.w de_int)))) dg_nil)))))
abbrev s_l_less : Stmt := topS 17
abbrev N_l_less : List Str := ["one", "other"]
theorem sc_l_less : FnScope N_l_less ["one", "other"] (defScope s_l_less) := ⟨rfl, rfl, rfl, by decide +kernel, rfl, by decide +kernel, by decide +kernel⟩
def b_l_less (n : Nat) : SFn :=
    (sRet (eBin dLt (eBin dMul (eBin dIx (eSeq 0) (eC (.int 0))) (eBin dIx (eSeq 1) (eC (.int 1)))) (eBin dMul (eBin dIx (eSeq 1) (eC (.int 0))) (eBin dIx (eSeq 0) (eC (.int 1))))))
theorem bi_l_less (T : Txt K mg) : Binds K T.d_l_less ["one", "other"] [] := T.a_l_less.F.binds fun _ _ _ _ _ _ us hl => match us, hl with | [_, _], _ => rfl
theorem ok_l_less (T : Txt K mg) : FnOk P w K mg base CX0 1 T.f_l_less T.d_l_less ["one", "other"] (spD K T.CL T.CN 2 0 b_l_less) :=
  mk_ok T.a_l_less.F sc_l_less fun cdv A outer s H E hr n =>
    (dss_one (ds_ret (de_cmp op_lt vok_lt (DEs.w (de_mul (DEs.w (de_ix (de_seq 0) (DEs.w de_int))) (DEs.w (de_ix (de_seq 1) (DEs.w de_int))))) (DEs.w (de_mul (DEs.w (de_ix (de_seq 1) (DEs.w de_int))) (DEs.w (de_ix (de_seq 0) (DEs.w de_int))))) (nomark _))))
abbrev s_l_gap : Stmt := topS 18
abbrev N_l_gap : List Str := ["one", "other"]
theorem sc_l_gap : FnScope N_l_gap ["one", "other"] (defScope s_l_gap) := ⟨rfl, rfl, rfl, by decide +kernel, rfl, by decide +kernel, by decide +kernel⟩
def b_l_gap (n : Nat) : SFn :=
    (sSeq (sIf (tOf (eCall (b_l_less n) 0 (gS (eVar 0) (gS (eVar 1) gNil)))) (sRet (eCall (b_l_low n) 0 (gS (eBin dSub (eBin dMul (eBin dIx (eSeq 1) (eC (.int 0))) (eBin dIx (eSeq 0) (eC (.int 1)))) (eBin dMul (eBin dIx (eSeq 0) (eC (.int 0))) (eBin dIx (eSeq 1) (eC (.int 1))))) (gS (eBin dMul (eBin dIx (eSeq 0) (eC (.int 1))) (eBin dIx (eSeq 1) (eC (.int 1)))) gNil)))) sNil)
    (sRet (eCall (b_l_low n) 0 (gS (eBin dSub (eBin dMul (eBin dIx (eSeq 0) (eC (.int 0))) (eBin dIx (eSeq 1) (eC (.int 1)))) (eBin dMul (eBin dIx (eSeq 1) (eC (.int 0))) (eBin dIx (eSeq 0) (eC (.int 1))))) (gS (eBin dMul (eBin dIx (eSeq 0) (eC (.int 1))) (eBin dIx (eSeq 1) (eC (.int 1)))) gNil)))))
theorem bi_l_gap (T : Txt K mg) : Binds K T.d_l_gap ["one", "other"] [] := T.a_l_gap.F.binds fun _ _ _ _ _ _ us hl => match us, hl with | [_, _], _ => rfl
theorem ok_l_gap (T : Txt K mg) : FnOk P w K mg base CX0 2 T.f_l_gap T.d_l_gap ["one", "other"] (spD K T.CL T.CN 2 0 b_l_gap) :=
  mk_ok T.a_l_gap.F sc_l_gap fun cdv A outer s H E hr n =>
    (dss_cons (ds_if (dt_val (de_call n (ok_l_less T) (hr.mono (by decide)) T.a_l_less.g T.a_l_less.F.kp (bi_l_less T) pass0 (dg_s (de_var 0) (dg_s (de_var 1) dg_nil)))) (dss_one (ds_ret (de_call n (ok_l_low T) (hr.mono (by decide)) T.a_l_low.g T.a_l_low.F.kp (bi_l_low T) pass0 (dg_s (de_sub (DEs.w (de_mul (DEs.w (de_ix (de_seq 1) (DEs.w de_int))) (DEs.w (de_ix (de_seq 0) (DEs.w de_int))))) (DEs.w (de_mul (DEs.w (de_ix (de_seq 0) (DEs.w de_int))) (DEs.w (de_ix (de_seq 1) (DEs.w de_int)))))) (dg_s (de_mul (DEs.w (de_ix (de_seq 0) (DEs.w de_int))) (DEs.w (de_ix (de_seq 1) (DEs.w de_int)))) dg_nil))))) dss_nil)
    (dss_one (ds_ret (de_call n (ok_l_low T) (hr.mono (by decide)) T.a_l_low.g T.a_l_low.F.kp (bi_l_low T) pass0 (dg_s (de_sub (DEs.w (de_mul (DEs.w (de_ix (de_seq 0) (DEs.w de_int))) (DEs.w (de_ix (de_seq 1) (DEs.w de_int))))) (DEs.w (de_mul (DEs.w (de_ix (de_seq 1) (DEs.w de_int))) (DEs.w (de_ix (de_seq 0) (DEs.w de_int)))))) (dg_s (de_mul (DEs.w (de_ix (de_seq 0) (DEs.w de_int))) (DEs.w (de_ix (de_seq 1) (DEs.w de_int)))) dg_nil))))))
abbrev s_l_fraction : Stmt := topS 19
abbrev N_l_fraction : List Str := ["found", "due", "part"]
theorem sc_l_fraction : FnScope N_l_fraction ["found", "due"] (defScope s_l_fraction) := ⟨rfl, rfl, rfl, by decide +kernel, rfl, by decide +kernel, by decide +kernel⟩
def c_l_fraction_1 (n : Nat) : SFn :=
    (sIf (tOr2 (tOf (eUn (dIsi "bool") (eSeq 2))) (tNot2 (tOf (eUn (dIsi "int") (eSeq 2))))) (sRet (eC (.bool false))) sNil)
def b_l_fraction (n : Nat) : SFn :=
    (sSeq (sIf (tOr2 (tNot2 (tOf (eUn (dIsi "tuple") (eSeq 0)))) (tOf (eBin dNe (eUn dLen (eSeq 0)) (eC (.int 2))))) (sRet (eC (.bool false))) sNil)
    (sSeq (sFor 2 (iTpl (eVar 0)) (c_l_fraction_1 n))
    (sRet (eBin dEq (eSeq 0) (eSeq 1)))))
theorem bi_l_fraction (T : Txt K mg) : Binds K T.d_l_fraction ["found", "due"] [] := T.a_l_fraction.F.binds fun _ _ _ _ _ _ us hl => match us, hl with | [_, _], _ => rfl
theorem ok_l_fraction (T : Txt K mg) : FnOk P w K mg base CX0 1 T.f_l_fraction T.d_l_fraction ["found", "due"] (spD K T.CL T.CN 2 1 b_l_fraction) :=
  mk_ok T.a_l_fraction.F sc_l_fraction fun cdv A outer s H E hr n =>
    (dss_cons (ds_if (dt_w (dw_or (dt_not (dt_val (de_isi T.z_isinstance T.z_tuple (by decide +kernel) (de_seq 0)))) (dw_or1 (dt_cmp (op_neD (hu64 hr)) vok_ne (DEs.w (de_len T.z_len (de_seq 0))) (DEs.w de_int) (nomark _))))) (dss_one (ds_ret de_bl)) dss_nil)
    (dss_cons (ds_for 2 PassesOwn.never (di_tup (de_var 0)) (dss_one (ds_if (dt_w (dw_or (dt_val (de_isi T.z_isinstance T.z_bool (by decide +kernel) (de_seq 2))) (dw_or1 (dt_not (dt_val (de_isi T.z_isinstance T.z_int (by decide +kernel) (de_seq 2))))))) (dss_one (ds_ret de_bl)) dss_nil)) sc_l_fraction.nd)
    (dss_one (ds_ret (de_cmp (op_eqD (hu64 hr)) vok_eq (de_seq 0) (de_seq 1) (nomark _))))))
abbrev s_l_fractions : Stmt := topS 20
abbrev N_l_fractions : List Str := ["found", "due", "k"]
theorem sc_l_fractions : FnScope N_l_fractions ["found", "due"] (defScope s_l_fractions) := ⟨rfl, rfl, rfl, by decide +kernel, rfl, by decide +kernel, by decide +kernel⟩
def c_l_fractions_1 (n : Nat) : SFn :=
    (sIf (tNot2 (tOf (eCall (b_l_fraction n) 1 (gS (eBin dIx (eSeq 0) (eSeq 2)) (gS (eBin dIx (eSeq 1) (eSeq 2)) gNil))))) (sRet (eC (.bool false))) sNil)
def b_l_fractions (n : Nat) : SFn :=
    (sSeq (sIf (tOr2 (tNot2 (tOf (eUn (dIsi "list") (eSeq 0)))) (tOf (eBin dNe (eUn dLen (eSeq 0)) (eUn dLen (eSeq 1))))) (sRet (eC (.bool false))) sNil)
    (sSeq (sFor 2 (iRg1 (eUn dLen (eSeq 1))) (c_l_fractions_1 n))
    (sRet (eC (.bool true)))))
theorem bi_l_fractions (T : Txt K mg) : Binds K T.d_l_fractions ["found", "due"] [] := T.a_l_fractions.F.binds fun _ _ _ _ _ _ us hl => match us, hl with | [_, _], _ => rfl
theorem ok_l_fractions (T : Txt K mg) : FnOk P w K mg base CX0 2 T.f_l_fractions T.d_l_fractions ["found", "due"] (spD K T.CL T.CN 2 1 b_l_fractions) :=
  mk_ok T.a_l_fractions.F sc_l_fractions fun cdv A outer s H E hr n =>
    (dss_cons (ds_if (dt_w (dw_or (dt_not (dt_val (de_isi T.z_isinstance T.z_list (by decide +kernel) (de_seq 0)))) (dw_or1 (dt_cmp (op_neD (hu64 hr)) vok_ne (DEs.w (de_len T.z_len (de_seq 0))) (DEs.w (de_len T.z_len (de_seq 1))) (nomark _))))) (dss_one (ds_ret de_bl)) dss_nil)
    (dss_cons (ds_for 2 PassesOwn.never (di_range1 T.z_range (de_len T.z_len (de_seq 1))) (dss_one (ds_if (dt_not (dt_val (de_call n (ok_l_fraction T) (hr.mono (by decide)) T.a_l_fraction.g T.a_l_fraction.F.kp (bi_l_fraction T) pass0 (dg_s (de_ix (de_seq 0) (de_seq 2)) (dg_s (de_ix (de_seq 1) (de_seq 2)) dg_nil))))) (dss_one (ds_ret de_bl)) dss_nil)) sc_l_fractions.nd)
    (dss_one (ds_ret de_bl))))
abbrev s_l_plan : Stmt := topS 21
abbrev N_l_plan : List Str := ["script", "start", "many", "plan", "k", "one", "cell"]
theorem sc_l_plan : FnScope N_l_plan ["script", "start", "many"] (defScope s_l_plan) := ⟨rfl, rfl, rfl, by decide +kernel, rfl, by decide +kernel, by decide +kernel⟩
def c_l_plan_1 (n : Nat) : SFn :=
    (sSeq (sSet 5 (eBin dSub (eBin dMod (eCall (b_l_cell_at n) 0 (gW (eSeq 0) (gS (eBin dAdd (eSeq 1) (eBin dMul (eC (.int 2)) (eSeq 4))) gNil))) (eBin dAdd (eSeq 4) (eC (.int 1)))) (eC (.int 1))))
    (sSeq (sSet 6 (eCall (b_l_cell_at n) 0 (gW (eSeq 0) (gS (eBin dAdd (eBin dAdd (eSeq 1) (eBin dMul (eC (.int 2)) (eSeq 4))) (eC (.int 1))) gNil))))
    (sIf (tOf (eBin dEq (eBin dMod (eSeq 6) (eC (.int 4))) (eC (.int 3)))) (sMut 3 (eTup (evs [(eVar 5), (eC .none)])) lAppend) (sIf (tOf (eBin dEq (eBin dMod (eSeq 6) (eC (.int 4))) (eC (.int 2)))) (sMut 3 (eTup (evs [(eVar 5), (eVar 5)])) lAppend) (sMut 3 (eTup (evs [(eVar 5), (eBin dAdd (eSeq 5) (eBin dMod (eBin dDiv (eSeq 6) (eC (.int 4))) (eBin dSub (eSeq 4) (eSeq 5))))])) lAppend)))))
def b_l_plan (n : Nat) : SFn :=
    (sSeq (sSetO 3 (evs []))
    (sSeq (sFor 4 (iRg1 (eVar 2)) (c_l_plan_1 n))
    (sFrz 3 (sRet (eVar 3)))))
theorem bi_l_plan (T : Txt K mg) : Binds K T.d_l_plan ["script", "start", "many"] [] := T.a_l_plan.F.binds fun _ _ _ _ _ _ us hl => match us, hl with | [_, _, _], _ => rfl
theorem ok_l_plan (T : Txt K mg) : FnOk P w K mg base CX0 2 T.f_l_plan T.d_l_plan ["script", "start", "many"] (spD K T.CL T.CN 3 4 b_l_plan) :=
  mk_ok T.a_l_plan.F sc_l_plan fun cdv A outer s H E hr n =>
    (dss_cons (ds_setO 3 (de_lst da_nil) sc_l_plan.nd)
    (dss_cons (ds_for 4 PassesOwn.never (di_range1 T.z_range (de_var 2)) (dss_cons (ds_set 5 (de_sub (DEs.w (de_mod (DEs.w (de_call n (ok_l_cell_at T) (hr.mono (by decide)) T.a_l_cell_at.g T.a_l_cell_at.F.kp (bi_l_cell_at T) pass0 (dg_w (de_seq 0) (dg_s (de_add (de_seq 1) (DEs.w (de_mul (DEs.w de_int) (de_seq 4)))) dg_nil)))) (DEs.w (de_add (de_seq 4) (DEs.w de_int))))) (DEs.w de_int)) sc_l_plan.nd)
    (dss_cons (ds_set 6 (de_call n (ok_l_cell_at T) (hr.mono (by decide)) T.a_l_cell_at.g T.a_l_cell_at.F.kp (bi_l_cell_at T) pass0 (dg_w (de_seq 0) (dg_s (de_add (DEs.w (de_add (de_seq 1) (DEs.w (de_mul (DEs.w de_int) (de_seq 4))))) (DEs.w de_int)) dg_nil))) sc_l_plan.nd)
    (dss_one (ds_if (dt_cmp (op_eqD (hu64 hr)) vok_eq (DEs.w (de_mod (de_seq 6) (DEs.w de_int))) (DEs.w de_int) (nomark _)) (dss_one (ds_append 3 (de_tup (da_cons (de_var 5) (da_cons de_non da_nil))))) (dss_one (ds_if (dt_cmp (op_eqD (hu64 hr)) vok_eq (DEs.w (de_mod (de_seq 6) (DEs.w de_int))) (DEs.w de_int) (nomark _)) (dss_one (ds_append 3 (de_tup (da_cons (de_var 5) (da_cons (de_var 5) da_nil))))) (dss_one (ds_append 3 (de_tup (da_cons (de_var 5) (da_cons (de_add (de_seq 5) (DEs.w (de_mod (DEs.w (de_div (de_seq 6) (DEs.w de_int))) (DEs.w (de_sub (de_seq 4) (de_seq 5)))))) da_nil))))))))))) sc_l_plan.nd)
    (dss_one (ds_frz 3 (ds_ret (de_var 3))))))
abbrev s_l_lit_now : Stmt := topS 22
abbrev N_l_lit_now : List Str := ["plan", "gone", "fires", "rope", "count", "number"]
theorem sc_l_lit_now : FnScope N_l_lit_now ["plan", "gone"] (defScope s_l_lit_now) := ⟨rfl, rfl, rfl, by decide +kernel, rfl, by decide +kernel, by decide +kernel⟩
def c_l_lit_now_1 (n : Nat) : SFn :=
    (sIf (tAnd2 (tOf (eBin dIsNot (eSeq 5) (eC .none))) (tOr2 (tOf (eBin dEq (eSeq 5) (eNeg (eC (.int 1))))) (tOf (eBin dIsNot (eBin dIx (eSeq 1) (eSeq 5)) (eC .none))))) (sSet 4 (eBin dAdd (eSeq 4) (eC (.int 1)))) sNil)
def c_l_lit_now_2 (n : Nat) : SFn :=
    (sSeq (sSet 4 (eC (.int 0)))
    (sSeq (sFor 5 (iTpl (eVar 3)) (c_l_lit_now_1 n))
    (sMut 2 (eVar 4) lAppend)))
def b_l_lit_now (n : Nat) : SFn :=
    (sSeq (sSetO 2 (evs []))
    (sSeq (sFor 3 (iLst (eVar 0)) (c_l_lit_now_2 n))
    (sFrz 2 (sRet (eVar 2)))))
theorem bi_l_lit_now (T : Txt K mg) : Binds K T.d_l_lit_now ["plan", "gone"] [] := T.a_l_lit_now.F.binds fun _ _ _ _ _ _ us hl => match us, hl with | [_, _], _ => rfl
theorem ok_l_lit_now (T : Txt K mg) : FnOk P w K mg base CX0 1 T.f_l_lit_now T.d_l_lit_now ["plan", "gone"] (spD K T.CL T.CN 2 4 b_l_lit_now) :=
  mk_ok T.a_l_lit_now.F sc_l_lit_now fun cdv A outer s H E hr n =>
    (dss_cons (ds_setO 2 (de_lst da_nil) sc_l_lit_now.nd)
    (dss_cons (ds_for 3 PassesOwn.never (di_list (de_var 0)) (dss_cons (ds_set 4 de_int sc_l_lit_now.nd)
    (dss_cons (ds_for 5 PassesOwn.never (di_tup (de_var 3)) (dss_one (ds_if (dt_w (dw_and (dt_cmp op_notN vok_isnot (de_seq 5) (DEs.w de_non) (nomark _)) (dw_and1 (dt_w (dw_or (dt_cmp (op_eqD (hu64 hr)) vok_eq (de_seq 5) (DEs.w (de_neg de_int)) (nomark _)) (dw_or1 (dt_cmp op_notN vok_isnot (DEs.w (de_ix (de_seq 1) (de_seq 5))) (DEs.w de_non) (nomark _)))))))) (dss_one (ds_set 4 (de_add (de_seq 4) (DEs.w de_int)) sc_l_lit_now.nd)) dss_nil)) sc_l_lit_now.nd)
    (dss_one (ds_append 2 (de_var 4))))) sc_l_lit_now.nd)
    (dss_one (ds_frz 2 (ds_ret (de_var 2))))))
abbrev s_l_next : Stmt := topS 23
abbrev N_l_next : List Str := ["rest", "fires", "gone", "best", "k", "time"]
theorem sc_l_next : FnScope N_l_next ["rest", "fires", "gone"] (defScope s_l_next) := ⟨rfl, rfl, rfl, by decide +kernel, rfl, by decide +kernel, by decide +kernel⟩
def c_l_next_1 (n : Nat) : SFn :=
    (sIf (tAnd2 (tOf (eBin dGt (eBin dIx (eSeq 1) (eSeq 4)) (eC (.int 0)))) (tOf (eBin dIs (eBin dIx (eSeq 2) (eSeq 4)) (eC .none)))) (sSeq (sSet 5 (eCall (b_l_low n) 0 (gS (eBin dIx (eBin dIx (eSeq 0) (eSeq 4)) (eC (.int 0))) (gS (eBin dMul (eBin dIx (eBin dIx (eSeq 0) (eSeq 4)) (eC (.int 1))) (eBin dIx (eSeq 1) (eSeq 4))) gNil))))
    (sIf (tOr2 (tOf (eBin dIs (eSeq 3) (eC .none))) (tOf (eCall (b_l_less n) 0 (gS (eVar 5) (gS (eVar 3) gNil))))) (sSet 3 (eVar 5)) sNil)) sNil)
def b_l_next (n : Nat) : SFn :=
    (sSeq (sSet 3 (eC .none))
    (sSeq (sFor 4 (iRg1 (eUn dLen (eSeq 0))) (c_l_next_1 n))
    (sRet (eVar 3))))
theorem bi_l_next (T : Txt K mg) : Binds K T.d_l_next ["rest", "fires", "gone"] [] := T.a_l_next.F.binds fun _ _ _ _ _ _ us hl => match us, hl with | [_, _, _], _ => rfl
theorem ok_l_next (T : Txt K mg) : FnOk P w K mg base CX0 2 T.f_l_next T.d_l_next ["rest", "fires", "gone"] (spD K T.CL T.CN 3 3 b_l_next) :=
  mk_ok T.a_l_next.F sc_l_next fun cdv A outer s H E hr n =>
    (dss_cons (ds_set 3 de_non sc_l_next.nd)
    (dss_cons (ds_for 4 PassesOwn.never (di_range1 T.z_range (de_len T.z_len (de_seq 0))) (dss_one (ds_if (dt_w (dw_and (dt_cmp op_gt vok_gt (DEs.w (de_ix (de_seq 1) (de_seq 4))) (DEs.w de_int) (nomark _)) (dw_and1 (dt_cmp op_isN vok_is (DEs.w (de_ix (de_seq 2) (de_seq 4))) (DEs.w de_non) (nomark _))))) (dss_cons (ds_set 5 (de_call n (ok_l_low T) (hr.mono (by decide)) T.a_l_low.g T.a_l_low.F.kp (bi_l_low T) pass0 (dg_s (de_ix (DEs.w (de_ix (de_seq 0) (de_seq 4))) (DEs.w de_int)) (dg_s (de_mul (DEs.w (de_ix (DEs.w (de_ix (de_seq 0) (de_seq 4))) (DEs.w de_int))) (DEs.w (de_ix (de_seq 1) (de_seq 4)))) dg_nil))) sc_l_next.nd)
    (dss_one (ds_if (dt_w (dw_or (dt_cmp op_isN vok_is (de_seq 3) (DEs.w de_non) (nomark _)) (dw_or1 (dt_val (de_call n (ok_l_less T) (hr.mono (by decide)) T.a_l_less.g T.a_l_less.F.kp (bi_l_less T) pass0 (dg_s (de_var 5) (dg_s (de_var 3) dg_nil))))))) (dss_one (ds_set 3 (de_var 5) sc_l_next.nd)) dss_nil))) dss_nil)) sc_l_next.nd)
    (dss_one (ds_ret (de_var 3)))))
abbrev s_l_on : Stmt := topS 24
abbrev N_l_on : List Str := ["rest", "fires", "gone", "step", "k", "eaten"]
theorem sc_l_on : FnScope N_l_on ["rest", "fires", "gone", "step"] (defScope s_l_on) := ⟨rfl, rfl, rfl, by decide +kernel, rfl, by decide +kernel, by decide +kernel⟩
def c_l_on_1 (n : Nat) : SFn :=
    (sIf (tAnd2 (tOf (eBin dGt (eBin dIx (eSeq 1) (eSeq 4)) (eC (.int 0)))) (tOf (eBin dIs (eBin dIx (eSeq 2) (eSeq 4)) (eC .none)))) (sSeq (sSet 5 (eCall (b_l_low n) 0 (gS (eBin dMul (eBin dIx (eSeq 3) (eC (.int 0))) (eBin dIx (eSeq 1) (eSeq 4))) (gS (eBin dIx (eSeq 3) (eC (.int 1))) gNil))))
    (sPutP 0 (eVar 4) (eCall (b_l_gap n) 0 (gS (eVar 5) (gS (eBin dIx (eSeq 0) (eSeq 4)) gNil))))) sNil)
def b_l_on (n : Nat) : SFn :=
    (sFor 4 (iRg1 (eUn dLen (eSeq 0))) (c_l_on_1 n))
theorem bi_l_on (T : Txt K mg) : Binds K T.d_l_on ["rest", "fires", "gone", "step"] [] := T.a_l_on.F.binds fun _ _ _ _ _ _ us hl => match us, hl with | [_, _, _, _], _ => rfl
theorem ok_l_on (T : Txt K mg) : FnOk P w K mg base CX0 3 T.f_l_on T.d_l_on ["rest", "fires", "gone", "step"] (spM K 4 2 b_l_on) :=
  mk_okM T.a_l_on.F sc_l_on fun cdv A outer s H E hr n =>
    (dss_one (ds_for 4 PassesOwn.never (di_range1 T.z_range (de_len T.z_len (de_seq 0))) (dss_one (ds_if (dt_w (dw_and (dt_cmp op_gt vok_gt (DEs.w (de_ix (de_seq 1) (de_seq 4))) (DEs.w de_int) (nomark _)) (dw_and1 (dt_cmp op_isN vok_is (DEs.w (de_ix (de_seq 2) (de_seq 4))) (DEs.w de_non) (nomark _))))) (dss_cons (ds_set 5 (de_call n (ok_l_low T) (hr.mono (by decide)) T.a_l_low.g T.a_l_low.F.kp (bi_l_low T) pass0 (dg_s (de_mul (DEs.w (de_ix (de_seq 3) (DEs.w de_int))) (DEs.w (de_ix (de_seq 1) (de_seq 4)))) (dg_s (de_ix (de_seq 3) (DEs.w de_int)) dg_nil))) sc_l_on.nd)
    (dss_one (ds_putP 0 (de_var 4) (de_call n (ok_l_gap T) (hr.mono (by decide)) T.a_l_gap.g T.a_l_gap.F.kp (bi_l_gap T) pass0 (dg_s (de_var 5) (dg_s (de_ix (de_seq 0) (de_seq 4)) dg_nil)))))) dss_nil)) sc_l_on.nd))
abbrev s_l_late : Stmt := topS 25
abbrev N_l_late : List Str := ["plan", "gone", "k", "second", "times", "time", "number"]
theorem sc_l_late : FnScope N_l_late ["plan", "gone"] (defScope s_l_late) := ⟨rfl, rfl, rfl, by decide +kernel, rfl, by decide +kernel, by decide +kernel⟩
def c_l_late_1 (n : Nat) : SFn :=
    (sIf (tAnd2 (tOf (eBin dEq (eUn dLen (eSeq 4)) (eC (.int 2)))) (tNot2 (tOf (eCall (b_l_less n) 0 (gS (eVar 5) (gS (eBin dIx (eSeq 1) (eSeq 2)) gNil)))))) (sRet (eVar 2)) sNil)
def c_l_late_2 (n : Nat) : SFn :=
    (sSeq (sSetO 3 (oComp 6 (iTpl (eBin dIx (eSeq 0) (eSeq 2))) (tOf (eBin dIsNot (eSeq 6) (eC .none))) (eVar 6)))
    (sSeq (sSetO 4 (oComp 6 (iOw 3) tTrue (eIf (tOf (eBin dEq (eSeq 6) (eNeg (eC (.int 1))))) (eTup (evs [(eC (.int 0)), (eC (.int 1))])) (eBin dIx (eSeq 1) (eSeq 6)))))
    (sFrz 4 (sFor 5 (iLst (eVar 4)) (c_l_late_1 n)))))
def b_l_late (n : Nat) : SFn :=
    (sSeq (sFor 2 (iRg1 (eUn dLen (eSeq 0))) (c_l_late_2 n))
    (sRet (eC .none)))
theorem bi_l_late (T : Txt K mg) : Binds K T.d_l_late ["plan", "gone"] [] := T.a_l_late.F.binds fun _ _ _ _ _ _ us hl => match us, hl with | [_, _], _ => rfl
theorem ok_l_late (T : Txt K mg) : FnOk P w K mg base CX0 2 T.f_l_late T.d_l_late ["plan", "gone"] (spD K T.CL T.CN 2 5 b_l_late) :=
  mk_ok T.a_l_late.F sc_l_late fun cdv A outer s H E hr n =>
    (dss_cons (ds_for 2 PassesOwn.never (di_range1 T.z_range (de_len T.z_len (de_seq 0))) (dss_cons (ds_setLc1 6 3 (DI.j (di_tup (de_ix (de_seq 0) (de_seq 2)))) (blkOk_by (N := N_l_late) (sc := defScope s_l_late) (by decide +kernel)) sc_l_late.nd (fun _ _ _ _ _ => (dt_cmp op_notN vok_isnot (de_seq 6) (DEs.w de_non) (nomark _))) (fun _ _ _ _ _ => (de_var 6)) (fun _ _ _ _ _ => pg_name (i := 6) sc_l_late.nd rfl (Or.inl rfl)) (sw_true rfl rfl rfl (by decide +kernel)))
    (dss_cons (ds_setLc0 6 4 (dj_ow 3) (blkOk_by (N := N_l_late) (sc := defScope s_l_late) (by decide +kernel)) sc_l_late.nd (fun _ _ _ _ _ => (de_if (dt_cmp (op_eqD (hu64 hr)) vok_eq (de_seq 6) (DEs.w (de_neg de_int)) (nomark _)) (de_tup (da_cons de_int (da_cons de_int da_nil))) (de_ix (de_seq 1) (de_seq 6)))) (fun _ _ _ _ _ => pg_name (i := 6) sc_l_late.nd rfl (Or.inl rfl)) (sw_true rfl rfl rfl (by decide +kernel)))
    (dss_one (ds_frz 4 (ds_for 5 PassesOwn.never (di_list (de_var 4)) (dss_one (ds_if (dt_w (dw_and (dt_cmp (op_eqD (hu64 hr)) vok_eq (DEs.w (de_len T.z_len (de_seq 4))) (DEs.w de_int) (nomark _)) (dw_and1 (dt_not (dt_val (de_call n (ok_l_less T) (hr.mono (by decide)) T.a_l_less.g T.a_l_less.F.kp (bi_l_less T) pass0 (dg_s (de_var 5) (dg_s (de_ix (de_seq 1) (de_seq 2)) dg_nil)))))))) (dss_one (ds_ret (de_var 2))) dss_nil)) sc_l_late.nd))))) sc_l_late.nd)
    (dss_one (ds_ret de_non)))
abbrev s_l_walked : Stmt := topS 26
abbrev N_l_walked : List Str := ["plan", "rest", "rope", "gone", "now", "fires", "step", "k"]
theorem sc_l_walked : FnScope N_l_walked ["plan"] (defScope s_l_walked) := ⟨rfl, rfl, rfl, by decide +kernel, rfl, by decide +kernel, by decide +kernel⟩
noncomputable def c_l_walked_1 (n : Nat) : SFn :=
    (sIf (tAnd2 (tOf (eBin dIs (eBin dIx (eSeq 3) (eSeq 7)) (eC .none))) (tAnd2 (tOf (eBin dGt (eBin dIx (eSeq 5) (eSeq 7)) (eC (.int 0)))) (tOf (eBin dEq (eBin dIx (eBin dIx (eSeq 1) (eSeq 7)) (eC (.int 0))) (eC (.int 0)))))) (sPut 3 (eVar 7) (eVar 4)) sNil)
noncomputable def c_l_walked_2 (n : Nat) : SFn :=
    (sSeq (sSet 5 (eCall (b_l_lit_now n) 4 (gS (eVar 0) (gW (eSeq 3) gNil))))
    (sSeq (sSet 6 (eCall (b_l_next n) 3 (gW (eSeq 1) (gS (eVar 5) (gW (eSeq 3) gNil)))))
    (sSeq (sMuCall 1 (b_l_on n) 2 (gS (eVar 5) (gW (eSeq 3) (gS (eVar 6) gNil))))
    (sSeq (sSet 4 (eCall (b_l_sum n) 0 (gS (eVar 4) (gS (eVar 6) gNil))))
    (sFor 7 (iRg1 (eUn dLen (eSeq 0))) (c_l_walked_1 n))))))
noncomputable def b_l_walked (n : Nat) : SFn :=
    (sSeq (sSetO 1 (oComp 2 (iLst (eVar 0)) tTrue (eTup (evs [(eC (.int 1)), (eC (.int 1))]))))
    (sSeq (sSetO 3 (oComp 2 (iLst (eVar 0)) tTrue (eC .none)))
    (sSeq (sSet 4 (eTup (evs [(eC (.int 0)), (eC (.int 1))])))
    (sSeq (sWhile (tOf (eBin dIn (eC .none) (eSeq 3))) (c_l_walked_2 n) n)
    (sFrz 3 (sRet (eVar 3)))))))
theorem bi_l_walked (T : Txt K mg) : Binds K T.d_l_walked ["plan"] [] := T.a_l_walked.F.binds fun _ _ _ _ _ _ us hl => match us, hl with | [_], _ => rfl
theorem ok_l_walked (T : Txt K mg) : FnOk P w K mg base CX0 4 T.f_l_walked T.d_l_walked ["plan"] (spD K T.CL T.CN 1 7 b_l_walked) :=
  mk_ok T.a_l_walked.F sc_l_walked fun cdv A outer s H E hr n =>
    (dss_cons (ds_setLc0 2 1 (DI.j (di_list (de_var 0))) (blkOk_by (N := N_l_walked) (sc := defScope s_l_walked) (by decide +kernel)) sc_l_walked.nd (fun _ _ _ _ _ => (de_tup (da_cons de_int (da_cons de_int da_nil)))) (fun _ _ _ _ _ => pg_name (i := 2) sc_l_walked.nd rfl (Or.inl rfl)) (sw_true rfl rfl rfl (by decide +kernel)))
    (dss_cons (ds_setLc0 2 3 (DI.j (di_list (de_var 0))) (blkOk_by (N := N_l_walked) (sc := defScope s_l_walked) (by decide +kernel)) sc_l_walked.nd (fun _ _ _ _ _ => de_non) (fun _ _ _ _ _ => pg_name (i := 2) sc_l_walked.nd rfl (Or.inl rfl)) (sw_true rfl rfl rfl (by decide +kernel)))
    (dss_cons (ds_set 4 (de_tup (da_cons de_int (da_cons de_int da_nil))) sc_l_walked.nd)
    (dss_cons (ds_while n PassesOwn.never (dt_cmp (op_inD (hu65 hr)) vok_in (DEs.w de_non) (de_seq 3) (by rfl)) (dss_cons (ds_set 5 (de_call n (ok_l_lit_now T) (hr.mono (by decide)) T.a_l_lit_now.g T.a_l_lit_now.F.kp (bi_l_lit_now T) pass0 (dg_s (de_var 0) (dg_w (de_seq 3) dg_nil))) sc_l_walked.nd)
    (dss_cons (ds_set 6 (de_call n (ok_l_next T) (hr.mono (by decide)) T.a_l_next.g T.a_l_next.F.kp (bi_l_next T) pass0 (dg_w (de_seq 1) (dg_s (de_var 5) (dg_w (de_seq 3) dg_nil)))) sc_l_walked.nd)
    (dss_cons (ds_mucall 1 n (ok_l_on T) (hr.mono (by decide)) T.a_l_on.g T.a_l_on.F.kp (bi_l_on T) (dm_s 1 (de_var 5) (dm_w 1 3 (by decide) (dm_s 1 (de_var 6) (dm_nil 1)))))
    (dss_cons (ds_set 4 (de_call n (ok_l_sum T) (hr.mono (by decide)) T.a_l_sum.g T.a_l_sum.F.kp (bi_l_sum T) pass0 (dg_s (de_var 4) (dg_s (de_var 6) dg_nil))) sc_l_walked.nd)
    (dss_one (ds_for 7 PassesOwn.never (di_range1 T.z_range (de_len T.z_len (de_seq 0))) (dss_one (ds_if (dt_w (dw_and (dt_cmp op_isN vok_is (DEs.w (de_ix (de_seq 3) (de_seq 7))) (DEs.w de_non) (nomark _)) (dw_and (dt_cmp op_gt vok_gt (DEs.w (de_ix (de_seq 5) (de_seq 7))) (DEs.w de_int) (nomark _)) (dw_and1 (dt_cmp (op_eqD (hu64 hr)) vok_eq (DEs.w (de_ix (DEs.w (de_ix (de_seq 1) (de_seq 7))) (DEs.w de_int))) (DEs.w de_int) (nomark _)))))) (dss_one (ds_put 3 (de_var 7) (de_var 4))) dss_nil)) sc_l_walked.nd)))))))
    (dss_one (ds_frz 3 (ds_ret (de_var 3))))))))
abbrev s_l_told : Stmt := topS 27
abbrev N_l_told : List Str := ["plan", "found", "e"]
theorem sc_l_told : FnScope N_l_told ["plan"] (defScope s_l_told) := ⟨rfl, rfl, rfl, by decide +kernel, rfl, by decide +kernel, by decide +kernel⟩
def b_l_told (n : Nat) : SFn :=
    (sSeq (sSet 1 (eC .none))
    (sSeq (sTryL 1 2 (Str.ofString "outs") (Str.ofString "late") (b_outs n) 4 (gW (eSeq 0) gNil))
    (sRet (eVar 1))))
theorem bi_l_told (T : Txt K mg) : Binds K T.d_l_told ["plan"] [] := T.a_l_told.F.binds fun _ _ _ _ _ _ us hl => match us, hl with | [_], _ => rfl
theorem ok_l_told (T : Txt K mg) : FnOk P w K mg base CX0 4 T.f_l_told T.d_l_told ["plan"] (spD K T.CL T.CN 1 2 b_l_told) :=
  mk_ok T.a_l_told.F sc_l_told fun cdv A outer s H E hr n =>
    (dss_cons (ds_set 1 de_non sc_l_told.nd)
    (dss_cons (ds_tryL 1 2 n T.late (ok_outs T) (hr.mono (by decide)) T.a_outs.g T.a_outs.F.kp (bi_outs T) (fun _ _ => (dg_w (de_seq 0) dg_nil)) sc_l_told.nd)
    (dss_one (ds_ret (de_var 1)))))
abbrev s_law : Stmt := topS 28
abbrev N_law : List Str := ["script", "plan", "gone", "late", "found"]
theorem sc_law : FnScope N_law ["script"] (defScope s_law) := ⟨rfl, rfl, rfl, by decide +kernel, rfl, by decide +kernel, by decide +kernel⟩
noncomputable def b_law (n : Nat) : SFn :=
    (sSeq (sSet 1 (eCall (b_l_plan n) 4 (gW (eSeq 0) (gS (eC (.int 1)) (gS (eBin dAdd (eC (.int 1)) (eBin dMod (eCall (b_l_cell_at n) 0 (gW (eSeq 0) (gS (eC (.int 0)) gNil))) (eC (.int 10)))) gNil)))))
    (sSeq (sSet 2 (eCall (b_l_walked n) 7 (gS (eVar 1) gNil)))
    (sSeq (sSet 3 (eCall (b_l_late n) 5 (gS (eVar 1) (gW (eSeq 2) gNil))))
    (sSeq (sSet 4 (eCall (b_l_told n) 2 (gW (lstD (oLst (eSeq 1))) gNil)))
    (sSeq (sIf (tOf (eBin dIsNot (eSeq 3) (eC .none))) (sRet (eBin dEq (eSeq 4) (eTup (evs [(eC (.str (Str.ofString "late"))), (eVar 3)])))) sNil)
    (sRet (eAnd (eBin dEq (eBin dIx (eSeq 4) (eC (.int 0))) (eC (.str (Str.ofString "outs")))) (eCall (b_l_fractions n) 1 (gW (eBin dIx (eSeq 4) (eC (.int 1))) (gW (eSeq 2) gNil))))))))))
theorem bi_law (T : Txt K mg) : Binds K T.d_law ["script"] [] := T.a_law.F.binds fun _ _ _ _ _ _ us hl => match us, hl with | [_], _ => rfl
theorem ok_law (T : Txt K mg) : FnOk P w K mg base CX0 5 T.f_law T.d_law ["script"] (spD K T.CL T.CN 1 4 b_law) :=
  mk_ok T.a_law.F sc_law fun cdv A outer s H E hr n =>
    (dss_cons (ds_set 1 (de_call n (ok_l_plan T) (hr.mono (by decide)) T.a_l_plan.g T.a_l_plan.F.kp (bi_l_plan T) pass0 (dg_w (de_seq 0) (dg_s de_int (dg_s (de_add (DEs.w de_int) (DEs.w (de_mod (DEs.w (de_call n (ok_l_cell_at T) (hr.mono (by decide)) T.a_l_cell_at.g T.a_l_cell_at.F.kp (bi_l_cell_at T) pass0 (dg_w (de_seq 0) (dg_s de_int dg_nil)))) (DEs.w de_int)))) dg_nil)))) sc_law.nd)
    (dss_cons (ds_set 2 (de_call n (ok_l_walked T) (hr.mono (by decide)) T.a_l_walked.g T.a_l_walked.F.kp (bi_l_walked T) pass0 (dg_s (de_var 1) dg_nil)) sc_law.nd)
    (dss_cons (ds_set 3 (de_call n (ok_l_late T) (hr.mono (by decide)) T.a_l_late.g T.a_l_late.F.kp (bi_l_late T) pass0 (dg_s (de_var 1) (dg_w (de_seq 2) dg_nil))) sc_law.nd)
    (dss_cons (ds_set 4 (de_call n (ok_l_told T) (hr.mono (by decide)) T.a_l_told.g T.a_l_told.F.kp (bi_l_told T) pass0 (dg_w (DEs.w (DEo.s (de_list T.z_list (de_seq 1)))) dg_nil)) sc_law.nd)
    (dss_cons (ds_if (dt_cmp op_notN vok_isnot (de_seq 3) (DEs.w de_non) (nomark _)) (dss_one (ds_ret (de_cmp (op_eqD (hu64 hr)) vok_eq (de_seq 4) (DEs.w (de_tup (da_cons de_str (da_cons (de_var 3) da_nil)))) (nomark _)))) dss_nil)
    (dss_one (ds_ret (de_and (de_cmp (op_eqD (hu64 hr)) vok_eq (DEs.w (de_ix (de_seq 4) (DEs.w de_int))) (DEs.w de_str) (nomark _)) (de_one (de_call n (ok_l_fractions T) (hr.mono (by decide)) T.a_l_fractions.g T.a_l_fractions.F.kp (bi_l_fractions T) pass0 (dg_w (DEs.w (de_ix (de_seq 4) (DEs.w de_int))) (dg_w (de_seq 2) dg_nil))))))))))))
end
end L2.RC

namespace L2.RC
open PySem PySem.Spec PyProof.Rows
/-! ### the walk from lighting to lighting -/
/-- when rope r goes out in the walk, late or not -/
def goW (K : Nat) (acc : List Int) (r : Rope) : Int := match r.2 with
  | none => vOf acc r.1 + 2 ^ K
  | some b => if ((vOf acc r.1 - vOf acc b).natAbs : Int) < 2 ^ K then (vOf acc r.1 + vOf acc b + 2 ^ K) / 2 else (if vOf acc r.1 ≤ vOf acc b then vOf acc r.1 else vOf acc b) + 2 ^ K
def walkV (K : Nat) : List Rope → List Int → List Int
  | [], acc => acc
  | r :: rs, acc => walkV K rs (acc ++ [goW K acc r])
theorem walkV_pre (K : Nat) : ∀ (rs : List Rope) (acc : List Int), ∃ t, walkV K rs acc = acc ++ t
  | [], acc => ⟨[], (List.append_nil _).symm⟩
  | r :: rs, acc => by
    obtain ⟨t, h⟩ := walkV_pre K rs (acc ++ [goW K acc r])
    exact ⟨_ :: t, by rw [show walkV K (r :: rs) acc = walkV K rs (acc ++ [goW K acc r]) from rfl, h, List.append_assoc]; rfl⟩
theorem walkV_len (K : Nat) : ∀ (rs : List Rope) (acc : List Int), (walkV K rs acc).length = acc.length + rs.length
  | [], acc => rfl
  | r :: rs, acc => by
    have h := walkV_len K rs (acc ++ [goW K acc r])
    rw [show walkV K (r :: rs) acc = walkV K rs (acc ++ [goW K acc r]) from rfl, h, List.length_append, List.length_singleton, List.length_cons]
    omega
theorem outs_walk (K : Nat) : ∀ (rs : List Rope) (acc acc' : List Int), outsV K rs acc = (acc', none) → walkV K rs acc = acc'
  | [], acc, acc', e => by cases e; rfl
  | (a, none) :: rs, acc, acc', e => outs_walk K rs _ acc' e
  | (a, some b) :: rs, acc, acc', e => by
    by_cases c : ((vOf acc a - vOf acc b).natAbs : Int) < 2 ^ K
    · rw [show outsV K ((a, some b) :: rs) acc = outsV K rs (acc ++ [(vOf acc a + vOf acc b + 2 ^ K) / 2]) from if_pos c] at e
      have := outs_walk K rs _ acc' e
      rw [← this]
      show walkV K rs (acc ++ [goW K acc (a, some b)]) = _
      rw [show goW K acc (a, some b) = (vOf acc a + vOf acc b + 2 ^ K) / 2 from if_pos c]
    · rw [show outsV K ((a, some b) :: rs) acc = (acc, some acc.length) from if_neg c] at e
      cases e
theorem Dv.far {K : Nat} {acc : List Int} (h : Dv K acc) {a b : Int} (ha : numOk acc.length a) (hb : numOk acc.length b) : Dv K (acc ++ [(if vOf acc a ≤ vOf acc b then vOf acc a else vOf acc b) + 2 ^ K]) := by
  split
  · exact h.hour ha
  · exact h.hour hb
theorem Dv.go {K : Nat} {acc : List Int} (h : Dv K acc) {r : Rope} (hr : ropeOk acc.length r) (hK : acc.length < K) : Dv K (acc ++ [goW K acc r]) := by
  obtain ⟨a, o⟩ := r
  cases o with
  | none => exact h.hour hr.1
  | some b =>
    have hb := (hr.2 b rfl).1
    unfold goW
    dsimp only
    split
    · exact (h.half hr.1 hb hK).2
    · exact h.far hr.1 hb
/-- rope r goes out at v in the walk -/
def WG (K : Nat) (acc : List Int) (r : Rope) (v : Int) : Prop := match r.2 with
  | none => v = vOf acc r.1 + 2 ^ K
  | some b => (((vOf acc r.1 - vOf acc b).natAbs : Int) < 2 ^ K ∧ 2 * v = vOf acc r.1 + vOf acc b + 2 ^ K) ∨ (2 ^ K ≤ ((vOf acc r.1 - vOf acc b).natAbs : Int) ∧ v = (if vOf acc r.1 ≤ vOf acc b then vOf acc r.1 else vOf acc b) + 2 ^ K)
theorem WG.of {K : Nat} {acc t : List Int} {r : Rope} (hD : Dv K acc) (hr : ropeOk acc.length r) (hK : acc.length < K) : WG K (acc ++ t) r (goW K acc r) := by
  obtain ⟨a, o⟩ := r
  obtain ⟨na, nb⟩ := hr
  have na : numOk acc.length a := na
  cases o with
  | none =>
    show vOf acc a + 2 ^ K = vOf (acc ++ t) a + 2 ^ K
    rw [vOf_pre na]
  | some b =>
    obtain ⟨nb, _⟩ := nb b rfl
    obtain ⟨hh, _⟩ := hD.half na nb hK
    have w1 : vOf (acc ++ t) a = vOf acc a := vOf_pre na
    have w2 : vOf (acc ++ t) b = vOf acc b := vOf_pre nb
    show (((vOf (acc ++ t) a - vOf (acc ++ t) b).natAbs : Int) < 2 ^ K ∧ 2 * goW K acc (a, some b) = vOf (acc ++ t) a + vOf (acc ++ t) b + 2 ^ K) ∨ (2 ^ K ≤ ((vOf (acc ++ t) a - vOf (acc ++ t) b).natAbs : Int) ∧ goW K acc (a, some b) = (if vOf (acc ++ t) a ≤ vOf (acc ++ t) b then vOf (acc ++ t) a else vOf (acc ++ t) b) + 2 ^ K)
    rw [w1, w2]
    by_cases c : ((vOf acc a - vOf acc b).natAbs : Int) < 2 ^ K
    · rw [show goW K acc (a, some b) = (vOf acc a + vOf acc b + 2 ^ K) / 2 from if_pos c]
      exact .inl ⟨c, hh.symm⟩
    · rw [show goW K acc (a, some b) = (if vOf acc a ≤ vOf acc b then vOf acc a else vOf acc b) + 2 ^ K from if_neg c]
      exact .inr ⟨by omega, rfl⟩
theorem walk_all {K : Nat} (p : List Rope) (hp : PlanOk p) : ∀ (rs : List Rope) (acc : List Int), p.drop acc.length = rs → acc.length + rs.length ≤ K → Dv K acc →
    Dv K (walkV K rs acc) ∧ ∀ i r, rs[i]? = some r → ∃ v, (walkV K rs acc)[acc.length + i]? = some v ∧ WG K (walkV K rs acc) r v
  | [], acc, _, _, hD => ⟨hD, fun i r e => by simp at e⟩
  | r :: rs, acc, hd, hl, hD => by
    obtain ⟨hg, hd'⟩ := get_drop hd
    have hr := hp _ _ hg
    rw [List.length_cons] at hl
    have hD2 := hD.go hr (by omega)
    have ih := walk_all p hp rs (acc ++ [goW K acc r]) (by rw [List.length_append, List.length_singleton]; exact hd') (by rw [List.length_append, List.length_singleton]; omega) hD2
    rw [show walkV K (r :: rs) acc = walkV K rs (acc ++ [goW K acc r]) from rfl]
    refine ⟨ih.1, fun i s e => ?_⟩
    cases i with
    | zero =>
      cases e
      obtain ⟨t, ht⟩ := walkV_pre K rs (acc ++ [goW K acc r])
      refine ⟨goW K acc r, ?_, ?_⟩
      · rw [ht, List.append_assoc, List.getElem?_append_right (by omega)]
        simp
      · rw [ht, List.append_assoc]
        exact WG.of hD hr (by omega)
    | succ i =>
      have := ih.2 i s (by simpa using e)
      rw [List.length_append, List.length_singleton, show acc.length + 1 + i = acc.length + (i + 1) by omega] at this
      exact this
theorem goW_pos {K : Nat} (hK : 0 < K) {acc : List Int} (h : ∀ v ∈ acc, 0 < v) (r : Rope) : 0 < goW K acc r := by
  obtain ⟨k, rfl⟩ : ∃ k, K = k + 1 := ⟨K - 1, by omega⟩
  have hp := p2_pos k
  obtain ⟨a, o⟩ := r
  have n1 := vOf_nonneg (acc := acc) (fun v hv => Int.le_of_lt (h v hv)) a
  cases o with
  | none =>
    show 0 < vOf acc a + 2 ^ (k + 1)
    rw [p2_succ]
    omega
  | some b =>
    have n2 := vOf_nonneg (acc := acc) (fun v hv => Int.le_of_lt (h v hv)) b
    unfold goW
    dsimp only
    rw [p2_succ]
    split
    · omega
    · split <;> omega
theorem walk_pos {K : Nat} (hK : 0 < K) : ∀ (rs : List Rope) (acc : List Int), (∀ v ∈ acc, 0 < v) → ∀ v ∈ walkV K rs acc, 0 < v
  | [], acc, h => h
  | r :: rs, acc, h => walk_pos hK rs (acc ++ [goW K acc r]) fun v hv => by
    rcases List.mem_append.mp hv with hv | hv
    · exact h v hv
    · rw [List.mem_singleton.mp hv]; exact goW_pos hK h r
/-! ### one rope, from one moment to the next -/
/-- how many ends of rope r burn at t -/
def firV (acc : List Int) (t : Int) (r : Rope) : Int := (if vOf acc r.1 ≤ t then 1 else 0) + (match r.2 with | none => 0 | some b => if vOf acc b ≤ t then 1 else 0)
theorem firV_cases (acc : List Int) (t : Int) (r : Rope) : firV acc t r = 0 ∨ firV acc t r = 1 ∨ firV acc t r = 2 := by
  obtain ⟨a, o⟩ := r
  unfold firV
  cases o with
  | none => dsimp only; split <;> omega
  | some b => dsimp only; split <;> split <;> omega
def NoIn (t T u : Int) : Prop := u ≤ t ∨ T ≤ u
theorem eat_on {acc : List Int} {t T : Int} {r : Rope} (hT : t ≤ T) (h1 : NoIn t T (vOf acc r.1)) (h2 : ∀ b, r.2 = some b → NoIn t T (vOf acc b)) : eatenV acc T r = eatenV acc t r + firV acc t r * (T - t) := by
  obtain ⟨a, o⟩ := r
  unfold NoIn at h1 h2
  cases o with
  | none =>
    unfold eatenV firV burntV
    dsimp only at h1 ⊢
    generalize vOf acc a = u at *
    split <;> split <;> split <;> omega
  | some b =>
    have h2 := h2 b rfl
    unfold eatenV firV burntV
    dsimp only at h1 ⊢
    generalize vOf acc a = u at *
    generalize vOf acc b = w at *
    split <;> split <;> split <;> split <;> split <;> split <;> omega
theorem eat_le {K : Nat} {acc : List Int} {T v : Int} {r : Rope} (h : WG K acc r v) (hT : T ≤ v) : eatenV acc T r ≤ 2 ^ K ∧ (eatenV acc T r = 2 ^ K ↔ T = v) := by
  have hp := p2_pos K
  obtain ⟨a, o⟩ := r
  cases o with
  | none =>
    have h' : v = vOf acc a + 2 ^ K := h
    unfold eatenV burntV
    dsimp only
    generalize vOf acc a = u at *
    generalize (2 : Int) ^ K = M at *
    split <;> omega
  | some b =>
    have h' : (((vOf acc a - vOf acc b).natAbs : Int) < 2 ^ K ∧ 2 * v = vOf acc a + vOf acc b + 2 ^ K) ∨ (2 ^ K ≤ ((vOf acc a - vOf acc b).natAbs : Int) ∧ v = (if vOf acc a ≤ vOf acc b then vOf acc a else vOf acc b) + 2 ^ K) := h
    unfold eatenV burntV
    dsimp only
    generalize vOf acc a = u at *
    generalize vOf acc b = w at *
    generalize (2 : Int) ^ K = M at *
    rcases h' with h' | h'
    · split <;> split <;> omega
    · by_cases c : u ≤ w
      · rw [if_pos c] at h'
        split <;> split <;> omega
      · rw [if_neg c] at h'
        split <;> split <;> omega
/-- what is left of a rope that goes out at v -/
def resV (K : Nat) (acc : List Int) (t : Int) (r : Rope) (v : Int) : Int := if v ≤ t then 0 else 2 ^ K - eatenV acc t r
theorem eat_zero {acc : List Int} (h : ∀ v ∈ acc, 0 < v) (r : Rope) : eatenV acc 0 r = 0 := by
  obtain ⟨a, o⟩ := r
  have n1 := vOf_nonneg (acc := acc) (fun v hv => Int.le_of_lt (h v hv)) a
  unfold eatenV burntV
  cases o with
  | none => dsimp only; rw [if_neg (by omega)]
  | some b =>
    have n2 := vOf_nonneg (acc := acc) (fun v hv => Int.le_of_lt (h v hv)) b
    dsimp only
    rw [if_neg (by omega), if_neg (by omega)]
    rfl
theorem vOf_mem {acc : List Int} {a : Int} (h : numOk acc.length a) : vOf acc a = 0 ∨ vOf acc a ∈ acc := by
  unfold vOf
  rcases h with rfl | ⟨h0, h1⟩
  · exact .inl rfl
  · rw [if_neg (by omega), List.getElem?_eq_getElem (by omega)]
    exact .inr (List.getElem_mem _)
/-- what one step of the walk does to a rope: t the moment, T the next one -/
structure OneStep (K : Nat) (acc : List Int) (t T : Int) (r : Rope) (v : Int) : Prop where
  /-- a rope that burns: the fires need no less than the step, just as long only if it goes out then -/
  ge : t < v → firV acc t r * (T - t) ≤ resV K acc t r v
  eq : t < v → (firV acc t r * (T - t) = resV K acc t r v ↔ v = T)
  on : t < v → resV K acc T r v = resV K acc t r v - firV acc t r * (T - t)
  off : v ≤ t → resV K acc T r v = resV K acc t r v
  out : t < v → (v ≤ T ↔ v = T)
  zero : t < v → (resV K acc T r v = 0 ↔ v = T)
  lit : t < v → v = T → 0 < firV acc t r
theorem one_step {K : Nat} {acc : List Int} {t T : Int} {r : Rope} {v : Int} (h0 : 0 ≤ t) (hT : t < T) (hmin : ∀ u ∈ acc, t < u → T ≤ u) (hv : v ∈ acc) (hg : WG K acc r v) (n1 : numOk acc.length r.1) (n2 : ∀ b, r.2 = some b → numOk acc.length b) : OneStep K acc t T r v := by
  have no : ∀ a, numOk acc.length a → NoIn t T (vOf acc a) := fun a ha => by
    unfold NoIn
    rcases vOf_mem ha with h | h
    · left; omega
    · have := hmin _ h
      omega
  have on := eat_on (Int.le_of_lt hT) (no _ n1) fun b hb => no _ (n2 b hb)
  have hm := hmin v hv
  have fc := firV_cases acc t r
  have E1 : T ≤ v → _ := fun c => eat_le hg c
  have E2 : t ≤ v → _ := fun c => eat_le hg c
  have hM := p2_pos K
  have key : t < v → resV K acc t r v = 2 ^ K - eatenV acc t r ∧ resV K acc T r v = 2 ^ K - eatenV acc T r ∧ T ≤ v ∧ eatenV acc T r ≤ 2 ^ K ∧ (eatenV acc T r = 2 ^ K ↔ T = v) ∧ eatenV acc t r < 2 ^ K := fun c => by
    have c2 := hm c
    obtain ⟨a1, a2⟩ := E1 c2
    obtain ⟨b1, b2⟩ := E2 (Int.le_of_lt c)
    refine ⟨if_neg (by omega), ?_, c2, a1, a2, by omega⟩
    unfold resV
    split
    · omega
    · rfl
  refine ⟨fun c => ?_, fun c => ?_, fun c => ?_, fun c => ?_, fun c => ?_, fun c => ?_, fun c e => ?_⟩
  · obtain ⟨k1, k2, k3, k4, k5, k6⟩ := key c; omega
  · obtain ⟨k1, k2, k3, k4, k5, k6⟩ := key c; omega
  · obtain ⟨k1, k2, k3, k4, k5, k6⟩ := key c; omega
  · unfold resV
    rw [if_pos (by omega), if_pos c]
  · have := hm c; omega
  · obtain ⟨k1, k2, k3, k4, k5, k6⟩ := key c; omega
  · obtain ⟨k1, k2, k3, k4, k5, k6⟩ := key c
    rcases fc with f | f | f
    · rw [f, Int.zero_mul] at on
      omega
    · omega
    · omega
/-! ### the least time -/
def bestF (b c : Option Int) : Option Int := match c with
  | none => b
  | some x => match b with
    | none => some x
    | some y => if x < y then some x else some y
theorem best_fold (s : Int) : ∀ (cs : List (Option Int)) (b : Option Int), (∀ x, some x ∈ cs → s ≤ x) → (∀ y, b = some y → s ≤ y) → (b = some s ∨ some s ∈ cs) → cs.foldl bestF b = some s
  | [], b, _, _, h => by
    rcases h with h | h
    · exact h
    · cases h
  | c :: cs, b, h1, h2, h3 => by
    refine best_fold s cs (bestF b c) (fun x hx => h1 x (List.mem_cons_of_mem _ hx)) (fun y hy => ?_) ?_
    · cases c with
      | none => exact h2 y hy
      | some x =>
        have hx := h1 x List.mem_cons_self
        cases b with
        | none => cases hy; exact hx
        | some z =>
          have hz := h2 z rfl
          have hy' : (if x < z then some x else some z) = some y := hy
          split at hy' <;> cases hy' <;> assumption
    · rcases h3 with h3 | h3
      · subst h3
        left
        cases c with
        | none => rfl
        | some x =>
          have hx := h1 x List.mem_cons_self
          show (if x < s then some x else some s) = some s
          rw [if_neg (by omega)]
      · rcases List.mem_cons.mp h3 with h3 | h3
        · subst h3
          left
          cases b with
          | none => rfl
          | some z =>
            have hz := h2 z rfl
            show (if s < z then some s else some z) = some s
            split
            · rfl
            · congr 1; omega
        · exact .inr h3
theorem exists_min {t : Int} : ∀ {L : List Int}, (∃ v ∈ L, t < v) → ∃ T ∈ L, t < T ∧ ∀ u ∈ L, t < u → T ≤ u
  | [], h => by obtain ⟨v, hv, _⟩ := h; cases hv
  | x :: L, h => by
    by_cases c : ∃ v ∈ L, t < v
    · obtain ⟨T, h1, h2, h3⟩ := exists_min c
      by_cases d : t < x ∧ x < T
      · refine ⟨x, List.mem_cons_self, d.1, fun u hu hl => ?_⟩
        rcases List.mem_cons.mp hu with rfl | hu
        · exact Int.le_refl _
        · have := h3 u hu hl; omega
      · refine ⟨T, List.mem_cons_of_mem _ h1, h2, fun u hu hl => ?_⟩
        rcases List.mem_cons.mp hu with rfl | hu
        · omega
        · exact h3 u hu hl
    · obtain ⟨v, hv, hl⟩ := h
      rcases List.mem_cons.mp hv with rfl | hv
      · refine ⟨v, List.mem_cons_self, hl, fun u hu hlu => ?_⟩
        rcases List.mem_cons.mp hu with rfl | hu
        · exact Int.le_refl _
        · exact absurd ⟨u, hu, hlu⟩ c
      · exact absurd ⟨v, hv, hl⟩ c
/-- how many ropes are still to go out -/
def stillN (t : Int) : List Int → Nat
  | [] => 0
  | v :: L => (if t < v then 1 else 0) + stillN t L
theorem stillN_len (t : Int) : ∀ L : List Int, stillN t L ≤ L.length
  | [] => Nat.le_refl _
  | v :: L => by
    have := stillN_len t L
    unfold stillN
    rw [List.length_cons]
    split <;> omega
theorem stillN_le {t T : Int} (h : t ≤ T) : ∀ L : List Int, stillN T L ≤ stillN t L
  | [] => Nat.le_refl _
  | v :: L => by
    have := stillN_le h L
    unfold stillN
    split <;> split <;> omega
theorem stillN_lt {t T : Int} (h : t < T) : ∀ L : List Int, T ∈ L → stillN T L < stillN t L
  | [], hm => by cases hm
  | v :: L, hm => by
    have a := stillN_le (Int.le_of_lt h) L
    unfold stillN
    rcases List.mem_cons.mp hm with rfl | hm
    · rw [if_neg (by omega), if_pos h]; omega
    · have b := stillN_lt h L hm
      split <;> split <;> omega
/-! ### lists changed place by place -/
def mix {α : Type} (A B : List α) (k : Nat) : List α := A.take k ++ B.drop k
theorem mix_zero {α : Type} (A B : List α) : mix A B 0 = B := rfl
theorem mix_all {α : Type} {A B : List α} (h : A.length = B.length) : mix A B A.length = A := by
  unfold mix
  rw [List.take_length, List.drop_of_length_le (by omega), List.append_nil]
theorem mix_len {α : Type} {A B : List α} (h : A.length = B.length) {k : Nat} (hk : k ≤ A.length) : (mix A B k).length = B.length := by
  unfold mix
  rw [List.length_append, List.length_take, List.length_drop]
  omega
theorem mix_get {α : Type} {A B : List α} (h : A.length = B.length) {k : Nat} (hk : k ≤ A.length) : (mix A B k)[k]? = B[k]? := by
  unfold mix
  rw [List.getElem?_append_right (by rw [List.length_take]; omega), List.length_take, List.getElem?_drop]
  congr 1
  omega
theorem mix_step {α : Type} {A B : List α} (h : A.length = B.length) {k : Nat} {a : α} (ha : A[k]? = some a) : mix A B (k + 1) = (mix A B k).set k a := by
  have hk : k < A.length := (List.getElem?_eq_some_iff.mp ha).1
  refine List.ext_getElem? fun i => ?_
  unfold mix
  rw [List.getElem?_set]
  have l1 : (A.take (k + 1)).length = k + 1 := by rw [List.length_take]; omega
  have l0 : (A.take k).length = k := by rw [List.length_take]; omega
  by_cases c : k = i
  · subst c
    rw [if_pos rfl, if_pos (by rw [List.length_append, l0, List.length_drop]; omega), List.getElem?_append_left (by omega), List.getElem?_take, if_pos (by omega), ha]
  · rw [if_neg c]
    by_cases d : i < k
    · rw [List.getElem?_append_left (by omega), List.getElem?_append_left (by omega), List.getElem?_take, List.getElem?_take, if_pos (by omega), if_pos d]
    · rw [List.getElem?_append_right (by omega), List.getElem?_append_right (by omega), l1, l0, List.getElem?_drop, List.getElem?_drop]
      congr 1
      omega
theorem mix_same {α : Type} {A B : List α} (h : A.length = B.length) {k : Nat} {a : α} (ha : A[k]? = some a) (hb : B[k]? = some a) : mix A B (k + 1) = mix A B k := by
  have hk : k < A.length := (List.getElem?_eq_some_iff.mp ha).1
  rw [mix_step h ha]
  have g := mix_get h (Nat.le_of_lt hk)
  rw [hb] at g
  refine List.ext_getElem? fun i => ?_
  rw [List.getElem?_set]
  by_cases c : k = i
  · subst c
    rw [if_pos rfl, if_pos (by rw [mix_len h (Nat.le_of_lt hk)]; omega), g]
  · rw [if_neg c]
end L2.RC

namespace L2.RC
open PySem PySem.Spec PyProof.Rows
theorem while_low : ∀ (k n m : Nat) (t : Int), k < n → sWhile (tAnd2 (tOf (eBin dGt (eSeq 1) (eC (.int 1)))) (tOf (eBin dEq (eBin dMod (eSeq 0) (eC (.int 2))) (eC (.int 0)))))
    (c_plain_1 m) n [.fz (.int t), .fz (.int (2 ^ k))] = .nx [.fz (.int (lowN k t).1), .fz (.int (2 ^ (lowN k t).2))] := by
  intro k
  induction k with
  | zero =>
    intro n m t h
    obtain ⟨n, rfl⟩ : ∃ m, n = m + 1 := ⟨n - 1, by omega⟩
    rfl
  | succ k ih =>
    intro n m t h
    obtain ⟨n, rfl⟩ : ∃ m, n = m + 1 := ⟨n - 1, by omega⟩
    have hp := p2_pos k
    have e1 : (2 : Int) ^ (k + 1) = 2 * 2 ^ k := p2_succ k
    have g1 : decide ((1 : Int) < 2 ^ (k + 1)) = true := decide_eq_true (by omega)
    have e2 : (2 : Int) ^ (k + 1) / 2 = 2 ^ k := by omega
    unfold sWhile lowN c_plain_1
    by_cases c : t % 2 = 0
    · have c' : (t % 2 == 0) = true := beq_iff_eq.mpr c
      simp only [a_nil, a_seq, a_if, a_ret, a_set, a_setO, a_sfrz, a_frz, a_mut, a_for, a_bin, a_seqv, a_var, a_c, a_un, a_tup, a_evs0, a_evs1, a_call, a_gs, a_gw, a_gnil, a_tof, a_tand, a_tor, a_tnot, a_and, a_or, a_not, a_eif, a_neg, a_lstD, a_rg1, a_rg2, a_ilst, a_itpl, a_olst, a_cat, a_ttrue, dAdd_int, dSub_int, dLt_int, dLe_int, dGt_int, dGe_int, dEq_int, dNe_int, dEq_bool, dNe_bool, dIs_non, dIsNot_non, isN_none, isN_int, isN_tup, isN_lst, dLen_list, dLen_t2, mo_0, mo_1, beq_self_eq_true, dAbs_int, ix_t0, ix_t1, isi_tt, isi_ib, isi_ii, isi_bb, isi_ll, isi_ss, mod_2, div_2, mul_two, Option.bind_some, Option.map_some, Option.some.injEq, List.getElem?_cons_zero, List.getElem?_cons_succ, List.set_cons_zero, List.set_cons_succ, List.cons_append, List.nil_append, List.replicate_zero, List.replicate_succ, List.append_nil, Bool.not_true, Bool.not_false, decide_true, decide_false, if_true, if_false, a_late, a_nopl, a_setX, a_tryN, a_tryL, a_setT, a_clr, a_ibr, a_iow, g1, c', e2]
      rw [if_pos c]
      exact ih n m _ (by omega)
    · have c' : (t % 2 == 0) = false := beq_eq_false_iff_ne.mpr c
      simp only [a_nil, a_seq, a_if, a_ret, a_set, a_setO, a_sfrz, a_frz, a_mut, a_for, a_bin, a_seqv, a_var, a_c, a_un, a_tup, a_evs0, a_evs1, a_call, a_gs, a_gw, a_gnil, a_tof, a_tand, a_tor, a_tnot, a_and, a_or, a_not, a_eif, a_neg, a_lstD, a_rg1, a_rg2, a_ilst, a_itpl, a_olst, a_cat, a_ttrue, dAdd_int, dSub_int, dLt_int, dLe_int, dGt_int, dGe_int, dEq_int, dNe_int, dEq_bool, dNe_bool, dIs_non, dIsNot_non, isN_none, isN_int, isN_tup, isN_lst, dLen_list, dLen_t2, mo_0, mo_1, beq_self_eq_true, dAbs_int, ix_t0, ix_t1, isi_tt, isi_ib, isi_ii, isi_bb, isi_ll, isi_ss, mod_2, div_2, mul_two, Option.bind_some, Option.map_some, Option.some.injEq, List.getElem?_cons_zero, List.getElem?_cons_succ, List.set_cons_zero, List.set_cons_succ, List.cons_append, List.nil_append, List.replicate_zero, List.replicate_succ, List.append_nil, Bool.not_true, Bool.not_false, decide_true, decide_false, if_true, if_false, a_late, a_nopl, a_setX, a_tryN, a_tryL, a_setT, a_clr, a_ibr, a_iow, g1, c', e2]
      rw [if_neg c]
theorem run_plain {k n : Nat} (t : Int) (h : k < n) : b_plain n [.fz (.int t), .fz (.int (2 ^ k))] = .rt (mo (lowN k t)) := by
  unfold b_plain
  simp only [sSeq, while_low k n n t h]
  rfl

theorem pb {k : Nat} (h : k ≤ 63) : ((2 : Int) ^ k).natAbs < 2 ^ 64 := by
  rw [Int.natAbs_pow]
  exact Nat.pow_lt_pow_right (by decide) (by omega)
theorem p2_m2 (k j : Nat) : (2 : Int) * 2 ^ k * 2 ^ j = 2 ^ (k + j + 1) := by rw [p2_succ, p2_add, Int.mul_assoc]
theorem p2_m (k j : Nat) : (2 : Int) ^ k * 2 ^ j = 2 ^ (k + j) := (p2_add k j).symm
theorem run_l_low {k n : Nat} (t : Int) (h : k < n) : b_l_low n [.fz (.int t), .fz (.int (2 ^ k))] = .rt (mo (lowN k t)) := run_plain t h
theorem mo_eq (m : Mo) : mo m = .tuple [.int m.1, .int (2 ^ m.2)] := rfl
theorem run_mean_and_half {n K : Nat} (v u : Int) (hK : K ≤ 60) (hn : 200 ≤ n) : b_mean_and_half n [.fz (mo (lowN K v)), .fz (mo (lowN K u)), .un] = .rt (mo (lowN (K + 1) (v + u + 2 ^ K))) := by
  have h1 := lowN_le K v
  have h2 := lowN_le K u
  have b1 : ∀ i : Int, dMul (.int i) (.int (2 ^ (lowN K v).2)) = some (.int (i * 2 ^ (lowN K v).2)) := fun i => mul_r (pb (by omega))
  have b2 : ∀ i : Int, dMul (.int i) (.int (2 ^ (lowN K u).2)) = some (.int (i * 2 ^ (lowN K u).2)) := fun i => mul_r (pb (by omega))
  unfold b_mean_and_half
  simp only [a_nil, a_seq, a_if, a_ret, a_set, a_setO, a_sfrz, a_frz, a_mut, a_for, a_bin, a_seqv, a_var, a_c, a_un, a_tup, a_evs0, a_evs1, a_call, a_gs, a_gw, a_gnil, a_tof, a_tand, a_tor, a_tnot, a_and, a_or, a_not, a_eif, a_neg, a_lstD, a_rg1, a_rg2, a_ilst, a_itpl, a_olst, a_cat, a_ttrue, dAdd_int, dSub_int, dLt_int, dLe_int, dGt_int, dGe_int, dEq_int, dNe_int, dEq_bool, dNe_bool, dIs_non, dIsNot_non, isN_none, isN_int, isN_tup, isN_lst, dLen_list, dLen_t2, mo_0, mo_1, beq_self_eq_true, dAbs_int, ix_t0, ix_t1, isi_tt, isi_ib, isi_ii, isi_bb, isi_ll, isi_ss, mod_2, div_2, mul_two, Option.bind_some, Option.map_some, Option.some.injEq, List.getElem?_cons_zero, List.getElem?_cons_succ, List.set_cons_zero, List.set_cons_succ, List.cons_append, List.nil_append, List.replicate_zero, List.replicate_succ, List.append_nil, Bool.not_true, Bool.not_false, decide_true, decide_false, if_true, if_false, a_late, a_nopl, a_setX, a_tryN, a_tryL, a_setT, a_clr, a_ibr, a_iow, mo_eq, b1, b2, p2_m2]
  rw [run_plain _ (by omega), mean_eq]
  rfl
theorem run_hour_behind {n K : Nat} (v : Int) : b_hour_behind n [.fz (mo (lowN K v))] = .rt (mo (lowN K (v + 2 ^ K))) := by
  unfold b_hour_behind
  simp only [a_nil, a_seq, a_if, a_ret, a_set, a_setO, a_sfrz, a_frz, a_mut, a_for, a_bin, a_seqv, a_var, a_c, a_un, a_tup, a_evs0, a_evs1, a_call, a_gs, a_gw, a_gnil, a_tof, a_tand, a_tor, a_tnot, a_and, a_or, a_not, a_eif, a_neg, a_lstD, a_rg1, a_rg2, a_ilst, a_itpl, a_olst, a_cat, a_ttrue, dAdd_int, dSub_int, dLt_int, dLe_int, dGt_int, dGe_int, dEq_int, dNe_int, dEq_bool, dNe_bool, dIs_non, dIsNot_non, isN_none, isN_int, isN_tup, isN_lst, dLen_list, dLen_t2, mo_0, mo_1, beq_self_eq_true, dAbs_int, ix_t0, ix_t1, isi_tt, isi_ib, isi_ii, isi_bb, isi_ll, isi_ss, mod_2, div_2, mul_two, Option.bind_some, Option.map_some, Option.some.injEq, List.getElem?_cons_zero, List.getElem?_cons_succ, List.set_cons_zero, List.set_cons_succ, List.cons_append, List.nil_append, List.replicate_zero, List.replicate_succ, List.append_nil, Bool.not_true, Bool.not_false, decide_true, decide_false, if_true, if_false, a_late, a_nopl, a_setX, a_tryN, a_tryL, a_setT, a_clr, a_ibr, a_iow, mo_eq]
  rw [← hour_eq]
theorem run_earlier {n K : Nat} (v u : Int) (hK : K ≤ 60) : b_earlier n [.fz (mo (lowN K v)), .fz (mo (lowN K u))] = .rt (.bool (decide (v < u))) := by
  have h1 := lowN_le K v
  have h2 := lowN_le K u
  have b1 : ∀ i : Int, dMul (.int i) (.int (2 ^ (lowN K v).2)) = some (.int (i * 2 ^ (lowN K v).2)) := fun i => mul_r (pb (by omega))
  have b2 : ∀ i : Int, dMul (.int i) (.int (2 ^ (lowN K u).2)) = some (.int (i * 2 ^ (lowN K u).2)) := fun i => mul_r (pb (by omega))
  unfold b_earlier
  simp only [a_nil, a_seq, a_if, a_ret, a_set, a_setO, a_sfrz, a_frz, a_mut, a_for, a_bin, a_seqv, a_var, a_c, a_un, a_tup, a_evs0, a_evs1, a_call, a_gs, a_gw, a_gnil, a_tof, a_tand, a_tor, a_tnot, a_and, a_or, a_not, a_eif, a_neg, a_lstD, a_rg1, a_rg2, a_ilst, a_itpl, a_olst, a_cat, a_ttrue, dAdd_int, dSub_int, dLt_int, dLe_int, dGt_int, dGe_int, dEq_int, dNe_int, dEq_bool, dNe_bool, dIs_non, dIsNot_non, isN_none, isN_int, isN_tup, isN_lst, dLen_list, dLen_t2, mo_0, mo_1, beq_self_eq_true, dAbs_int, ix_t0, ix_t1, isi_tt, isi_ib, isi_ii, isi_bb, isi_ll, isi_ss, mod_2, div_2, mul_two, Option.bind_some, Option.map_some, Option.some.injEq, List.getElem?_cons_zero, List.getElem?_cons_succ, List.set_cons_zero, List.set_cons_succ, List.cons_append, List.nil_append, List.replicate_zero, List.replicate_succ, List.append_nil, Bool.not_true, Bool.not_false, decide_true, decide_false, if_true, if_false, a_late, a_nopl, a_setX, a_tryN, a_tryL, a_setT, a_clr, a_ibr, a_iow, mo_eq, b1, b2, less_iff]
theorem run_l_less {n K : Nat} (v u : Int) (hK : K ≤ 60) : b_l_less n [.fz (mo (lowN K v)), .fz (mo (lowN K u))] = .rt (.bool (decide (v < u))) := run_earlier (n := n) v u hK
theorem iabs (x : Int) : (if x < 0 then -x else x) = (x.natAbs : Int) := by split <;> omega
theorem abs_eq (v u : Int) (K : Nat) : (((lowN K v).1 * 2 ^ (lowN K u).2 - (lowN K u).1 * 2 ^ (lowN K v).2).natAbs : Int) = if v < u then (lowN K u).1 * 2 ^ (lowN K v).2 - (lowN K v).1 * 2 ^ (lowN K u).2 else (lowN K v).1 * 2 ^ (lowN K u).2 - (lowN K u).1 * 2 ^ (lowN K v).2 := by
  have h := less_iff v u K
  generalize (lowN K v).1 * 2 ^ (lowN K u).2 = a at *
  generalize (lowN K u).1 * 2 ^ (lowN K v).2 = b at *
  split <;> omega
theorem run_between {n K : Nat} (v u : Int) (hK : K ≤ 60) (hn : 200 ≤ n) : b_between n [.fz (mo (lowN K v)), .fz (mo (lowN K u))] = .rt (mo (lowN K ((v - u).natAbs))) := by
  have h1 := lowN_le K v
  have h2 := lowN_le K u
  have b1 : ∀ i : Int, dMul (.int i) (.int (2 ^ (lowN K v).2)) = some (.int (i * 2 ^ (lowN K v).2)) := fun i => mul_r (pb (by omega))
  have b2 : ∀ i : Int, dMul (.int i) (.int (2 ^ (lowN K u).2)) = some (.int (i * 2 ^ (lowN K u).2)) := fun i => mul_r (pb (by omega))
  unfold b_between
  simp only [a_nil, a_seq, a_if, a_ret, a_set, a_setO, a_sfrz, a_frz, a_mut, a_for, a_bin, a_seqv, a_var, a_c, a_un, a_tup, a_evs0, a_evs1, a_call, a_gs, a_gw, a_gnil, a_tof, a_tand, a_tor, a_tnot, a_and, a_or, a_not, a_eif, a_neg, a_lstD, a_rg1, a_rg2, a_ilst, a_itpl, a_olst, a_cat, a_ttrue, dAdd_int, dSub_int, dLt_int, dLe_int, dGt_int, dGe_int, dEq_int, dNe_int, dEq_bool, dNe_bool, dIs_non, dIsNot_non, isN_none, isN_int, isN_tup, isN_lst, dLen_list, dLen_t2, mo_0, mo_1, beq_self_eq_true, dAbs_int, ix_t0, ix_t1, isi_tt, isi_ib, isi_ii, isi_bb, isi_ll, isi_ss, mod_2, div_2, mul_two, Option.bind_some, Option.map_some, Option.some.injEq, List.getElem?_cons_zero, List.getElem?_cons_succ, List.set_cons_zero, List.set_cons_succ, List.cons_append, List.nil_append, List.replicate_zero, List.replicate_succ, List.append_nil, Bool.not_true, Bool.not_false, decide_true, decide_false, if_true, if_false, a_late, a_nopl, a_setX, a_tryN, a_tryL, a_setT, a_clr, a_ibr, a_iow, mo_eq, b1, b2, p2_m, iabs]
  rw [run_plain _ (by omega), abs_eq]
  simp only
  by_cases c : v < u
  · rw [if_pos c, Nat.add_comm, diff_eq, show u - v = ((v - u).natAbs : Int) by omega]
    rfl
  · rw [if_neg c, diff_eq, show v - u = ((v - u).natAbs : Int) by omega]
    rfl
theorem run_l_sum {n K : Nat} (v u : Int) (hK : K ≤ 60) (hn : 200 ≤ n) : b_l_sum n [.fz (mo (lowN K v)), .fz (mo (lowN K u))] = .rt (mo (lowN K (v + u))) := by
  have h1 := lowN_le K v
  have h2 := lowN_le K u
  have b1 : ∀ i : Int, dMul (.int i) (.int (2 ^ (lowN K v).2)) = some (.int (i * 2 ^ (lowN K v).2)) := fun i => mul_r (pb (by omega))
  have b2 : ∀ i : Int, dMul (.int i) (.int (2 ^ (lowN K u).2)) = some (.int (i * 2 ^ (lowN K u).2)) := fun i => mul_r (pb (by omega))
  unfold b_l_sum
  simp only [a_nil, a_seq, a_if, a_ret, a_set, a_setO, a_sfrz, a_frz, a_mut, a_for, a_bin, a_seqv, a_var, a_c, a_un, a_tup, a_evs0, a_evs1, a_call, a_gs, a_gw, a_gnil, a_tof, a_tand, a_tor, a_tnot, a_and, a_or, a_not, a_eif, a_neg, a_lstD, a_rg1, a_rg2, a_ilst, a_itpl, a_olst, a_cat, a_ttrue, dAdd_int, dSub_int, dLt_int, dLe_int, dGt_int, dGe_int, dEq_int, dNe_int, dEq_bool, dNe_bool, dIs_non, dIsNot_non, isN_none, isN_int, isN_tup, isN_lst, dLen_list, dLen_t2, mo_0, mo_1, beq_self_eq_true, dAbs_int, ix_t0, ix_t1, isi_tt, isi_ib, isi_ii, isi_bb, isi_ll, isi_ss, mod_2, div_2, mul_two, Option.bind_some, Option.map_some, Option.some.injEq, List.getElem?_cons_zero, List.getElem?_cons_succ, List.set_cons_zero, List.set_cons_succ, List.cons_append, List.nil_append, List.replicate_zero, List.replicate_succ, List.append_nil, Bool.not_true, Bool.not_false, decide_true, decide_false, if_true, if_false, a_late, a_nopl, a_setX, a_tryN, a_tryL, a_setT, a_clr, a_ibr, a_iow, mo_eq, b1, b2, p2_m]
  rw [run_l_low _ (by omega), sum_eq]
  rfl
theorem run_l_gap {n K : Nat} (v u : Int) (hK : K ≤ 60) (hn : 200 ≤ n) : b_l_gap n [.fz (mo (lowN K v)), .fz (mo (lowN K u))] = .rt (mo (lowN K ((v - u).natAbs))) := by
  have h1 := lowN_le K v
  have h2 := lowN_le K u
  have b1 : ∀ i : Int, dMul (.int i) (.int (2 ^ (lowN K v).2)) = some (.int (i * 2 ^ (lowN K v).2)) := fun i => mul_r (pb (by omega))
  have b2 : ∀ i : Int, dMul (.int i) (.int (2 ^ (lowN K u).2)) = some (.int (i * 2 ^ (lowN K u).2)) := fun i => mul_r (pb (by omega))
  have l1 := run_l_less (n := n) v u hK
  unfold b_l_gap
  simp only [mo_eq] at l1
  by_cases c : v < u
  · simp only [a_nil, a_seq, a_if, a_ret, a_set, a_setO, a_sfrz, a_frz, a_mut, a_for, a_bin, a_seqv, a_var, a_c, a_un, a_tup, a_evs0, a_evs1, a_call, a_gs, a_gw, a_gnil, a_tof, a_tand, a_tor, a_tnot, a_and, a_or, a_not, a_eif, a_neg, a_lstD, a_rg1, a_rg2, a_ilst, a_itpl, a_olst, a_cat, a_ttrue, dAdd_int, dSub_int, dLt_int, dLe_int, dGt_int, dGe_int, dEq_int, dNe_int, dEq_bool, dNe_bool, dIs_non, dIsNot_non, isN_none, isN_int, isN_tup, isN_lst, dLen_list, dLen_t2, mo_0, mo_1, beq_self_eq_true, dAbs_int, ix_t0, ix_t1, isi_tt, isi_ib, isi_ii, isi_bb, isi_ll, isi_ss, mod_2, div_2, mul_two, Option.bind_some, Option.map_some, Option.some.injEq, List.getElem?_cons_zero, List.getElem?_cons_succ, List.set_cons_zero, List.set_cons_succ, List.cons_append, List.nil_append, List.replicate_zero, List.replicate_succ, List.append_nil, Bool.not_true, Bool.not_false, decide_true, decide_false, if_true, if_false, a_late, a_nopl, a_setX, a_tryN, a_tryL, a_setT, a_clr, a_ibr, a_iow, mo_eq, b1, b2, p2_m, l1, c]
    rw [run_l_low _ (by omega), Nat.add_comm, diff_eq, show u - v = ((v - u).natAbs : Int) by omega]
    rfl
  · simp only [a_nil, a_seq, a_if, a_ret, a_set, a_setO, a_sfrz, a_frz, a_mut, a_for, a_bin, a_seqv, a_var, a_c, a_un, a_tup, a_evs0, a_evs1, a_call, a_gs, a_gw, a_gnil, a_tof, a_tand, a_tor, a_tnot, a_and, a_or, a_not, a_eif, a_neg, a_lstD, a_rg1, a_rg2, a_ilst, a_itpl, a_olst, a_cat, a_ttrue, dAdd_int, dSub_int, dLt_int, dLe_int, dGt_int, dGe_int, dEq_int, dNe_int, dEq_bool, dNe_bool, dIs_non, dIsNot_non, isN_none, isN_int, isN_tup, isN_lst, dLen_list, dLen_t2, mo_0, mo_1, beq_self_eq_true, dAbs_int, ix_t0, ix_t1, isi_tt, isi_ib, isi_ii, isi_bb, isi_ll, isi_ss, mod_2, div_2, mul_two, Option.bind_some, Option.map_some, Option.some.injEq, List.getElem?_cons_zero, List.getElem?_cons_succ, List.set_cons_zero, List.set_cons_succ, List.cons_append, List.nil_append, List.replicate_zero, List.replicate_succ, List.append_nil, Bool.not_true, Bool.not_false, decide_true, decide_false, if_true, if_false, a_late, a_nopl, a_setX, a_tryN, a_tryL, a_setT, a_clr, a_ibr, a_iow, mo_eq, b1, b2, p2_m, l1, c]
    rw [run_l_low _ (by omega), diff_eq, show v - u = ((v - u).natAbs : Int) by omega]
    rfl

theorem run_low_half {n K : Nat} (v : Int) (hK : K ≤ 60) (hn : 200 ≤ n) : b_l_low n [.fz (.int (lowN K v).1), .fz (.int (2 * 2 ^ (lowN K v).2))] = .rt (mo (lowN (K + 1) v)) := by
  have h1 := lowN_le K v
  have e := run_l_low (k := (lowN K v).2 + 1) (n := n) (lowN K v).1 (by omega)
  rw [p2_succ] at e
  rw [e]
  refine congrArg (fun m => Out.rt (mo m)) (lowN_eq ?_)
  have h2 := lowN_val K v
  rw [p2_succ, p2_succ]
  grind
theorem mo_one (K : Nat) : PyData.tuple [.int 1, .int 1] = mo (lowN K (2 ^ K)) := by rw [one_eq]; rfl
theorem mo_zero (K : Nat) : PyData.tuple [.int 0, .int 1] = mo (lowN K 0) := by rw [zero_eq]; rfl
theorem run_l_sum_one {n K : Nat} (v : Int) (hK : K ≤ 60) (hn : 200 ≤ n) : b_l_sum n [.fz (mo (lowN K v)), .fz (.tuple [.int 1, .int 1])] = .rt (mo (lowN K (v + 2 ^ K))) := by
  rw [mo_one K]
  exact run_l_sum v _ hK hn
theorem eqv_mo (a b : Mo) : PyData.eqv (mo a) (mo b) = (decide (a = b)) := by
  show (a.1 == b.1 && ((2 : Int) ^ a.2 == 2 ^ b.2 && true)) = _
  have inj : ∀ i j : Nat, (2 : Int) ^ i = 2 ^ j → i = j := fun i j h => by
    rcases Nat.lt_trichotomy i j with c | c | c
    · have := Int.pow_lt_pow_of_lt (a := 2) (by decide) c
      omega
    · exact c
    · have := Int.pow_lt_pow_of_lt (a := 2) (by decide) c
      omega
  by_cases h : a = b
  · subst h; simp
  · rw [decide_eq_false h]
    by_cases h1 : a.1 = b.1
    · have h2 : ¬ (2 : Int) ^ a.2 = 2 ^ b.2 := fun z => h (Prod.ext h1 (inj _ _ z))
      rw [beq_eq_false_iff_ne.mpr h2]
      simp
    · rw [beq_eq_false_iff_ne.mpr h1]; rfl
theorem dEq_mo (a b : Mo) : dEq (mo a) (mo b) = some (.bool (decide (a = b))) := by
  rw [← eqv_mo]
  rfl
end L2.RC

namespace L2.RC
open PySem PySem.Spec PyProof.Rows
theorem run_l_fraction {n : Nat} (a b : Mo) : b_l_fraction n [.fz (mo a), .fz (mo b), .un] = .rt (.bool (decide (a = b))) := by
  have h := dEq_mo a b
  unfold b_l_fraction c_l_fraction_1
  simp only [mo_eq] at h ⊢
  simp only [a_nil, a_seq, a_if, a_ret, a_set, a_setO, a_sfrz, a_frz, a_mut, a_for, a_bin, a_seqv, a_var, a_c, a_un, a_tup, a_evs0, a_evs1, a_call, a_gs, a_gw, a_gnil, a_tof, a_tand, a_tor, a_tnot, a_and, a_or, a_not, a_eif, a_neg, a_lstD, a_rg1, a_rg2, a_ilst, a_itpl, a_olst, a_cat, a_ttrue, dAdd_int, dSub_int, dLt_int, dLe_int, dGt_int, dGe_int, dEq_int, dNe_int, dEq_bool, dNe_bool, dIs_non, dIsNot_non, isN_none, isN_int, isN_tup, isN_lst, dLen_list, dLen_t2, mo_0, mo_1, beq_self_eq_true, dAbs_int, ix_t0, ix_t1, isi_tt, isi_ib, isi_ii, isi_bb, isi_ll, isi_ss, mod_2, div_2, mul_two, Option.bind_some, Option.map_some, Option.some.injEq, List.getElem?_cons_zero, List.getElem?_cons_succ, List.set_cons_zero, List.set_cons_succ, List.cons_append, List.nil_append, List.replicate_zero, List.replicate_succ, List.append_nil, Bool.not_true, Bool.not_false, decide_true, decide_false, if_true, if_false, a_late, a_nopl, a_setX, a_tryN, a_tryL, a_setT, a_clr, a_ibr, a_iow, a_for0, a_for1, h]
end L2.RC

namespace L2.RC
open PySem PySem.Spec PyProof.Rows
theorem dIx_ints {ns : List Int} {k : Nat} (h : k < ns.length) : dIx (.list (ns.map .int)) (.int (k : Int)) = some (.int (cell ns k)) := by
  show atI (ns.map PyData.int) (k : Int) = _
  refine atI_nat ?_
  rw [List.getElem?_map]
  unfold cell
  rw [List.getElem?_eq_getElem h]
  rfl
theorem run_l_cell_at {n : Nat} (ns : List Int) (k : Nat) : b_l_cell_at n [.br (ns.map .int), .fz (.int (k : Int))] = .rt (.int (cell ns k)) := by
  unfold b_l_cell_at
  by_cases h : k < ns.length
  · have h' : (k : Int) < ((ns.map PyData.int).length : Int) := by rw [List.length_map]; omega
    simp only [a_nil, a_seq, a_if, a_ret, a_set, a_setO, a_sfrz, a_frz, a_mut, a_for, a_bin, a_seqv, a_var, a_c, a_un, a_tup, a_evs0, a_evs1, a_call, a_gs, a_gw, a_gnil, a_tof, a_tand, a_tor, a_tnot, a_and, a_or, a_not, a_eif, a_neg, a_lstD, a_rg1, a_rg2, a_ilst, a_itpl, a_olst, a_cat, a_ttrue, dAdd_int, dSub_int, dLt_int, dLe_int, dGt_int, dGe_int, dEq_int, dNe_int, dEq_bool, dNe_bool, dIs_non, dIsNot_non, isN_none, isN_int, isN_tup, isN_lst, dLen_list, dLen_t2, mo_0, mo_1, beq_self_eq_true, dAbs_int, ix_t0, ix_t1, isi_tt, isi_ib, isi_ii, isi_bb, isi_ll, isi_ss, mod_2, div_2, mul_two, Option.bind_some, Option.map_some, Option.some.injEq, List.getElem?_cons_zero, List.getElem?_cons_succ, List.set_cons_zero, List.set_cons_succ, List.cons_append, List.nil_append, List.replicate_zero, List.replicate_succ, List.append_nil, Bool.not_true, Bool.not_false, decide_true, decide_false, if_true, if_false, a_late, a_nopl, a_setX, a_tryN, a_tryL, a_setT, a_clr, a_ibr, a_iow, h', dIx_ints h]
  · have h' : ¬ (k : Int) < ((ns.map PyData.int).length : Int) := by rw [List.length_map]; omega
    have e : cell ns k = 0 := by unfold cell; rw [List.getElem?_eq_none (by omega)]; rfl
    simp only [a_nil, a_seq, a_if, a_ret, a_set, a_setO, a_sfrz, a_frz, a_mut, a_for, a_bin, a_seqv, a_var, a_c, a_un, a_tup, a_evs0, a_evs1, a_call, a_gs, a_gw, a_gnil, a_tof, a_tand, a_tor, a_tnot, a_and, a_or, a_not, a_eif, a_neg, a_lstD, a_rg1, a_rg2, a_ilst, a_itpl, a_olst, a_cat, a_ttrue, dAdd_int, dSub_int, dLt_int, dLe_int, dGt_int, dGe_int, dEq_int, dNe_int, dEq_bool, dNe_bool, dIs_non, dIsNot_non, isN_none, isN_int, isN_tup, isN_lst, dLen_list, dLen_t2, mo_0, mo_1, beq_self_eq_true, dAbs_int, ix_t0, ix_t1, isi_tt, isi_ib, isi_ii, isi_bb, isi_ll, isi_ss, mod_2, div_2, mul_two, Option.bind_some, Option.map_some, Option.some.injEq, List.getElem?_cons_zero, List.getElem?_cons_succ, List.set_cons_zero, List.set_cons_succ, List.cons_append, List.nil_append, List.replicate_zero, List.replicate_succ, List.append_nil, Bool.not_true, Bool.not_false, decide_true, decide_false, if_true, if_false, a_late, a_nopl, a_setX, a_tryN, a_tryL, a_setT, a_clr, a_ibr, a_iow, h', e]
end L2.RC

namespace L2.RC
open PySem PySem.Spec PyProof.Rows
theorem ix_r0 (r : Rope) : dIx (ropeD r) (.int 0) = some (.int r.1) := rfl
theorem ix_r1 (r : Rope) : dIx (ropeD r) (.int 1) = some (oD r.2) := rfl
theorem run_moment_of {n K : Nat} {acc : List Int} {a : Int} (h : numOk acc.length a) : b_moment_of n [.br (fl K acc), .fz (.int a)] = .rt (mo (lowN K (vOf acc a))) := by
  unfold b_moment_of
  rcases h with rfl | ⟨h0, h1⟩
  · simp only [a_nil, a_seq, a_if, a_ret, a_set, a_setO, a_sfrz, a_frz, a_mut, a_for, a_bin, a_seqv, a_var, a_c, a_un, a_tup, a_evs0, a_evs1, a_call, a_gs, a_gw, a_gnil, a_tof, a_tand, a_tor, a_tnot, a_and, a_or, a_not, a_eif, a_neg, a_lstD, a_rg1, a_rg2, a_ilst, a_itpl, a_olst, a_cat, a_ttrue, dAdd_int, dSub_int, dLt_int, dLe_int, dGt_int, dGe_int, dEq_int, dNe_int, dEq_bool, dNe_bool, dIs_non, dIsNot_non, isN_none, isN_int, isN_tup, isN_lst, dLen_list, dLen_t2, mo_0, mo_1, beq_self_eq_true, dAbs_int, ix_t0, ix_t1, isi_tt, isi_ib, isi_ii, isi_bb, isi_ll, isi_ss, mod_2, div_2, mul_two, Option.bind_some, Option.map_some, Option.some.injEq, List.getElem?_cons_zero, List.getElem?_cons_succ, List.set_cons_zero, List.set_cons_succ, List.cons_append, List.nil_append, List.replicate_zero, List.replicate_succ, List.append_nil, Bool.not_true, Bool.not_false, decide_true, decide_false, if_true, if_false, a_late, a_nopl, a_setX, a_tryN, a_tryL, a_setT, a_clr, a_ibr, a_iow, mo_zero K]
    rfl
  · have e : (a == -1) = false := beq_eq_false_iff_ne.mpr (by omega)
    simp only [a_nil, a_seq, a_if, a_ret, a_set, a_setO, a_sfrz, a_frz, a_mut, a_for, a_bin, a_seqv, a_var, a_c, a_un, a_tup, a_evs0, a_evs1, a_call, a_gs, a_gw, a_gnil, a_tof, a_tand, a_tor, a_tnot, a_and, a_or, a_not, a_eif, a_neg, a_lstD, a_rg1, a_rg2, a_ilst, a_itpl, a_olst, a_cat, a_ttrue, dAdd_int, dSub_int, dLt_int, dLe_int, dGt_int, dGe_int, dEq_int, dNe_int, dEq_bool, dNe_bool, dIs_non, dIsNot_non, isN_none, isN_int, isN_tup, isN_lst, dLen_list, dLen_t2, mo_0, mo_1, beq_self_eq_true, dAbs_int, ix_t0, ix_t1, isi_tt, isi_ib, isi_ii, isi_bb, isi_ll, isi_ss, mod_2, div_2, mul_two, Option.bind_some, Option.map_some, Option.some.injEq, List.getElem?_cons_zero, List.getElem?_cons_succ, List.set_cons_zero, List.set_cons_succ, List.cons_append, List.nil_append, List.replicate_zero, List.replicate_succ, List.append_nil, Bool.not_true, Bool.not_false, decide_true, decide_false, if_true, if_false, a_late, a_nopl, a_setX, a_tryN, a_tryL, a_setT, a_clr, a_ibr, a_iow, e, ix_num h0 h1]
theorem outs_loop {n K : Nat} (hn : 200 ≤ n) (hK : K ≤ 58) (p : List Rope) (hp : PlanOk p) : ∀ (rs : List Rope) (acc : List Int), p.drop acc.length = rs → acc.length + rs.length ≤ K → Dv K acc → ∀ x y z, ∃ x' y' z',
    forL 2 (c_outs_1 n) (rngD (acc.length : Int) rs.length) [.br (planD p), .ow (fl K acc), x, y, z] =
      (match outsV K rs acc with
        | (acc', none) => .nx [.br (planD p), .ow (fl K acc'), x', y', z']
        | (_, some j) => .rs (.late j))
  | [], acc, _, _, _, x, y, z => ⟨x, y, z, rfl⟩
  | (a, o) :: rs, acc, hd, hl, hD, x, y, z => by
    obtain ⟨hg, hd'⟩ := get_drop hd
    obtain ⟨na, nb⟩ := hp _ _ hg
    have hp' := planD_get hg
    rw [List.length_cons] at hl
    have m1 := run_moment_of (n := n) (K := K) na
    have hd2 : ∀ v, p.drop (acc ++ [v]).length = rs := fun v => by rw [List.length_append, List.length_singleton]; exact hd'
    have hl2 : ∀ v, (acc ++ [v]).length + rs.length ≤ K := fun v => by rw [List.length_append, List.length_singleton]; omega
    rw [List.length_cons, rngD_succ, a_for1]
    have el : ∀ v, ((acc.length : Int) + 1) = ((acc ++ [v]).length : Int) := fun v => by rw [List.length_append, List.length_singleton]; omega
    cases o with
    | none =>
      have r1 := run_hour_behind (n := n) (K := K) (vOf acc a)
      have ap := lAppend_fl (K := K) (acc := acc) (v := vOf acc a + 2 ^ K) (by omega)
      obtain ⟨x', y', z', ih⟩ := outs_loop hn hK p hp rs (acc ++ [vOf acc a + 2 ^ K]) (hd2 _) (hl2 _) (hD.hour na) (.fz (.int acc.length)) (.fz (mo (lowN K (vOf acc a)))) z
      refine ⟨x', y', z', ?_⟩
      have e : c_outs_1 n [.br (planD p), .ow (fl K acc), .fz (.int (acc.length : Int)), y, z] = .nx [.br (planD p), .ow (fl K (acc ++ [vOf acc a + 2 ^ K])), .fz (.int (acc.length : Int)), .fz (mo (lowN K (vOf acc a))), z] := by
        unfold c_outs_1
        simp only [a_nil, a_seq, a_if, a_ret, a_set, a_setO, a_sfrz, a_frz, a_mut, a_for, a_bin, a_seqv, a_var, a_c, a_un, a_tup, a_evs0, a_evs1, a_call, a_gs, a_gw, a_gnil, a_tof, a_tand, a_tor, a_tnot, a_and, a_or, a_not, a_eif, a_neg, a_lstD, a_rg1, a_rg2, a_ilst, a_itpl, a_olst, a_cat, a_ttrue, dAdd_int, dSub_int, dLt_int, dLe_int, dGt_int, dGe_int, dEq_int, dNe_int, dEq_bool, dNe_bool, dIs_non, dIsNot_non, isN_none, isN_int, isN_tup, isN_lst, dLen_list, dLen_t2, mo_0, mo_1, beq_self_eq_true, dAbs_int, ix_t0, ix_t1, isi_tt, isi_ib, isi_ii, isi_bb, isi_ll, isi_ss, mod_2, div_2, mul_two, Option.bind_some, Option.map_some, Option.some.injEq, List.getElem?_cons_zero, List.getElem?_cons_succ, List.set_cons_zero, List.set_cons_succ, List.cons_append, List.nil_append, List.replicate_zero, List.replicate_succ, List.append_nil, Bool.not_true, Bool.not_false, decide_true, decide_false, if_true, if_false, a_late, a_nopl, a_setX, a_tryN, a_tryL, a_setT, a_clr, a_ibr, a_iow, hp', ix_r0, ix_r1, m1, oD, r1, ap]
      show (match c_outs_1 n [.br (planD p), .ow (fl K acc), .fz (.int (acc.length : Int)), y, z] with | .nx ρ' => _ | .ct ρ' => _ | .bk ρ' => _ | o => o) = _
      rw [e]
      show forL 2 (c_outs_1 n) (rngD ((acc.length : Int) + 1) rs.length) _ = _
      rw [el (vOf acc a + 2 ^ K), ih]
      rfl
    | some b =>
      obtain ⟨nb, _⟩ := nb b rfl
      have m2 := run_moment_of (n := n) (K := K) nb
      have r1 := run_between (n := n) (K := K) (vOf acc a) (vOf acc b) (by omega) hn
      have r2 := run_earlier (n := n) (K := K) ((vOf acc a - vOf acc b).natAbs : Int) (2 ^ K) (by omega)
      have r3 := run_mean_and_half (n := n) (K := K) (vOf acc a) (vOf acc b) (by omega) hn
      obtain ⟨hh, hD2⟩ := hD.half na nb (by omega)
      rw [hh, lowN_two] at r3
      rw [← mo_one K] at r2
      have ap := lAppend_fl (K := K) (acc := acc) (v := (vOf acc a + vOf acc b + 2 ^ K) / 2) (by omega)
      by_cases c : ((vOf acc a - vOf acc b).natAbs : Int) < 2 ^ K
      · obtain ⟨x', y', z', ih⟩ := outs_loop hn hK p hp rs (acc ++ [(vOf acc a + vOf acc b + 2 ^ K) / 2]) (hd2 _) (hl2 _) hD2 (.fz (.int acc.length)) (.fz (mo (lowN K (vOf acc a)))) (.fz (mo (lowN K (vOf acc b))))
        refine ⟨x', y', z', ?_⟩
        rw [decide_eq_true c] at r2
        have e : c_outs_1 n [.br (planD p), .ow (fl K acc), .fz (.int (acc.length : Int)), y, z] = .nx [.br (planD p), .ow (fl K (acc ++ [(vOf acc a + vOf acc b + 2 ^ K) / 2])), .fz (.int (acc.length : Int)), .fz (mo (lowN K (vOf acc a))), .fz (mo (lowN K (vOf acc b)))] := by
          unfold c_outs_1
          simp only [a_nil, a_seq, a_if, a_ret, a_set, a_setO, a_sfrz, a_frz, a_mut, a_for, a_bin, a_seqv, a_var, a_c, a_un, a_tup, a_evs0, a_evs1, a_call, a_gs, a_gw, a_gnil, a_tof, a_tand, a_tor, a_tnot, a_and, a_or, a_not, a_eif, a_neg, a_lstD, a_rg1, a_rg2, a_ilst, a_itpl, a_olst, a_cat, a_ttrue, dAdd_int, dSub_int, dLt_int, dLe_int, dGt_int, dGe_int, dEq_int, dNe_int, dEq_bool, dNe_bool, dIs_non, dIsNot_non, isN_none, isN_int, isN_tup, isN_lst, dLen_list, dLen_t2, mo_0, mo_1, beq_self_eq_true, dAbs_int, ix_t0, ix_t1, isi_tt, isi_ib, isi_ii, isi_bb, isi_ll, isi_ss, mod_2, div_2, mul_two, Option.bind_some, Option.map_some, Option.some.injEq, List.getElem?_cons_zero, List.getElem?_cons_succ, List.set_cons_zero, List.set_cons_succ, List.cons_append, List.nil_append, List.replicate_zero, List.replicate_succ, List.append_nil, Bool.not_true, Bool.not_false, decide_true, decide_false, if_true, if_false, a_late, a_nopl, a_setX, a_tryN, a_tryL, a_setT, a_clr, a_ibr, a_iow, hp', ix_r0, ix_r1, m1, m2, oD, r1, r2, r3, ap]
        show (match c_outs_1 n [.br (planD p), .ow (fl K acc), .fz (.int (acc.length : Int)), y, z] with | .nx ρ' => _ | .ct ρ' => _ | .bk ρ' => _ | o => o) = _
        rw [e]
        show forL 2 (c_outs_1 n) (rngD ((acc.length : Int) + 1) rs.length) _ = _
        rw [el ((vOf acc a + vOf acc b + 2 ^ K) / 2), ih]
        have e2 : outsV K ((a, some b) :: rs) acc = outsV K rs (acc ++ [(vOf acc a + vOf acc b + 2 ^ K) / 2]) := if_pos c
        rw [e2]
      · refine ⟨x, y, z, ?_⟩
        rw [decide_eq_false c] at r2
        have e : c_outs_1 n [.br (planD p), .ow (fl K acc), .fz (.int (acc.length : Int)), y, z] = .rs (.late acc.length) := by
          unfold c_outs_1
          simp only [a_nil, a_seq, a_if, a_ret, a_set, a_setO, a_sfrz, a_frz, a_mut, a_for, a_bin, a_seqv, a_var, a_c, a_un, a_tup, a_evs0, a_evs1, a_call, a_gs, a_gw, a_gnil, a_tof, a_tand, a_tor, a_tnot, a_and, a_or, a_not, a_eif, a_neg, a_lstD, a_rg1, a_rg2, a_ilst, a_itpl, a_olst, a_cat, a_ttrue, dAdd_int, dSub_int, dLt_int, dLe_int, dGt_int, dGe_int, dEq_int, dNe_int, dEq_bool, dNe_bool, dIs_non, dIsNot_non, isN_none, isN_int, isN_tup, isN_lst, dLen_list, dLen_t2, mo_0, mo_1, beq_self_eq_true, dAbs_int, ix_t0, ix_t1, isi_tt, isi_ib, isi_ii, isi_bb, isi_ll, isi_ss, mod_2, div_2, mul_two, Option.bind_some, Option.map_some, Option.some.injEq, List.getElem?_cons_zero, List.getElem?_cons_succ, List.set_cons_zero, List.set_cons_succ, List.cons_append, List.nil_append, List.replicate_zero, List.replicate_succ, List.append_nil, Bool.not_true, Bool.not_false, decide_true, decide_false, if_true, if_false, a_late, a_nopl, a_setX, a_tryN, a_tryL, a_setT, a_clr, a_ibr, a_iow, hp', ix_r0, ix_r1, m1, m2, oD, r1, r2]
        show (match c_outs_1 n [.br (planD p), .ow (fl K acc), .fz (.int (acc.length : Int)), y, z] with | .nx ρ' => _ | .ct ρ' => _ | .bk ρ' => _ | o => o) = _
        rw [e]
        have e2 : outsV K ((a, some b) :: rs) acc = (acc, some acc.length) := if_neg c
        rw [e2]
theorem run_outs {n K : Nat} (hn : 200 ≤ n) (hK : K ≤ 58) (p : List Rope) (hp : PlanOk p) (hl : p.length ≤ K) : b_outs n [.br (planD p), .un, .un, .un, .un] =
    (match outsV K p [] with
      | (acc', none) => .rt (.list (fl K acc'))
      | (_, some j) => .rs (.late j)) := by
  obtain ⟨x', y', z', h⟩ := outs_loop hn hK p hp p [] rfl (by simpa using hl) (fun i v e => by simp at e) .un .un .un
  have hr : rngOk ((planD p).length : Int) = true := rngOk_iff.mpr (by rw [planD_len]; omega)
  unfold b_outs
  simp only [a_nil, a_seq, a_if, a_ret, a_set, a_setO, a_sfrz, a_frz, a_mut, a_for, a_bin, a_seqv, a_var, a_c, a_un, a_tup, a_evs0, a_evs1, a_call, a_gs, a_gw, a_gnil, a_tof, a_tand, a_tor, a_tnot, a_and, a_or, a_not, a_eif, a_neg, a_lstD, a_rg1, a_rg2, a_ilst, a_itpl, a_olst, a_cat, a_ttrue, dAdd_int, dSub_int, dLt_int, dLe_int, dGt_int, dGe_int, dEq_int, dNe_int, dEq_bool, dNe_bool, dIs_non, dIsNot_non, isN_none, isN_int, isN_tup, isN_lst, dLen_list, dLen_t2, mo_0, mo_1, beq_self_eq_true, dAbs_int, ix_t0, ix_t1, isi_tt, isi_ib, isi_ii, isi_bb, isi_ll, isi_ss, mod_2, div_2, mul_two, Option.bind_some, Option.map_some, Option.some.injEq, List.getElem?_cons_zero, List.getElem?_cons_succ, List.set_cons_zero, List.set_cons_succ, List.cons_append, List.nil_append, List.replicate_zero, List.replicate_succ, List.append_nil, Bool.not_true, Bool.not_false, decide_true, decide_false, if_true, if_false, a_late, a_nopl, a_setX, a_tryN, a_tryL, a_setT, a_clr, a_ibr, a_iow, hr, planD_len, Int.toNat_natCast]
  have h' : forL 2 (c_outs_1 n) (rngD 0 p.length) [.br (planD p), .ow [], .un, .un, .un] = _ := h
  rw [planD_len] at hr
  simp only [hr, if_true, h']
  cases e : outsV K p [] with
  | mk acc' o =>
    cases o with
    | none => simp only [a_nil, a_seq, a_if, a_ret, a_set, a_setO, a_sfrz, a_frz, a_mut, a_for, a_bin, a_seqv, a_var, a_c, a_un, a_tup, a_evs0, a_evs1, a_call, a_gs, a_gw, a_gnil, a_tof, a_tand, a_tor, a_tnot, a_and, a_or, a_not, a_eif, a_neg, a_lstD, a_rg1, a_rg2, a_ilst, a_itpl, a_olst, a_cat, a_ttrue, dAdd_int, dSub_int, dLt_int, dLe_int, dGt_int, dGe_int, dEq_int, dNe_int, dEq_bool, dNe_bool, dIs_non, dIsNot_non, isN_none, isN_int, isN_tup, isN_lst, dLen_list, dLen_t2, mo_0, mo_1, beq_self_eq_true, dAbs_int, ix_t0, ix_t1, isi_tt, isi_ib, isi_ii, isi_bb, isi_ll, isi_ss, mod_2, div_2, mul_two, Option.bind_some, Option.map_some, Option.some.injEq, List.getElem?_cons_zero, List.getElem?_cons_succ, List.set_cons_zero, List.set_cons_succ, List.cons_append, List.nil_append, List.replicate_zero, List.replicate_succ, List.append_nil, Bool.not_true, Bool.not_false, decide_true, decide_false, if_true, if_false, a_late, a_nopl, a_setX, a_tryN, a_tryL, a_setT, a_clr, a_ibr, a_iow]
    | some j => rfl
end L2.RC

namespace L2.RC
open PySem PySem.Spec PyProof.Rows
/-! ### one construct at a time -/
theorem seq_step {f g : SFn} {r0 r1 : DEnv} {o : Out} (h1 : f r0 = .nx r1) (h2 : g r1 = o) : sSeq f g r0 = o := by rw [a_seq, h1]; exact h2
theorem setO_step {i : Nat} {fo : OFn} {ρ : DEnv} {ds : List PyData} (h : fo ρ = some ds) : sSetO i fo ρ = .nx (ρ.set i (.ow ds)) := by rw [a_setO, h]
theorem set_step {i : Nat} {f : EFn} {ρ : DEnv} {d : PyData} (h : f ρ = some d) : sSet i f ρ = .nx (ρ.set i (.fz d)) := by rw [a_set, h]
theorem call_step {b : SFn} {m : Nat} {fg : LFn} {ρ : DEnv} {ss : List Sl} {d : PyData} (h1 : fg ρ = some ss) (h2 : b (ss ++ List.replicate m .un) = .rt d) : eCall b m fg ρ = some d := by
  rw [a_call, h1]
  show (match b (ss ++ List.replicate m .un) with | .rt d => some d | .nx _ => some .none | _ => none) = some d
  rw [h2]
theorem if_step {ft : TFn} {f g : SFn} {ρ : DEnv} {k : Bool} (h : ft ρ = some k) : sIf ft f g ρ = if k = true then f ρ else g ρ := by
  rw [a_if, h]
  cases k <;> rfl
theorem if_no {ft : TFn} {f : SFn} {ρ : DEnv} (h : ft ρ = some false) : sIf ft f sNil ρ = .nx ρ := by rw [a_if, h]; rfl
theorem if_yes {ft : TFn} {f g : SFn} {ρ : DEnv} (h : ft ρ = some true) : sIf ft f g ρ = f ρ := by rw [a_if, h]
theorem tof_step {f : EFn} {ρ : DEnv} {k : Bool} (h : f ρ = some (.bool k)) : tOf f ρ = some k := by rw [a_tof, h]
theorem tnot_step {f : TFn} {ρ : DEnv} {k : Bool} (h : f ρ = some k) : tNot2 f ρ = some (!k) := by rw [a_tnot, h]; rfl
theorem bin_step {g : PyData → PyData → Option PyData} {fa fb : EFn} {ρ : DEnv} {x y z : PyData} (h1 : fa ρ = some x) (h2 : fb ρ = some y) (h3 : g x y = some z) : eBin g fa fb ρ = some z := by rw [a_bin, h1, h2]; exact h3
theorem ret_step {f : EFn} {ρ : DEnv} {d : PyData} (h : f ρ = some d) : sRet f ρ = .rt d := by rw [a_ret, h]
theorem gw_step {f : EFn} {fg : LFn} {ρ : DEnv} {ds : List PyData} {ss : List Sl} (h1 : f ρ = some (.list ds)) (h2 : fg ρ = some ss) : gW f fg ρ = some (.br ds :: ss) := by rw [a_gw, h1, h2]; rfl
theorem gs_step {f : EFn} {fg : LFn} {ρ : DEnv} {d : PyData} {ss : List Sl} (h1 : f ρ = some d) (h2 : fg ρ = some ss) : gS f fg ρ = some (.fz d :: ss) := by rw [a_gs, h1, h2]; rfl
theorem setT_step {i : Nat} {b : SFn} {m : Nat} {fg : LFn} {ρ : DEnv} {ss : List Sl} {ds : List PyData} (h1 : fg ρ = some ss) (hf : ss.all slFree = true) (h2 : b (ss ++ List.replicate m .un) = .rt (.list ds)) (hn : noLs ds = true) : sSetT i b m fg ρ = .nx (ρ.set i (.ow ds)) := by
  rw [a_setT, h1]
  show (if ss.all slFree = true then (match b (ss ++ List.replicate m .un) with | .rt (.list ds) => if noLs ds = true then Out.nx (ρ.set i (.ow ds)) else Out.no | .rt .none => Out.nx (ρ.set i (.fz .none)) | _ => Out.no) else Out.no) = _
  rw [if_pos hf, h2]
  exact if_pos hn
theorem setT_none {i : Nat} {b : SFn} {m : Nat} {fg : LFn} {ρ : DEnv} {ss : List Sl} (h1 : fg ρ = some ss) (hf : ss.all slFree = true) (h2 : b (ss ++ List.replicate m .un) = .rt .none) : sSetT i b m fg ρ = .nx (ρ.set i (.fz .none)) := by
  rw [a_setT, h1]
  show (if ss.all slFree = true then (match b (ss ++ List.replicate m .un) with | .rt (.list ds) => if noLs ds = true then Out.nx (ρ.set i (.ow ds)) else Out.no | .rt .none => Out.nx (ρ.set i (.fz .none)) | _ => Out.no) else Out.no) = _
  rw [if_pos hf, h2]
theorem for_step {i : Nat} {fi : OFn} {s : SFn} {ρ : DEnv} {ds : List PyData} {o : Out} (h1 : fi ρ = some ds) (h2 : forL i s ds ρ = o) : sFor i fi s ρ = o := by rw [a_for, h1]; exact h2
theorem for1_step {i : Nat} {s : SFn} {d : PyData} {ds : List PyData} {r0 r1 : DEnv} {o : Out} (h1 : s (r0.set i (.fz d)) = .nx r1) (h2 : forL i s ds r1 = o) : forL i s (d :: ds) r0 = o := by
  rw [a_for1, h1]
  exact h2
theorem for1_stop {i : Nat} {s : SFn} {d : PyData} {ds : List PyData} {r0 : DEnv} {x : PyData} (h1 : s (r0.set i (.fz d)) = .rt x) : forL i s (d :: ds) r0 = .rt x := by rw [a_for1, h1]
theorem comp_step {i : Nat} {fi : OFn} {ft : TFn} {f : EFn} {ρ : DEnv} {ds : List PyData} {o : Option (List PyData)} (h1 : fi ρ = some ds) (hl : ds.length ≤ 1000000) (h2 : compL i ft f ρ ds = o) : oComp i fi ft f ρ = o := by
  rw [a_comp, h1]
  show (if ds.length ≤ 1000000 then _ else _) = _
  rw [if_pos hl]
  exact h2
end L2.RC

namespace L2.RC
open PySem PySem.Spec PyProof.Rows
/-! ### what the walk keeps in its lists -/
def resL (K : Nat) (G : List Int) (t : Int) (p : List Rope) : List Int := (p.zip G).map fun x => resV K G t x.1 x.2
def gonE (K : Nat) (t v : Int) : PyData := if v ≤ t then mo (lowN K v) else .none
def gonD (K : Nat) (G : List Int) (t : Int) : List PyData := G.map (gonE K t)
def firD (G : List Int) (t : Int) (p : List Rope) : List PyData := p.map fun r => .int (firV G t r)
structure Walk (K : Nat) (p : List Rope) (G : List Int) : Prop where
  ok : PlanOk p
  len : G.length = p.length
  pos : ∀ v ∈ G, 0 < v
  even : ∀ v ∈ G, v % 2 = 0
  evM : (2 : Int) ^ K % 2 = 0
  few : p.length < 100
  goes : ∀ (i : Nat) (r : Rope), p[i]? = some r → ∃ v, G[i]? = some v ∧ WG K G r v
theorem Walk.zip {K : Nat} {p : List Rope} {G : List Int} (w : Walk K p G) {x : Rope × Int} (h : x ∈ p.zip G) : WG K G x.1 x.2 ∧ x.2 ∈ G ∧ numOk G.length x.1.1 ∧ ∀ b, x.1.2 = some b → numOk G.length b := by
  obtain ⟨i, hi⟩ := List.mem_iff_getElem?.mp h
  obtain ⟨h1, h2⟩ := List.getElem?_zip_eq_some.mp hi
  obtain ⟨v, h3, h4⟩ := w.goes i _ h1
  rw [h2] at h3
  cases h3
  refine ⟨h4, List.mem_of_getElem? h2, ?_⟩
  rw [w.len]
  exact plan_num w.ok h1
theorem Walk.zlen {K : Nat} {p : List Rope} {G : List Int} (w : Walk K p G) : (p.zip G).length = p.length := by
  rw [List.length_zip, w.len, Nat.min_self]
theorem zip_get {p : List Rope} {G : List Int} {k : Nat} {x : Rope × Int} (h : (p.zip G)[k]? = some x) : p[k]? = some x.1 ∧ G[k]? = some x.2 := List.getElem?_zip_eq_some.mp h
theorem resL_len {K : Nat} {p : List Rope} {G : List Int} {t : Int} : (resL K G t p).length = (p.zip G).length := List.length_map _
theorem resL_get {K : Nat} {p : List Rope} {G : List Int} {t : Int} {k : Nat} {x : Rope × Int} (h : (p.zip G)[k]? = some x) : (resL K G t p)[k]? = some (resV K G t x.1 x.2) := by
  unfold resL
  rw [List.getElem?_map, h] <;> rfl
theorem gonD_get {K : Nat} {G : List Int} {t : Int} {k : Nat} {v : Int} (h : G[k]? = some v) : (gonD K G t)[k]? = some (gonE K t v) := by
  unfold gonD
  rw [List.getElem?_map, h] <;> rfl
theorem ix_fir {p : List Rope} {G : List Int} {t : Int} {k : Nat} {r : Rope} (h : p[k]? = some r) : dIx (.list (firD G t p)) (.int (k : Int)) = some (.int (firV G t r)) := atI_nat' (by
  unfold firD
  rw [List.getElem?_map, h] <;> rfl)
theorem ix_gon {K : Nat} {G : List Int} {t : Int} {k : Nat} {v : Int} (h : G[k]? = some v) : dIx (.list (gonD K G t)) (.int (k : Int)) = some (gonE K t v) := atI_nat' (gonD_get h)
theorem ix_fl {K : Nat} {L : List Int} {k : Nat} {v : Int} (h : L[k]? = some v) : dIx (.list (fl K L)) (.int (k : Int)) = some (mo (lowN K v)) := atI_nat' (by
  unfold fl
  rw [List.getElem?_map, h] <;> rfl)
theorem gonE_in {K : Nat} {t v : Int} (h : t < v) : gonE K t v = .none := if_neg (by omega)
theorem gonE_out {K : Nat} {t v : Int} (h : v ≤ t) : gonE K t v = mo (lowN K v) := if_pos h
theorem isN_mo (m : Mo) : isN (mo m) = false := rfl
theorem eatenV_even {G : List Int} {t : Int} {r : Rope} (ht : t % 2 = 0) (h1 : vOf G r.1 % 2 = 0) (h2 : ∀ b, r.2 = some b → vOf G b % 2 = 0) : eatenV G t r % 2 = 0 := by
  obtain ⟨a, o⟩ := r
  have h1 : vOf G a % 2 = 0 := h1
  unfold eatenV burntV
  cases o with
  | none => dsimp only; split <;> omega
  | some b =>
    have h2 := h2 b rfl
    dsimp only
    split <;> split <;> omega
theorem Walk.resEven {K : Nat} {p : List Rope} {G : List Int} (w : Walk K p G) {t : Int} (ht : t % 2 = 0) {x : Rope × Int} (h : x ∈ p.zip G) : resV K G t x.1 x.2 % 2 = 0 := by
  obtain ⟨_, _, n1, n2⟩ := w.zip h
  have ev : ∀ a, numOk G.length a → vOf G a % 2 = 0 := fun a ha => by
    rcases vOf_mem ha with e | e
    · rw [e]; rfl
    · exact w.even _ e
  have := eatenV_even (t := t) ht (ev _ n1) fun b hb => ev _ (n2 b hb)
  have hM := w.evM
  unfold resV
  split <;> omega
/-! ### the ends that burn now -/
theorem lit_num {n K : Nat} {G : List Int} {t a : Int} (h0 : 0 ≤ t) (ha : numOk G.length a) (s0 s2 s3 : Sl) (c : Int) :
    c_l_lit_now_1 n [s0, .br (gonD K G t), s2, s3, .fz (.int c), .fz (.int a)] = .nx [s0, .br (gonD K G t), s2, s3, .fz (.int (c + if vOf G a ≤ t then 1 else 0)), .fz (.int a)] := by
  unfold c_l_lit_now_1
  rcases ha with rfl | ⟨h1, h2⟩
  · rw [show vOf G (-1) = 0 from rfl, if_pos h0]
    simp only [a_nil, a_seq, a_if, a_ret, a_set, a_setO, a_sfrz, a_frz, a_mut, a_for, a_bin, a_seqv, a_var, a_c, a_un, a_tup, a_evs0, a_evs1, a_call, a_gs, a_gw, a_gnil, a_tof, a_tand, a_tor, a_tnot, a_and, a_or, a_not, a_eif, a_neg, a_lstD, a_rg1, a_rg2, a_ilst, a_itpl, a_olst, a_cat, a_ttrue, dAdd_int, dSub_int, dLt_int, dLe_int, dGt_int, dGe_int, dEq_int, dNe_int, dEq_bool, dNe_bool, dIs_non, dIsNot_non, isN_none, isN_int, isN_tup, isN_lst, dLen_list, dLen_t2, mo_0, mo_1, beq_self_eq_true, dAbs_int, ix_t0, ix_t1, isi_tt, isi_ib, isi_ii, isi_bb, isi_ll, isi_ss, mod_2, div_2, mul_two, Option.bind_some, Option.map_some, Option.some.injEq, List.getElem?_cons_zero, List.getElem?_cons_succ, List.set_cons_zero, List.set_cons_succ, List.cons_append, List.nil_append, List.replicate_zero, List.replicate_succ, List.append_nil, Bool.not_true, Bool.not_false, decide_true, decide_false, if_true, if_false, a_late, a_nopl, a_setX, a_tryN, a_tryL, a_setT, a_clr, a_ibr, a_iow]
  · have e : (a == -1) = false := beq_eq_false_iff_ne.mpr (by omega)
    obtain ⟨k, rfl⟩ := Int.eq_ofNat_of_zero_le h1
    have hk : k < G.length := by omega
    have hv : G[k]? = some (vOf G (k : Int)) := by
      unfold vOf
      rw [if_neg (by omega), Int.toNat_natCast, List.getElem?_eq_getElem hk]
      rfl
    have ix := ix_gon (K := K) (t := t) hv
    by_cases c : vOf G (k : Int) ≤ t
    · rw [gonE_out c] at ix
      simp only [a_nil, a_seq, a_if, a_ret, a_set, a_setO, a_sfrz, a_frz, a_mut, a_for, a_bin, a_seqv, a_var, a_c, a_un, a_tup, a_evs0, a_evs1, a_call, a_gs, a_gw, a_gnil, a_tof, a_tand, a_tor, a_tnot, a_and, a_or, a_not, a_eif, a_neg, a_lstD, a_rg1, a_rg2, a_ilst, a_itpl, a_olst, a_cat, a_ttrue, dAdd_int, dSub_int, dLt_int, dLe_int, dGt_int, dGe_int, dEq_int, dNe_int, dEq_bool, dNe_bool, dIs_non, dIsNot_non, isN_none, isN_int, isN_tup, isN_lst, dLen_list, dLen_t2, mo_0, mo_1, beq_self_eq_true, dAbs_int, ix_t0, ix_t1, isi_tt, isi_ib, isi_ii, isi_bb, isi_ll, isi_ss, mod_2, div_2, mul_two, Option.bind_some, Option.map_some, Option.some.injEq, List.getElem?_cons_zero, List.getElem?_cons_succ, List.set_cons_zero, List.set_cons_succ, List.cons_append, List.nil_append, List.replicate_zero, List.replicate_succ, List.append_nil, Bool.not_true, Bool.not_false, decide_true, decide_false, if_true, if_false, a_late, a_nopl, a_setX, a_tryN, a_tryL, a_setT, a_clr, a_ibr, a_iow, e, ix, isN_mo]
      rw [if_pos c]
    · rw [gonE_in (by omega)] at ix
      simp only [a_nil, a_seq, a_if, a_ret, a_set, a_setO, a_sfrz, a_frz, a_mut, a_for, a_bin, a_seqv, a_var, a_c, a_un, a_tup, a_evs0, a_evs1, a_call, a_gs, a_gw, a_gnil, a_tof, a_tand, a_tor, a_tnot, a_and, a_or, a_not, a_eif, a_neg, a_lstD, a_rg1, a_rg2, a_ilst, a_itpl, a_olst, a_cat, a_ttrue, dAdd_int, dSub_int, dLt_int, dLe_int, dGt_int, dGe_int, dEq_int, dNe_int, dEq_bool, dNe_bool, dIs_non, dIsNot_non, isN_none, isN_int, isN_tup, isN_lst, dLen_list, dLen_t2, mo_0, mo_1, beq_self_eq_true, dAbs_int, ix_t0, ix_t1, isi_tt, isi_ib, isi_ii, isi_bb, isi_ll, isi_ss, mod_2, div_2, mul_two, Option.bind_some, Option.map_some, Option.some.injEq, List.getElem?_cons_zero, List.getElem?_cons_succ, List.set_cons_zero, List.set_cons_succ, List.cons_append, List.nil_append, List.replicate_zero, List.replicate_succ, List.append_nil, Bool.not_true, Bool.not_false, decide_true, decide_false, if_true, if_false, a_late, a_nopl, a_setX, a_tryN, a_tryL, a_setT, a_clr, a_ibr, a_iow, e, ix]
      rw [if_neg c, Int.add_zero]
theorem lit_none {n : Nat} (s0 s1 s2 s3 s4 : Sl) : c_l_lit_now_1 n [s0, s1, s2, s3, s4, .fz .none] = .nx [s0, s1, s2, s3, s4, .fz .none] := by
  unfold c_l_lit_now_1
  simp only [a_nil, a_seq, a_if, a_ret, a_set, a_setO, a_sfrz, a_frz, a_mut, a_for, a_bin, a_seqv, a_var, a_c, a_un, a_tup, a_evs0, a_evs1, a_call, a_gs, a_gw, a_gnil, a_tof, a_tand, a_tor, a_tnot, a_and, a_or, a_not, a_eif, a_neg, a_lstD, a_rg1, a_rg2, a_ilst, a_itpl, a_olst, a_cat, a_ttrue, dAdd_int, dSub_int, dLt_int, dLe_int, dGt_int, dGe_int, dEq_int, dNe_int, dEq_bool, dNe_bool, dIs_non, dIsNot_non, isN_none, isN_int, isN_tup, isN_lst, dLen_list, dLen_t2, mo_0, mo_1, beq_self_eq_true, dAbs_int, ix_t0, ix_t1, isi_tt, isi_ib, isi_ii, isi_bb, isi_ll, isi_ss, mod_2, div_2, mul_two, Option.bind_some, Option.map_some, Option.some.injEq, List.getElem?_cons_zero, List.getElem?_cons_succ, List.set_cons_zero, List.set_cons_succ, List.cons_append, List.nil_append, List.replicate_zero, List.replicate_succ, List.append_nil, Bool.not_true, Bool.not_false, decide_true, decide_false, if_true, if_false, a_late, a_nopl, a_setX, a_tryN, a_tryL, a_setT, a_clr, a_ibr, a_iow]
theorem lit_rope {n K : Nat} {G : List Int} {t : Int} {r : Rope} (h0 : 0 ≤ t) (n1 : numOk G.length r.1) (n2 : ∀ b, r.2 = some b → numOk G.length b) (s0 : Sl) (F : List PyData) (hF : F.length < 1000) (x y : Sl) : ∃ x' y',
    c_l_lit_now_2 n [s0, .br (gonD K G t), .ow F, .fz (ropeD r), x, y] = .nx [s0, .br (gonD K G t), .ow (F ++ [.int (firV G t r)]), .fz (ropeD r), x', y'] := by
  obtain ⟨a, o⟩ := r
  have ap : ∀ d, lAppend F d = some (F ++ [d]) := fun d => by
    unfold lAppend
    rw [if_pos (by omega)]
  have t1 := lit_num (n := n) (K := K) h0 n1 s0 (.ow F) (.fz (ropeD (a, o))) 0
  cases o with
  | none =>
    have lp : forL 5 (c_l_lit_now_1 n) [.int a, .none] [s0, .br (gonD K G t), .ow F, .fz (ropeD (a, none)), .fz (.int 0), y] = .nx [s0, .br (gonD K G t), .ow F, .fz (ropeD (a, none)), .fz (.int (0 + if vOf G a ≤ t then 1 else 0)), .fz .none] := by
      exact for1_step t1 (for1_step (lit_none _ _ _ _ _) rfl)
    have it : iTpl (eVar 3) [s0, .br (gonD K G t), .ow F, .fz (ropeD (a, none)), .fz (.int 0), y] = some [.int a, .none] := rfl
    refine ⟨.fz (.int (0 + if vOf G a ≤ t then 1 else 0)), .fz .none, ?_⟩
    unfold c_l_lit_now_2
    simp only [a_seq, a_set, a_c, List.set_cons_zero, List.set_cons_succ, a_for, it, lp, a_mut, List.getElem?_cons_zero, List.getElem?_cons_succ, a_var, ap]
    unfold firV
    dsimp only
    rw [Int.zero_add, Int.add_zero]
  | some b =>
    have t2 := lit_num (n := n) (K := K) h0 (n2 b rfl) s0 (.ow F) (.fz (ropeD (a, some b))) (0 + if vOf G a ≤ t then 1 else 0)
    have lp : forL 5 (c_l_lit_now_1 n) [.int a, .int b] [s0, .br (gonD K G t), .ow F, .fz (ropeD (a, some b)), .fz (.int 0), y] = .nx [s0, .br (gonD K G t), .ow F, .fz (ropeD (a, some b)), .fz (.int (0 + (if vOf G a ≤ t then 1 else 0) + if vOf G b ≤ t then 1 else 0)), .fz (.int b)] := by
      exact for1_step t1 (for1_step t2 rfl)
    have it : iTpl (eVar 3) [s0, .br (gonD K G t), .ow F, .fz (ropeD (a, some b)), .fz (.int 0), y] = some [.int a, .int b] := rfl
    refine ⟨.fz (.int (0 + (if vOf G a ≤ t then 1 else 0) + if vOf G b ≤ t then 1 else 0)), .fz (.int b), ?_⟩
    unfold c_l_lit_now_2
    simp only [a_seq, a_set, a_c, List.set_cons_zero, List.set_cons_succ, a_for, it, lp, a_mut, List.getElem?_cons_zero, List.getElem?_cons_succ, a_var, ap]
    unfold firV
    dsimp only
    rw [Int.zero_add]
theorem lit_loop {n K : Nat} {G : List Int} {t : Int} (h0 : 0 ≤ t) (s0 : Sl) : ∀ (rs : List Rope) (F : List PyData), (∀ r ∈ rs, numOk G.length r.1 ∧ ∀ b, r.2 = some b → numOk G.length b) → F.length + rs.length < 1000 → ∀ w x y, ∃ w' x' y',
    forL 3 (c_l_lit_now_2 n) (planD rs) [s0, .br (gonD K G t), .ow F, w, x, y] = .nx [s0, .br (gonD K G t), .ow (F ++ firD G t rs), w', x', y']
  | [], F, _, _, w, x, y => ⟨w, x, y, by rw [show firD G t [] = [] from rfl, List.append_nil]; rfl⟩
  | r :: rs, F, h, hl, w, x, y => by
    rw [List.length_cons] at hl
    obtain ⟨n1, n2⟩ := h r List.mem_cons_self
    obtain ⟨x1, y1, t1⟩ := lit_rope (n := n) (K := K) h0 n1 n2 s0 F (by omega) x y
    obtain ⟨w', x', y', ih⟩ := lit_loop (n := n) (K := K) h0 s0 rs (F ++ [.int (firV G t r)]) (fun q hq => h q (List.mem_cons_of_mem _ hq)) (by rw [List.length_append, List.length_singleton]; omega) (.fz (ropeD r)) x1 y1
    refine ⟨w', x', y', ?_⟩
    show forL 3 (c_l_lit_now_2 n) (ropeD r :: planD rs) _ = _
    rw [a_for1]
    show (match c_l_lit_now_2 n [s0, .br (gonD K G t), .ow F, .fz (ropeD r), x, y] with | .nx ρ' => _ | .ct ρ' => _ | .bk ρ' => _ | o => o) = _
    rw [t1]
    refine ih.trans ?_
    rw [List.append_assoc]
    rfl
theorem run_l_lit_now {n K : Nat} {p : List Rope} {G : List Int} (w : Walk K p G) {t : Int} (h0 : 0 ≤ t) : b_l_lit_now n [.fz (.list (planD p)), .br (gonD K G t), .un, .un, .un, .un] = .rt (.list (firD G t p)) := by
  obtain ⟨w', x', y', lp⟩ := lit_loop (n := n) (K := K) (G := G) h0 (.fz (.list (planD p))) p [] (fun r hr => by
    obtain ⟨i, hi⟩ := List.mem_iff_getElem?.mp hr
    rw [w.len]
    exact plan_num w.ok hi) (by have := w.few; rw [List.length_nil]; omega) .un .un .un
  rw [List.nil_append] at lp
  unfold b_l_lit_now
  simp only [a_nil, a_seq, a_if, a_ret, a_set, a_setO, a_sfrz, a_frz, a_mut, a_for, a_bin, a_seqv, a_var, a_c, a_un, a_tup, a_evs0, a_evs1, a_call, a_gs, a_gw, a_gnil, a_tof, a_tand, a_tor, a_tnot, a_and, a_or, a_not, a_eif, a_neg, a_lstD, a_rg1, a_rg2, a_ilst, a_itpl, a_olst, a_cat, a_ttrue, dAdd_int, dSub_int, dLt_int, dLe_int, dGt_int, dGe_int, dEq_int, dNe_int, dEq_bool, dNe_bool, dIs_non, dIsNot_non, isN_none, isN_int, isN_tup, isN_lst, dLen_list, dLen_t2, mo_0, mo_1, beq_self_eq_true, dAbs_int, ix_t0, ix_t1, isi_tt, isi_ib, isi_ii, isi_bb, isi_ll, isi_ss, mod_2, div_2, mul_two, Option.bind_some, Option.map_some, Option.some.injEq, List.getElem?_cons_zero, List.getElem?_cons_succ, List.set_cons_zero, List.set_cons_succ, List.cons_append, List.nil_append, List.replicate_zero, List.replicate_succ, List.append_nil, Bool.not_true, Bool.not_false, decide_true, decide_false, if_true, if_false, a_late, a_nopl, a_setX, a_tryN, a_tryL, a_setT, a_clr, a_ibr, a_iow, lp]
/-! ### the least time left -/
theorem run_low_by {n K : Nat} {x f : Int} (hn : 200 ≤ n) (hK : K ≤ 58) (hf : f = 1 ∨ f = 2) (hx : x % 2 = 0) : b_l_low n [.fz (.int (lowN K x).1), .fz (.int (2 ^ (lowN K x).2 * f))] = .rt (mo (lowN K (if f = 2 then x / 2 else x))) := by
  have hl := lowN_le K x
  rcases hf with rfl | rfl
  · rw [Int.mul_one, if_neg (by decide), run_l_low _ (by omega), lowN_idem]
  · rw [if_pos rfl, Int.mul_comm, run_low_half x (by omega) hn]
    have e : lowN (K + 1) x = lowN K (x / 2) := (congrArg (lowN (K + 1)) (show x = 2 * (x / 2) by omega)).trans (lowN_two K _)
    rw [e]
theorem run_low_tim {n K : Nat} {s f : Int} (hn : 200 ≤ n) (hK : K ≤ 58) : b_l_low n [.fz (.int ((lowN K s).1 * f)), .fz (.int (2 ^ (lowN K s).2))] = .rt (mo (lowN K (s * f))) := by
  have hl := lowN_le K s
  have hv := lowN_val K s
  rw [run_l_low _ (by omega)]
  refine congrArg (fun m => Out.rt (mo m)) (lowN_eq ?_)
  generalize (lowN K s).1 = a at *
  generalize (2 : Int) ^ (lowN K s).2 = b at *
  generalize (2 : Int) ^ K = c at *
  grind
def bestD (K : Nat) : Option Int → PyData
  | none => .none
  | some x => mo (lowN K x)
def candV (K : Nat) (G : List Int) (t : Int) (x : Rope × Int) : Option Int := if 0 < firV G t x.1 ∧ t < x.2 then some (if firV G t x.1 = 2 then resV K G t x.1 x.2 / 2 else resV K G t x.1 x.2) else none
theorem next_turn {n K : Nat} (hn : 200 ≤ n) (hK : K ≤ 58) {p : List Rope} {G : List Int} {t : Int} {k : Nat} {x : Rope × Int} (hx : (p.zip G)[k]? = some x) (he : resV K G t x.1 x.2 % 2 = 0) (b : Option Int) (y : Sl) : ∃ y',
    c_l_next_1 n [.br (fl K (resL K G t p)), .fz (.list (firD G t p)), .br (gonD K G t), .fz (bestD K b), .fz (.int (k : Int)), y] = .nx [.br (fl K (resL K G t p)), .fz (.list (firD G t p)), .br (gonD K G t), .fz (bestD K (bestF b (candV K G t x))), .fz (.int (k : Int)), y'] := by
  obtain ⟨hr, hv⟩ := zip_get hx
  have i1 := ix_fl (K := K) (resL_get (K := K) (t := t) hx)
  have i2 := ix_fir (G := G) (t := t) hr
  have i3 := ix_gon (K := K) (t := t) hv
  have fc := firV_cases G t x.1
  unfold candV
  generalize resV K G t x.1 x.2 = q at *
  generalize firV G t x.1 = f at *
  by_cases cf : 0 < f
  · have cf' : decide (0 < f) = true := decide_eq_true cf
    by_cases cv : t < x.2
    · rw [gonE_in cv] at i3
      rw [if_pos ⟨cf, cv⟩]
      have mu : dMul (.int (2 ^ (lowN K q).2)) (.int f) = some (.int (2 ^ (lowN K q).2 * f)) := mul_r (by rcases fc with h | h | h <;> subst h <;> decide)
      have lw := run_low_by (n := n) (K := K) (x := q) (f := f) hn hK (by omega) he
      generalize (if f = 2 then q / 2 else q) = z at *
      cases b with
      | none =>
        refine ⟨.fz (mo (lowN K z)), ?_⟩
        unfold c_l_next_1
        simp only [a_nil, a_seq, a_if, a_ret, a_set, a_setO, a_sfrz, a_frz, a_mut, a_for, a_bin, a_seqv, a_var, a_c, a_un, a_tup, a_evs0, a_evs1, a_call, a_gs, a_gw, a_gnil, a_tof, a_tand, a_tor, a_tnot, a_and, a_or, a_not, a_eif, a_neg, a_lstD, a_rg1, a_rg2, a_ilst, a_itpl, a_olst, a_cat, a_ttrue, dAdd_int, dSub_int, dLt_int, dLe_int, dGt_int, dGe_int, dEq_int, dNe_int, dEq_bool, dNe_bool, dIs_non, dIsNot_non, isN_none, isN_int, isN_tup, isN_lst, dLen_list, dLen_t2, mo_0, mo_1, beq_self_eq_true, dAbs_int, ix_t0, ix_t1, isi_tt, isi_ib, isi_ii, isi_bb, isi_ll, isi_ss, mod_2, div_2, mul_two, Option.bind_some, Option.map_some, Option.some.injEq, List.getElem?_cons_zero, List.getElem?_cons_succ, List.set_cons_zero, List.set_cons_succ, List.cons_append, List.nil_append, List.replicate_zero, List.replicate_succ, List.append_nil, Bool.not_true, Bool.not_false, decide_true, decide_false, if_true, if_false, a_late, a_nopl, a_setX, a_tryN, a_tryL, a_setT, a_clr, a_ibr, a_iow, bestD, bestF, i1, i2, i3, cf', mo_0, mo_1, mu, lw]
      | some v =>
        have ls := run_l_less (n := n) (K := K) z v (by omega)
        refine ⟨.fz (mo (lowN K z)), ?_⟩
        unfold c_l_next_1
        by_cases c : z < v
        · rw [decide_eq_true c] at ls
          simp only [a_nil, a_seq, a_if, a_ret, a_set, a_setO, a_sfrz, a_frz, a_mut, a_for, a_bin, a_seqv, a_var, a_c, a_un, a_tup, a_evs0, a_evs1, a_call, a_gs, a_gw, a_gnil, a_tof, a_tand, a_tor, a_tnot, a_and, a_or, a_not, a_eif, a_neg, a_lstD, a_rg1, a_rg2, a_ilst, a_itpl, a_olst, a_cat, a_ttrue, dAdd_int, dSub_int, dLt_int, dLe_int, dGt_int, dGe_int, dEq_int, dNe_int, dEq_bool, dNe_bool, dIs_non, dIsNot_non, isN_none, isN_int, isN_tup, isN_lst, dLen_list, dLen_t2, mo_0, mo_1, beq_self_eq_true, dAbs_int, ix_t0, ix_t1, isi_tt, isi_ib, isi_ii, isi_bb, isi_ll, isi_ss, mod_2, div_2, mul_two, Option.bind_some, Option.map_some, Option.some.injEq, List.getElem?_cons_zero, List.getElem?_cons_succ, List.set_cons_zero, List.set_cons_succ, List.cons_append, List.nil_append, List.replicate_zero, List.replicate_succ, List.append_nil, Bool.not_true, Bool.not_false, decide_true, decide_false, if_true, if_false, a_late, a_nopl, a_setX, a_tryN, a_tryL, a_setT, a_clr, a_ibr, a_iow, bestD, bestF, i1, i2, i3, cf', mo_0, mo_1, mu, lw, isN_mo, ls]
          rw [if_pos c]
        · rw [decide_eq_false c] at ls
          simp only [a_nil, a_seq, a_if, a_ret, a_set, a_setO, a_sfrz, a_frz, a_mut, a_for, a_bin, a_seqv, a_var, a_c, a_un, a_tup, a_evs0, a_evs1, a_call, a_gs, a_gw, a_gnil, a_tof, a_tand, a_tor, a_tnot, a_and, a_or, a_not, a_eif, a_neg, a_lstD, a_rg1, a_rg2, a_ilst, a_itpl, a_olst, a_cat, a_ttrue, dAdd_int, dSub_int, dLt_int, dLe_int, dGt_int, dGe_int, dEq_int, dNe_int, dEq_bool, dNe_bool, dIs_non, dIsNot_non, isN_none, isN_int, isN_tup, isN_lst, dLen_list, dLen_t2, mo_0, mo_1, beq_self_eq_true, dAbs_int, ix_t0, ix_t1, isi_tt, isi_ib, isi_ii, isi_bb, isi_ll, isi_ss, mod_2, div_2, mul_two, Option.bind_some, Option.map_some, Option.some.injEq, List.getElem?_cons_zero, List.getElem?_cons_succ, List.set_cons_zero, List.set_cons_succ, List.cons_append, List.nil_append, List.replicate_zero, List.replicate_succ, List.append_nil, Bool.not_true, Bool.not_false, decide_true, decide_false, if_true, if_false, a_late, a_nopl, a_setX, a_tryN, a_tryL, a_setT, a_clr, a_ibr, a_iow, bestD, bestF, i1, i2, i3, cf', mo_0, mo_1, mu, lw, isN_mo, ls]
          rw [if_neg c]
    · rw [gonE_out (by omega)] at i3
      rw [if_neg (fun h => cv h.2)]
      refine ⟨y, ?_⟩
      unfold c_l_next_1
      simp only [a_nil, a_seq, a_if, a_ret, a_set, a_setO, a_sfrz, a_frz, a_mut, a_for, a_bin, a_seqv, a_var, a_c, a_un, a_tup, a_evs0, a_evs1, a_call, a_gs, a_gw, a_gnil, a_tof, a_tand, a_tor, a_tnot, a_and, a_or, a_not, a_eif, a_neg, a_lstD, a_rg1, a_rg2, a_ilst, a_itpl, a_olst, a_cat, a_ttrue, dAdd_int, dSub_int, dLt_int, dLe_int, dGt_int, dGe_int, dEq_int, dNe_int, dEq_bool, dNe_bool, dIs_non, dIsNot_non, isN_none, isN_int, isN_tup, isN_lst, dLen_list, dLen_t2, mo_0, mo_1, beq_self_eq_true, dAbs_int, ix_t0, ix_t1, isi_tt, isi_ib, isi_ii, isi_bb, isi_ll, isi_ss, mod_2, div_2, mul_two, Option.bind_some, Option.map_some, Option.some.injEq, List.getElem?_cons_zero, List.getElem?_cons_succ, List.set_cons_zero, List.set_cons_succ, List.cons_append, List.nil_append, List.replicate_zero, List.replicate_succ, List.append_nil, Bool.not_true, Bool.not_false, decide_true, decide_false, if_true, if_false, a_late, a_nopl, a_setX, a_tryN, a_tryL, a_setT, a_clr, a_ibr, a_iow, i2, i3, cf', isN_mo]
      rfl
  · have cf' : decide (0 < f) = false := decide_eq_false cf
    rw [if_neg (fun h => cf h.1)]
    refine ⟨y, ?_⟩
    unfold c_l_next_1
    simp only [a_nil, a_seq, a_if, a_ret, a_set, a_setO, a_sfrz, a_frz, a_mut, a_for, a_bin, a_seqv, a_var, a_c, a_un, a_tup, a_evs0, a_evs1, a_call, a_gs, a_gw, a_gnil, a_tof, a_tand, a_tor, a_tnot, a_and, a_or, a_not, a_eif, a_neg, a_lstD, a_rg1, a_rg2, a_ilst, a_itpl, a_olst, a_cat, a_ttrue, dAdd_int, dSub_int, dLt_int, dLe_int, dGt_int, dGe_int, dEq_int, dNe_int, dEq_bool, dNe_bool, dIs_non, dIsNot_non, isN_none, isN_int, isN_tup, isN_lst, dLen_list, dLen_t2, mo_0, mo_1, beq_self_eq_true, dAbs_int, ix_t0, ix_t1, isi_tt, isi_ib, isi_ii, isi_bb, isi_ll, isi_ss, mod_2, div_2, mul_two, Option.bind_some, Option.map_some, Option.some.injEq, List.getElem?_cons_zero, List.getElem?_cons_succ, List.set_cons_zero, List.set_cons_succ, List.cons_append, List.nil_append, List.replicate_zero, List.replicate_succ, List.append_nil, Bool.not_true, Bool.not_false, decide_true, decide_false, if_true, if_false, a_late, a_nopl, a_setX, a_tryN, a_tryL, a_setT, a_clr, a_ibr, a_iow, i2, cf']
    rfl
theorem next_loop {n K : Nat} (hn : 200 ≤ n) (hK : K ≤ 58) {p : List Rope} {G : List Int} (w : Walk K p G) {t : Int} (ht : t % 2 = 0) : ∀ (xs : List (Rope × Int)) (k : Nat), (p.zip G).drop k = xs → ∀ (b : Option Int) (x y : Sl), ∃ x' y',
    forL 4 (c_l_next_1 n) (rngD (k : Int) xs.length) [.br (fl K (resL K G t p)), .fz (.list (firD G t p)), .br (gonD K G t), .fz (bestD K b), x, y] = .nx [.br (fl K (resL K G t p)), .fz (.list (firD G t p)), .br (gonD K G t), .fz (bestD K ((xs.map (candV K G t)).foldl bestF b)), x', y']
  | [], k, _, b, x, y => ⟨x, y, rfl⟩
  | z :: xs, k, hd, b, x, y => by
    obtain ⟨hg, hd'⟩ := get_drop hd
    obtain ⟨y1, t1⟩ := next_turn (n := n) hn hK (t := t) hg (w.resEven ht (List.mem_of_getElem? hg)) b y
    obtain ⟨x', y', ih⟩ := next_loop (n := n) hn hK w ht xs (k + 1) hd' (bestF b (candV K G t z)) (.fz (.int (k : Int))) y1
    refine ⟨x', y', ?_⟩
    rw [List.length_cons, rngD_succ, a_for1]
    show (match c_l_next_1 n [.br (fl K (resL K G t p)), .fz (.list (firD G t p)), .br (gonD K G t), .fz (bestD K b), .fz (.int (k : Int)), y] with | .nx ρ' => _ | .ct ρ' => _ | .bk ρ' => _ | o => o) = _
    rw [t1]
    exact ih
theorem run_l_next {n K : Nat} (hn : 200 ≤ n) (hK : K ≤ 58) {p : List Rope} {G : List Int} (w : Walk K p G) {t T : Int} (ht : t % 2 = 0) (h0 : 0 ≤ t) (hT : t < T) (hm : T ∈ G) (hmin : ∀ u ∈ G, t < u → T ≤ u) :
    b_l_next n [.br (fl K (resL K G t p)), .fz (.list (firD G t p)), .br (gonD K G t), .un, .un, .un] = .rt (mo (lowN K (T - t))) := by
  obtain ⟨x', y', lp⟩ := next_loop (n := n) hn hK w ht (p.zip G) 0 rfl none .un .un
  have one : ∀ x ∈ p.zip G, OneStep K G t T x.1 x.2 := fun x hx => by
    obtain ⟨a, b, c, d⟩ := w.zip hx
    exact one_step h0 hT hmin b a c d
  have hb : ((p.zip G).map (candV K G t)).foldl bestF none = some (T - t) := by
    refine best_fold (T - t) _ none (fun z hz => ?_) (fun y hy => by cases hy) (.inr ?_)
    · obtain ⟨x, hx, e⟩ := List.mem_map.mp hz
      unfold candV at e
      by_cases c : 0 < firV G t x.1 ∧ t < x.2
      · rw [if_pos c] at e
        have g := (one x hx).ge c.2
        have ev := w.resEven ht hx
        have e' := Option.some.inj e
        rcases firV_cases G t x.1 with f | f | f
        · omega
        · rw [f, if_neg (by decide)] at e'
          rw [f] at g
          omega
        · rw [f, if_pos rfl] at e'
          rw [f] at g
          omega
      · rw [if_neg c] at e
        cases e
    · obtain ⟨i, hi⟩ := List.mem_iff_getElem?.mp hm
      have hlt : i < p.length := by rw [← w.len]; exact (List.getElem?_eq_some_iff.mp hi).1
      have hx : (p.zip G)[i]? = some (p[i], T) := List.getElem?_zip_eq_some.mpr ⟨List.getElem?_eq_getElem hlt, hi⟩
      have hx' := List.mem_of_getElem? hx
      refine List.mem_map.mpr ⟨_, hx', ?_⟩
      have o := one _ hx'
      have l := o.lit hT rfl
      have q := (o.eq hT).mpr rfl
      have l : 0 < firV G t p[i] := l
      have q : firV G t p[i] * (T - t) = resV K G t p[i] T := q
      unfold candV
      dsimp only
      rw [if_pos ⟨l, hT⟩]
      congr 1
      rcases firV_cases G t p[i] with f | f | f
      · omega
      · rw [f] at q ⊢
        rw [if_neg (by decide)]
        omega
      · rw [f] at q ⊢
        rw [if_pos rfl]
        omega
  rw [hb] at lp
  have zl := w.zlen
  have few := w.few
  have rk : rngOk (((p.zip G).length : Nat) : Int) = true := rngOk_iff.mpr (by omega)
  have lp' : forL 4 (c_l_next_1 n) (rngD 0 (p.zip G).length) [.br (fl K (resL K G t p)), .fz (.list (firD G t p)), .br (gonD K G t), .fz .none, .un, .un] = .nx [.br (fl K (resL K G t p)), .fz (.list (firD G t p)), .br (gonD K G t), .fz (mo (lowN K (T - t))), x', y'] := lp
  unfold b_l_next
  simp only [a_nil, a_seq, a_if, a_ret, a_set, a_setO, a_sfrz, a_frz, a_mut, a_for, a_bin, a_seqv, a_var, a_c, a_un, a_tup, a_evs0, a_evs1, a_call, a_gs, a_gw, a_gnil, a_tof, a_tand, a_tor, a_tnot, a_and, a_or, a_not, a_eif, a_neg, a_lstD, a_rg1, a_rg2, a_ilst, a_itpl, a_olst, a_cat, a_ttrue, dAdd_int, dSub_int, dLt_int, dLe_int, dGt_int, dGe_int, dEq_int, dNe_int, dEq_bool, dNe_bool, dIs_non, dIsNot_non, isN_none, isN_int, isN_tup, isN_lst, dLen_list, dLen_t2, mo_0, mo_1, beq_self_eq_true, dAbs_int, ix_t0, ix_t1, isi_tt, isi_ib, isi_ii, isi_bb, isi_ll, isi_ss, mod_2, div_2, mul_two, Option.bind_some, Option.map_some, Option.some.injEq, List.getElem?_cons_zero, List.getElem?_cons_succ, List.set_cons_zero, List.set_cons_succ, List.cons_append, List.nil_append, List.replicate_zero, List.replicate_succ, List.append_nil, Bool.not_true, Bool.not_false, decide_true, decide_false, if_true, if_false, a_late, a_nopl, a_setX, a_tryN, a_tryL, a_setT, a_clr, a_ibr, a_iow, fl_len, resL_len, rk, Int.toNat_natCast, lp']
/-! ### time goes on -/
theorem a_putP {f g : EFn} {ρ : DEnv} {i : Nat} : sPutP i f g ρ = (match ρ[i]? with
  | some (.pw a ds) => (match g ρ with | some d => (match f ρ with | some (.int k) => (match ixN ds.length k with | some j => .nx (ρ.set i (.pw a (ds.set j d))) | none => .no) | _ => .no) | none => .no)
  | _ => .no) := rfl
theorem ixN_at {n j : Nat} (hj : j < n) : ixN n (j : Int) = some j := by
  unfold ixN
  rw [if_pos (by omega), if_pos (by omega)]
  rfl
theorem fl_set {K : Nat} {L : List Int} {k : Nat} {v : Int} : (fl K L).set k (mo (lowN K v)) = fl K (L.set k v) := by
  unfold fl
  rw [List.map_set]
theorem on_turn {n K : Nat} (hn : 200 ≤ n) (hK : K ≤ 58) {p : List Rope} {G : List Int} {t T : Int} {k : Nat} {x : Rope × Int} (hx : (p.zip G)[k]? = some x) (o : OneStep K G t T x.1 x.2) (a : Addr) (y : Sl) : ∃ y',
    c_l_on_1 n [.pw a (fl K (mix (resL K G T p) (resL K G t p) k)), .fz (.list (firD G t p)), .br (gonD K G t), .fz (mo (lowN K (T - t))), .fz (.int (k : Int)), y] =
      .nx [.pw a (fl K (mix (resL K G T p) (resL K G t p) (k + 1))), .fz (.list (firD G t p)), .br (gonD K G t), .fz (mo (lowN K (T - t))), .fz (.int (k : Int)), y'] := by
  obtain ⟨hr, hv⟩ := zip_get hx
  have rA := resL_get (K := K) (t := T) hx
  have rB := resL_get (K := K) (t := t) hx
  have hl : (resL K G T p).length = (resL K G t p).length := by rw [resL_len, resL_len]
  have hk : k < (resL K G T p).length := (List.getElem?_eq_some_iff.mp rA).1
  have mg := mix_get hl (Nat.le_of_lt hk)
  rw [rB] at mg
  have i1 := ix_fl (K := K) mg
  have i2 := ix_fir (G := G) (t := t) hr
  have i3 := ix_gon (K := K) (t := t) hv
  have fc := firV_cases G t x.1
  by_cases cf : 0 < firV G t x.1
  · have cf' : decide (0 < firV G t x.1) = true := decide_eq_true cf
    by_cases cv : t < x.2
    · rw [gonE_in cv] at i3
      have mu : ∀ i : Int, dMul (.int i) (.int (firV G t x.1)) = some (.int (i * firV G t x.1)) := fun i => mul_r (by rcases fc with h | h | h <;> rw [h] <;> decide)
      have lw := run_low_tim (n := n) (K := K) (s := T - t) (f := firV G t x.1) hn hK
      have gp := run_l_gap (n := n) (K := K) ((T - t) * firV G t x.1) (resV K G t x.1 x.2) (by omega) hn
      have on := o.on cv
      have ge := o.ge cv
      have e : ((((T - t) * firV G t x.1 - resV K G t x.1 x.2).natAbs : Nat) : Int) = resV K G T x.1 x.2 := by
        rw [Int.mul_comm] at ge on
        omega
      rw [e] at gp
      have ml : ixN (fl K (mix (resL K G T p) (resL K G t p) k)).length (k : Int) = some k := ixN_at (by rw [fl_len, mix_len hl (Nat.le_of_lt hk)]; omega)
      refine ⟨.fz (mo (lowN K ((T - t) * firV G t x.1))), ?_⟩
      unfold c_l_on_1
      simp only [a_nil, a_seq, a_if, a_ret, a_set, a_setO, a_sfrz, a_frz, a_mut, a_for, a_bin, a_seqv, a_var, a_c, a_un, a_tup, a_evs0, a_evs1, a_call, a_gs, a_gw, a_gnil, a_tof, a_tand, a_tor, a_tnot, a_and, a_or, a_not, a_eif, a_neg, a_lstD, a_rg1, a_rg2, a_ilst, a_itpl, a_olst, a_cat, a_ttrue, dAdd_int, dSub_int, dLt_int, dLe_int, dGt_int, dGe_int, dEq_int, dNe_int, dEq_bool, dNe_bool, dIs_non, dIsNot_non, isN_none, isN_int, isN_tup, isN_lst, dLen_list, dLen_t2, mo_0, mo_1, beq_self_eq_true, dAbs_int, ix_t0, ix_t1, isi_tt, isi_ib, isi_ii, isi_bb, isi_ll, isi_ss, mod_2, div_2, mul_two, Option.bind_some, Option.map_some, Option.some.injEq, List.getElem?_cons_zero, List.getElem?_cons_succ, List.set_cons_zero, List.set_cons_succ, List.cons_append, List.nil_append, List.replicate_zero, List.replicate_succ, List.append_nil, Bool.not_true, Bool.not_false, decide_true, decide_false, if_true, if_false, a_late, a_nopl, a_setX, a_tryN, a_tryL, a_setT, a_clr, a_ibr, a_iow, i2, i3, cf', mo_0, mo_1, mu, lw, a_putP, i1, gp, ml]
      rw [fl_set, mix_step hl rA]
    · rw [gonE_out (by omega)] at i3
      have off := o.off (by omega)
      rw [mix_same hl rA (by rw [rB, off])]
      refine ⟨y, ?_⟩
      unfold c_l_on_1
      simp only [a_nil, a_seq, a_if, a_ret, a_set, a_setO, a_sfrz, a_frz, a_mut, a_for, a_bin, a_seqv, a_var, a_c, a_un, a_tup, a_evs0, a_evs1, a_call, a_gs, a_gw, a_gnil, a_tof, a_tand, a_tor, a_tnot, a_and, a_or, a_not, a_eif, a_neg, a_lstD, a_rg1, a_rg2, a_ilst, a_itpl, a_olst, a_cat, a_ttrue, dAdd_int, dSub_int, dLt_int, dLe_int, dGt_int, dGe_int, dEq_int, dNe_int, dEq_bool, dNe_bool, dIs_non, dIsNot_non, isN_none, isN_int, isN_tup, isN_lst, dLen_list, dLen_t2, mo_0, mo_1, beq_self_eq_true, dAbs_int, ix_t0, ix_t1, isi_tt, isi_ib, isi_ii, isi_bb, isi_ll, isi_ss, mod_2, div_2, mul_two, Option.bind_some, Option.map_some, Option.some.injEq, List.getElem?_cons_zero, List.getElem?_cons_succ, List.set_cons_zero, List.set_cons_succ, List.cons_append, List.nil_append, List.replicate_zero, List.replicate_succ, List.append_nil, Bool.not_true, Bool.not_false, decide_true, decide_false, if_true, if_false, a_late, a_nopl, a_setX, a_tryN, a_tryL, a_setT, a_clr, a_ibr, a_iow, i2, i3, cf', isN_mo]
  · have cf' : decide (0 < firV G t x.1) = false := decide_eq_false cf
    have same : resV K G T x.1 x.2 = resV K G t x.1 x.2 := by
      by_cases cv : t < x.2
      · have on := o.on cv
        have z : firV G t x.1 = 0 := by omega
        rw [z, Int.zero_mul] at on
        omega
      · exact o.off (by omega)
    rw [mix_same hl rA (by rw [rB, same])]
    refine ⟨y, ?_⟩
    unfold c_l_on_1
    simp only [a_nil, a_seq, a_if, a_ret, a_set, a_setO, a_sfrz, a_frz, a_mut, a_for, a_bin, a_seqv, a_var, a_c, a_un, a_tup, a_evs0, a_evs1, a_call, a_gs, a_gw, a_gnil, a_tof, a_tand, a_tor, a_tnot, a_and, a_or, a_not, a_eif, a_neg, a_lstD, a_rg1, a_rg2, a_ilst, a_itpl, a_olst, a_cat, a_ttrue, dAdd_int, dSub_int, dLt_int, dLe_int, dGt_int, dGe_int, dEq_int, dNe_int, dEq_bool, dNe_bool, dIs_non, dIsNot_non, isN_none, isN_int, isN_tup, isN_lst, dLen_list, dLen_t2, mo_0, mo_1, beq_self_eq_true, dAbs_int, ix_t0, ix_t1, isi_tt, isi_ib, isi_ii, isi_bb, isi_ll, isi_ss, mod_2, div_2, mul_two, Option.bind_some, Option.map_some, Option.some.injEq, List.getElem?_cons_zero, List.getElem?_cons_succ, List.set_cons_zero, List.set_cons_succ, List.cons_append, List.nil_append, List.replicate_zero, List.replicate_succ, List.append_nil, Bool.not_true, Bool.not_false, decide_true, decide_false, if_true, if_false, a_late, a_nopl, a_setX, a_tryN, a_tryL, a_setT, a_clr, a_ibr, a_iow, i2, cf']
theorem on_loop {n K : Nat} (hn : 200 ≤ n) (hK : K ≤ 58) {p : List Rope} {G : List Int} {t T : Int} (one : ∀ x ∈ p.zip G, OneStep K G t T x.1 x.2) (a : Addr) : ∀ (xs : List (Rope × Int)) (k : Nat), (p.zip G).drop k = xs → ∀ (x y : Sl), ∃ x' y',
    forL 4 (c_l_on_1 n) (rngD (k : Int) xs.length) [.pw a (fl K (mix (resL K G T p) (resL K G t p) k)), .fz (.list (firD G t p)), .br (gonD K G t), .fz (mo (lowN K (T - t))), x, y] =
      .nx [.pw a (fl K (mix (resL K G T p) (resL K G t p) (k + xs.length))), .fz (.list (firD G t p)), .br (gonD K G t), .fz (mo (lowN K (T - t))), x', y']
  | [], k, _, x, y => ⟨x, y, rfl⟩
  | z :: xs, k, hd, x, y => by
    obtain ⟨hg, hd'⟩ := get_drop hd
    obtain ⟨y1, t1⟩ := on_turn (n := n) hn hK hg (one z (List.mem_of_getElem? hg)) a y
    obtain ⟨x', y', ih⟩ := on_loop (n := n) hn hK one a xs (k + 1) hd' (.fz (.int (k : Int))) y1
    refine ⟨x', y', ?_⟩
    rw [List.length_cons, rngD_succ, a_for1]
    show (match c_l_on_1 n [.pw a (fl K (mix (resL K G T p) (resL K G t p) k)), .fz (.list (firD G t p)), .br (gonD K G t), .fz (mo (lowN K (T - t))), .fz (.int (k : Int)), y] with | .nx ρ' => _ | .ct ρ' => _ | .bk ρ' => _ | o => o) = _
    rw [t1]
    refine Eq.trans ih ?_
    rw [show k + 1 + xs.length = k + (xs.length + 1) by omega]
theorem run_l_on {n K : Nat} (hn : 200 ≤ n) (hK : K ≤ 58) {p : List Rope} {G : List Int} (w : Walk K p G) {t T : Int} (one : ∀ x ∈ p.zip G, OneStep K G t T x.1 x.2) :
    MuTo (b_l_on n) (fl K (resL K G t p)) [.fz (.list (firD G t p)), .br (gonD K G t), .fz (mo (lowN K (T - t)))] 2 (fl K (resL K G T p)) := by
  intro a
  obtain ⟨x', y', lp⟩ := on_loop (n := n) hn hK one a (p.zip G) 0 rfl .un .un
  have zl := w.zlen
  have few := w.few
  have hl : (resL K G T p).length = (resL K G t p).length := by rw [resL_len, resL_len]
  have ma := mix_all hl
  rw [resL_len] at ma
  rw [Nat.zero_add, ma, mix_zero] at lp
  have rk : rngOk (((p.zip G).length : Nat) : Int) = true := rngOk_iff.mpr (by omega)
  refine ⟨[.pw a (fl K (resL K G T p)), .fz (.list (firD G t p)), .br (gonD K G t), .fz (mo (lowN K (T - t))), x', y'], ?_, rfl⟩
  show b_l_on n [.pw a (fl K (resL K G t p)), .fz (.list (firD G t p)), .br (gonD K G t), .fz (mo (lowN K (T - t))), .un, .un] = _
  have lp' : forL 4 (c_l_on_1 n) (rngD 0 (p.zip G).length) [.pw a (fl K (resL K G t p)), .fz (.list (firD G t p)), .br (gonD K G t), .fz (mo (lowN K (T - t))), .un, .un] = _ := lp
  unfold b_l_on
  simp only [a_nil, a_seq, a_if, a_ret, a_set, a_setO, a_sfrz, a_frz, a_mut, a_for, a_bin, a_seqv, a_var, a_c, a_un, a_tup, a_evs0, a_evs1, a_call, a_gs, a_gw, a_gnil, a_tof, a_tand, a_tor, a_tnot, a_and, a_or, a_not, a_eif, a_neg, a_lstD, a_rg1, a_rg2, a_ilst, a_itpl, a_olst, a_cat, a_ttrue, dAdd_int, dSub_int, dLt_int, dLe_int, dGt_int, dGe_int, dEq_int, dNe_int, dEq_bool, dNe_bool, dIs_non, dIsNot_non, isN_none, isN_int, isN_tup, isN_lst, dLen_list, dLen_t2, mo_0, mo_1, beq_self_eq_true, dAbs_int, ix_t0, ix_t1, isi_tt, isi_ib, isi_ii, isi_bb, isi_ll, isi_ss, mod_2, div_2, mul_two, Option.bind_some, Option.map_some, Option.some.injEq, List.getElem?_cons_zero, List.getElem?_cons_succ, List.set_cons_zero, List.set_cons_succ, List.cons_append, List.nil_append, List.replicate_zero, List.replicate_succ, List.append_nil, Bool.not_true, Bool.not_false, decide_true, decide_false, if_true, if_false, a_late, a_nopl, a_setX, a_tryN, a_tryL, a_setT, a_clr, a_ibr, a_iow, fl_len, resL_len, rk, Int.toNat_natCast, lp']
end L2.RC

namespace L2.RC
open PySem PySem.Spec PyProof.Rows
/-! ### ropes go out -/
theorem lowN_zero_iff {K : Nat} {x : Int} : ((lowN K x).1 == 0) = decide (x = 0) := by
  have h := lowN_val K x
  have a := p2_pos K
  have b := p2_pos (lowN K x).2
  by_cases c : x = 0
  · subst c
    rw [zero_eq]
    rfl
  · rw [decide_eq_false c]
    refine beq_eq_false_iff_ne.mpr fun z => c ?_
    rw [z, Int.zero_mul] at h
    rcases Int.mul_eq_zero.mp h.symm with h | h
    · exact h
    · omega
theorem gone_turn {n K : Nat} {p : List Rope} {G : List Int} {t T : Int} (hT : t < T) {k : Nat} {x : Rope × Int} (hx : (p.zip G)[k]? = some x) (o : OneStep K G t T x.1 x.2) (s0 s2 s6 : Sl) :
    c_l_walked_1 n [s0, .ow (fl K (resL K G T p)), s2, .ow (mix (gonD K G T) (gonD K G t) k), .fz (mo (lowN K T)), .fz (.list (firD G t p)), s6, .fz (.int (k : Int))] =
      .nx [s0, .ow (fl K (resL K G T p)), s2, .ow (mix (gonD K G T) (gonD K G t) (k + 1)), .fz (mo (lowN K T)), .fz (.list (firD G t p)), s6, .fz (.int (k : Int))] := by
  obtain ⟨hr, hv⟩ := zip_get hx
  have rA := gonD_get (K := K) (t := T) hv
  have rB := gonD_get (K := K) (t := t) hv
  have hl : (gonD K G T).length = (gonD K G t).length := by unfold gonD; rw [List.length_map, List.length_map]
  have hk : k < (gonD K G T).length := (List.getElem?_eq_some_iff.mp rA).1
  have mg := mix_get hl (Nat.le_of_lt hk)
  rw [rB] at mg
  have i3 : dIx (.list (mix (gonD K G T) (gonD K G t) k)) (.int (k : Int)) = some (gonE K t x.2) := atI_nat' mg
  have i2 := ix_fir (G := G) (t := t) hr
  have i1 := ix_fl (K := K) (resL_get (K := K) (t := T) hx)
  have ml : ixN (mix (gonD K G T) (gonD K G t) k).length (k : Int) = some k := ixN_at (by rw [mix_len hl (Nat.le_of_lt hk)]; omega)
  by_cases cv : t < x.2
  · rw [gonE_in cv] at i3 rB
    by_cases cf : 0 < firV G t x.1
    · have cf' : decide (0 < firV G t x.1) = true := decide_eq_true cf
      have z := o.zero cv
      have zz := lowN_zero_iff (K := K) (x := resV K G T x.1 x.2)
      by_cases c : x.2 = T
      · rw [decide_eq_true (z.mpr c)] at zz
        rw [gonE_out (by omega), c] at rA
        rw [mix_step hl rA]
        unfold c_l_walked_1
        simp only [a_nil, a_seq, a_if, a_ret, a_set, a_setO, a_sfrz, a_frz, a_mut, a_for, a_bin, a_seqv, a_var, a_c, a_un, a_tup, a_evs0, a_evs1, a_call, a_gs, a_gw, a_gnil, a_tof, a_tand, a_tor, a_tnot, a_and, a_or, a_not, a_eif, a_neg, a_lstD, a_rg1, a_rg2, a_ilst, a_itpl, a_olst, a_cat, a_ttrue, dAdd_int, dSub_int, dLt_int, dLe_int, dGt_int, dGe_int, dEq_int, dNe_int, dEq_bool, dNe_bool, dIs_non, dIsNot_non, isN_none, isN_int, isN_tup, isN_lst, dLen_list, dLen_t2, mo_0, mo_1, beq_self_eq_true, dAbs_int, ix_t0, ix_t1, isi_tt, isi_ib, isi_ii, isi_bb, isi_ll, isi_ss, mod_2, div_2, mul_two, Option.bind_some, Option.map_some, Option.some.injEq, List.getElem?_cons_zero, List.getElem?_cons_succ, List.set_cons_zero, List.set_cons_succ, List.cons_append, List.nil_append, List.replicate_zero, List.replicate_succ, List.append_nil, Bool.not_true, Bool.not_false, decide_true, decide_false, if_true, if_false, a_late, a_nopl, a_setX, a_tryN, a_tryL, a_setT, a_clr, a_ibr, a_iow, i1, i2, i3, cf', mo_0, zz, a_put, ml]
      · rw [decide_eq_false (fun h => c (z.mp h))] at zz
        have nT : ¬ x.2 ≤ T := fun h => c ((o.out cv).mp h)
        rw [gonE_in (by omega)] at rA
        rw [mix_same hl rA rB]
        unfold c_l_walked_1
        simp only [a_nil, a_seq, a_if, a_ret, a_set, a_setO, a_sfrz, a_frz, a_mut, a_for, a_bin, a_seqv, a_var, a_c, a_un, a_tup, a_evs0, a_evs1, a_call, a_gs, a_gw, a_gnil, a_tof, a_tand, a_tor, a_tnot, a_and, a_or, a_not, a_eif, a_neg, a_lstD, a_rg1, a_rg2, a_ilst, a_itpl, a_olst, a_cat, a_ttrue, dAdd_int, dSub_int, dLt_int, dLe_int, dGt_int, dGe_int, dEq_int, dNe_int, dEq_bool, dNe_bool, dIs_non, dIsNot_non, isN_none, isN_int, isN_tup, isN_lst, dLen_list, dLen_t2, mo_0, mo_1, beq_self_eq_true, dAbs_int, ix_t0, ix_t1, isi_tt, isi_ib, isi_ii, isi_bb, isi_ll, isi_ss, mod_2, div_2, mul_two, Option.bind_some, Option.map_some, Option.some.injEq, List.getElem?_cons_zero, List.getElem?_cons_succ, List.set_cons_zero, List.set_cons_succ, List.cons_append, List.nil_append, List.replicate_zero, List.replicate_succ, List.append_nil, Bool.not_true, Bool.not_false, decide_true, decide_false, if_true, if_false, a_late, a_nopl, a_setX, a_tryN, a_tryL, a_setT, a_clr, a_ibr, a_iow, i1, i2, i3, cf', mo_0, zz]
    · have cf' : decide (0 < firV G t x.1) = false := decide_eq_false cf
      have nT : ¬ x.2 ≤ T := fun h => cf (o.lit cv ((o.out cv).mp h))
      rw [gonE_in (by omega)] at rA
      rw [mix_same hl rA rB]
      unfold c_l_walked_1
      simp only [a_nil, a_seq, a_if, a_ret, a_set, a_setO, a_sfrz, a_frz, a_mut, a_for, a_bin, a_seqv, a_var, a_c, a_un, a_tup, a_evs0, a_evs1, a_call, a_gs, a_gw, a_gnil, a_tof, a_tand, a_tor, a_tnot, a_and, a_or, a_not, a_eif, a_neg, a_lstD, a_rg1, a_rg2, a_ilst, a_itpl, a_olst, a_cat, a_ttrue, dAdd_int, dSub_int, dLt_int, dLe_int, dGt_int, dGe_int, dEq_int, dNe_int, dEq_bool, dNe_bool, dIs_non, dIsNot_non, isN_none, isN_int, isN_tup, isN_lst, dLen_list, dLen_t2, mo_0, mo_1, beq_self_eq_true, dAbs_int, ix_t0, ix_t1, isi_tt, isi_ib, isi_ii, isi_bb, isi_ll, isi_ss, mod_2, div_2, mul_two, Option.bind_some, Option.map_some, Option.some.injEq, List.getElem?_cons_zero, List.getElem?_cons_succ, List.set_cons_zero, List.set_cons_succ, List.cons_append, List.nil_append, List.replicate_zero, List.replicate_succ, List.append_nil, Bool.not_true, Bool.not_false, decide_true, decide_false, if_true, if_false, a_late, a_nopl, a_setX, a_tryN, a_tryL, a_setT, a_clr, a_ibr, a_iow, i2, i3, cf']
  · have c : x.2 ≤ t := by omega
    rw [gonE_out c] at i3 rB
    rw [gonE_out (by omega)] at rA
    rw [mix_same hl rA rB]
    unfold c_l_walked_1
    simp only [a_nil, a_seq, a_if, a_ret, a_set, a_setO, a_sfrz, a_frz, a_mut, a_for, a_bin, a_seqv, a_var, a_c, a_un, a_tup, a_evs0, a_evs1, a_call, a_gs, a_gw, a_gnil, a_tof, a_tand, a_tor, a_tnot, a_and, a_or, a_not, a_eif, a_neg, a_lstD, a_rg1, a_rg2, a_ilst, a_itpl, a_olst, a_cat, a_ttrue, dAdd_int, dSub_int, dLt_int, dLe_int, dGt_int, dGe_int, dEq_int, dNe_int, dEq_bool, dNe_bool, dIs_non, dIsNot_non, isN_none, isN_int, isN_tup, isN_lst, dLen_list, dLen_t2, mo_0, mo_1, beq_self_eq_true, dAbs_int, ix_t0, ix_t1, isi_tt, isi_ib, isi_ii, isi_bb, isi_ll, isi_ss, mod_2, div_2, mul_two, Option.bind_some, Option.map_some, Option.some.injEq, List.getElem?_cons_zero, List.getElem?_cons_succ, List.set_cons_zero, List.set_cons_succ, List.cons_append, List.nil_append, List.replicate_zero, List.replicate_succ, List.append_nil, Bool.not_true, Bool.not_false, decide_true, decide_false, if_true, if_false, a_late, a_nopl, a_setX, a_tryN, a_tryL, a_setT, a_clr, a_ibr, a_iow, i3, isN_mo]
theorem gone_loop {n K : Nat} {p : List Rope} {G : List Int} {t T : Int} (hT : t < T) (one : ∀ x ∈ p.zip G, OneStep K G t T x.1 x.2) (s0 s2 s6 : Sl) : ∀ (xs : List (Rope × Int)) (k : Nat), (p.zip G).drop k = xs → ∀ x : Sl, ∃ x',
    forL 7 (c_l_walked_1 n) (rngD (k : Int) xs.length) [s0, .ow (fl K (resL K G T p)), s2, .ow (mix (gonD K G T) (gonD K G t) k), .fz (mo (lowN K T)), .fz (.list (firD G t p)), s6, x] =
      .nx [s0, .ow (fl K (resL K G T p)), s2, .ow (mix (gonD K G T) (gonD K G t) (k + xs.length)), .fz (mo (lowN K T)), .fz (.list (firD G t p)), s6, x']
  | [], k, _, x => ⟨x, rfl⟩
  | z :: xs, k, hd, x => by
    obtain ⟨hg, hd'⟩ := get_drop hd
    have t1 := gone_turn (n := n) hT hg (one z (List.mem_of_getElem? hg)) s0 s2 s6
    obtain ⟨x', ih⟩ := gone_loop (n := n) hT one s0 s2 s6 xs (k + 1) hd' (.fz (.int (k : Int)))
    refine ⟨x', ?_⟩
    rw [List.length_cons, rngD_succ]
    refine for1_step t1 (Eq.trans ih ?_)
    rw [show k + 1 + xs.length = k + (xs.length + 1) by omega]
theorem muCall_step {i : Nat} {b : SFn} {m : Nat} {fg : LFn} {ρ : DEnv} {ds ds' : List PyData} {ss : List Sl} (h0 : ρ[i]? = some (.ow ds)) (h1 : fg ρ = some ss) (h2 : MuTo b ds ss m ds') : sMuCall i b m fg ρ = .nx (ρ.set i (.ow ds')) := by
  unfold sMuCall
  rw [h0, h1]
  dsimp only
  rw [muRes_eq h2]
/-- one step of the walk -/
theorem walk_turn {n K : Nat} (hn : 200 ≤ n) (hK : K ≤ 58) {p : List Rope} {G : List Int} (w : Walk K p G) {t T : Int} (ht : t % 2 = 0) (h0 : 0 ≤ t) (hT : t < T) (hm : T ∈ G) (hmin : ∀ u ∈ G, t < u → T ≤ u) (s2 x5 x6 x7 : Sl) : ∃ y5 y6 y7,
    c_l_walked_2 n [.fz (.list (planD p)), .ow (fl K (resL K G t p)), s2, .ow (gonD K G t), .fz (mo (lowN K t)), x5, x6, x7] =
      .nx [.fz (.list (planD p)), .ow (fl K (resL K G T p)), s2, .ow (gonD K G T), .fz (mo (lowN K T)), y5, y6, y7] := by
  have one : ∀ x ∈ p.zip G, OneStep K G t T x.1 x.2 := fun x hx => by
    obtain ⟨a, b, c, d⟩ := w.zip hx
    exact one_step h0 hT hmin b a c d
  have r1 := run_l_lit_now (n := n) w h0
  have r2 := run_l_next (n := n) hn hK w ht h0 hT hm hmin
  have r3 := run_l_on (n := n) hn hK w one
  have r4 := run_l_sum (n := n) (K := K) t (T - t) (by omega) hn
  rw [show t + (T - t) = T by omega] at r4
  obtain ⟨x', lp⟩ := gone_loop (n := n) hT one (.fz (.list (planD p))) s2 (.fz (mo (lowN K (T - t)))) (p.zip G) 0 rfl x7
  have hl : (gonD K G T).length = (gonD K G t).length := by unfold gonD; rw [List.length_map, List.length_map]
  have hg : (gonD K G T).length = (p.zip G).length := by unfold gonD; rw [List.length_map, w.zlen, w.len]
  have ma := mix_all hl
  rw [hg] at ma
  rw [Nat.zero_add, ma, mix_zero] at lp
  have few := w.few
  have zl := w.zlen
  have rk : rngOk (((planD p).length : Nat) : Int) = true := rngOk_iff.mpr (by rw [planD_len]; omega)
  have lp' : forL 7 (c_l_walked_1 n) (rngD 0 (planD p).length) [.fz (.list (planD p)), .ow (fl K (resL K G T p)), s2, .ow (gonD K G t), .fz (mo (lowN K T)), .fz (.list (firD G t p)), .fz (mo (lowN K (T - t))), x7] = .nx [.fz (.list (planD p)), .ow (fl K (resL K G T p)), s2, .ow (gonD K G T), .fz (mo (lowN K T)), .fz (.list (firD G t p)), .fz (mo (lowN K (T - t))), x'] := by
    rw [planD_len, ← zl]
    exact lp
  refine ⟨.fz (.list (firD G t p)), .fz (mo (lowN K (T - t))), x', ?_⟩
  unfold c_l_walked_2
  refine seq_step (set_step (call_step (ss := [.fz (.list (planD p)), .br (gonD K G t)]) rfl r1)) ?_
  refine seq_step (set_step (call_step (ss := [.br (fl K (resL K G t p)), .fz (.list (firD G t p)), .br (gonD K G t)]) rfl r2)) ?_
  refine seq_step (muCall_step (ds := fl K (resL K G t p)) (ss := [.fz (.list (firD G t p)), .br (gonD K G t), .fz (mo (lowN K (T - t)))]) rfl rfl r3) ?_
  refine seq_step (set_step (call_step (ss := [.fz (mo (lowN K t)), .fz (mo (lowN K (T - t)))]) rfl r4)) ?_
  refine for_step (ds := rngD 0 (planD p).length) ?_ lp'
  have ln : (eUn dLen (eSeq 0)) [.fz (.list (planD p)), .ow (fl K (resL K G T p)), s2, .ow (gonD K G t), .fz (mo (lowN K T)), .fz (.list (firD G t p)), .fz (mo (lowN K (T - t))), x7] = some (.int ((planD p).length : Int)) := rfl
  show iRg1 (eUn dLen (eSeq 0)) [.fz (.list (planD p)), .ow (fl K (resL K G T p)), s2, .ow (gonD K G t), .fz (mo (lowN K T)), .fz (.list (firD G t p)), .fz (mo (lowN K (T - t))), x7] = _
  rw [a_rg1, ln]
  show (if rngOk ((planD p).length : Int) = true then some (rngD 0 ((planD p).length : Int).toNat) else none) = _
  rw [if_pos rk, Int.toNat_natCast]
theorem none_in (K : Nat) (G : List Int) (t : Int) : dIn .none (.list (gonD K G t)) = some (.bool (decide (∃ v ∈ G, t < v))) := by
  have s1 : SeqAt.shaped .none = true := flat_none.sh
  have s2 : SeqAt.shaped (.list (gonD K G t)) = true := (flat_list (n := 1) fun d h => by
    obtain ⟨v, _, e⟩ := List.mem_map.mp h
    rw [← e]
    unfold gonE
    split
    · exact flat_mo _
    · exact flat_none.up (by decide)).sh
  show (if (SeqAt.shaped .none && SeqAt.shaped (.list (gonD K G t))) = true then some (PyData.bool ((gonD K G t).any fun z => PyData.eqv z .none)) else none) = _
  rw [s1, s2]
  show some (PyData.bool ((gonD K G t).any fun z => PyData.eqv z .none)) = _
  congr 2
  rw [Bool.eq_iff_iff, decide_eq_true_iff, List.any_eq_true]
  constructor
  · rintro ⟨z, hz, hq⟩
    obtain ⟨v, hv, rfl⟩ := List.mem_map.mp hz
    refine ⟨v, hv, ?_⟩
    by_cases c : v ≤ t
    · rw [gonE_out c] at hq
      cases hq
    · omega
  · rintro ⟨v, hv, hl⟩
    exact ⟨gonE K t v, List.mem_map.mpr ⟨v, hv, rfl⟩, by rw [gonE_in hl]; rfl⟩
theorem gon_all {K : Nat} {G : List Int} {t : Int} (h : ¬ ∃ v ∈ G, t < v) : gonD K G t = fl K G := by
  unfold gonD fl
  refine List.map_congr_left fun v hv => gonE_out ?_
  by_cases c : v ≤ t
  · exact c
  · exact absurd ⟨v, hv, by omega⟩ h
theorem walk_while {n m K : Nat} (hn : 200 ≤ n) (hK : K ≤ 58) {p : List Rope} {G : List Int} (w : Walk K p G) (s2 : Sl) : ∀ (f : Nat) (t : Int), t % 2 = 0 → 0 ≤ t → stillN t G < f → ∀ x5 x6 x7, ∃ y1 y4 y5 y6 y7,
    sWhile (tOf (eBin dIn (eC .none) (eSeq 3))) (c_l_walked_2 n) f [.fz (.list (planD p)), .ow (fl K (resL K G t p)), s2, .ow (gonD K G t), .fz (mo (lowN K t)), x5, x6, x7] =
      .nx [.fz (.list (planD p)), y1, s2, .ow (fl K G), y4, y5, y6, y7]
  | 0, t, _, _, h, x5, x6, x7 => absurd h (Nat.not_lt_zero _)
  | f + 1, t, ht, h0, hf, x5, x6, x7 => by
    have ni := none_in K G t
    have cnd : (tOf (eBin dIn (eC .none) (eSeq 3))) [.fz (.list (planD p)), .ow (fl K (resL K G t p)), s2, .ow (gonD K G t), .fz (mo (lowN K t)), x5, x6, x7] = some (decide (∃ v ∈ G, t < v)) := tof_step (bin_step rfl rfl ni)
    by_cases c : ∃ v ∈ G, t < v
    · obtain ⟨T, hm, hT, hmin⟩ := exists_min c
      rw [decide_eq_true c] at cnd
      obtain ⟨y5, y6, y7, t1⟩ := walk_turn (n := n) hn hK w ht h0 hT hm hmin s2 x5 x6 x7
      have dec := stillN_lt hT G hm
      obtain ⟨z1, z4, z5, z6, z7, ih⟩ := walk_while (m := m) hn hK w s2 f T (w.even T hm) (by omega) (by omega) y5 y6 y7
      refine ⟨z1, z4, z5, z6, z7, ?_⟩
      unfold sWhile
      rw [cnd, t1]
      exact ih
    · rw [decide_eq_false c] at cnd
      refine ⟨.ow (fl K (resL K G t p)), .fz (mo (lowN K t)), x5, x6, x7, ?_⟩
      unfold sWhile
      rw [cnd, gon_all c]
theorem start_res {K : Nat} {p : List Rope} {G : List Int} (w : Walk K p G) : fl K (resL K G 0 p) = p.map fun _ => mo (lowN K (2 ^ K)) := by
  have e : ∀ (q : List Rope) (L : List Int), L.length = q.length → (∀ v ∈ L, 0 < v) → (q.zip L).map (fun x => mo (lowN K (resV K G 0 x.1 x.2))) = q.map fun _ => mo (lowN K (2 ^ K)) := by
    intro q
    induction q with
    | nil => intro L _ _; rfl
    | cons r q ih =>
      intro L hl hp
      cases L with
      | nil => cases hl
      | cons v L =>
        have hv := hp v List.mem_cons_self
        rw [List.zip_cons_cons, List.map_cons, List.map_cons, ih L (by simpa using hl) fun u hu => hp u (List.mem_cons_of_mem _ hu)]
        unfold resV
        dsimp only
        rw [if_neg (by omega), eat_zero w.pos, Int.sub_zero]
  unfold fl resL
  rw [List.map_map]
  exact e p G w.len w.pos
theorem start_gon {K : Nat} {p : List Rope} {G : List Int} (w : Walk K p G) : gonD K G 0 = p.map fun _ => PyData.none := by
  have e : ∀ (q : List Rope) (L : List Int), L.length = q.length → (∀ v ∈ L, 0 < v) → L.map (gonE K 0) = q.map fun _ => PyData.none := by
    intro q
    induction q with
    | nil => intro L h _; rw [List.length_eq_zero_iff.mp h]; rfl
    | cons r q ih =>
      intro L hl hp
      cases L with
      | nil => cases hl
      | cons v L =>
        have hv := hp v List.mem_cons_self
        rw [List.map_cons, List.map_cons, ih L (by simpa using hl) fun u hu => hp u (List.mem_cons_of_mem _ hu), gonE_in hv]
  exact e p G w.len w.pos
theorem run_l_walked {n K : Nat} (hn : 200 ≤ n) (hK : K ≤ 58) {p : List Rope} {G : List Int} (w : Walk K p G) : b_l_walked n [.fz (.list (planD p)), .un, .un, .un, .un, .un, .un, .un] = .rt (.list (fl K G)) := by
  have few := w.few
  have sl := stillN_len 0 G
  have gl := w.len
  obtain ⟨y1, y4, y5, y6, y7, lp⟩ := walk_while (n := n) (m := n) hn hK w .un n 0 rfl (Int.le_refl _) (by omega) .un .un .un
  rw [start_res w, start_gon w, ← mo_zero K] at lp
  have c1 : oComp 2 (iLst (eVar 0)) tTrue (eTup (evs [(eC (.int 1)), (eC (.int 1))])) [.fz (.list (planD p)), .un, .un, .un, .un, .un, .un, .un] = some (p.map fun _ => mo (lowN K (2 ^ K))) := by
    refine comp_step (ds := planD p) rfl (by rw [planD_len]; omega) (comp_map ropeD _ p fun r hr => ?_)
    rw [← mo_one K]
    rfl
  have c2 : ∀ s1 : Sl, oComp 2 (iLst (eVar 0)) tTrue (eC .none) [.fz (.list (planD p)), s1, .un, .un, .un, .un, .un, .un] = some (p.map fun _ => PyData.none) := fun s1 =>
    comp_step (ds := planD p) rfl (by rw [planD_len]; omega) (comp_map ropeD _ p fun r hr => rfl)
  unfold b_l_walked
  refine seq_step (setO_step c1) ?_
  refine seq_step (setO_step (c2 _)) ?_
  refine seq_step (set_step (d := .tuple [.int 0, .int 1]) rfl) ?_
  refine seq_step (r1 := [.fz (.list (planD p)), y1, .un, .ow (fl K G), y4, y5, y6, y7]) lp ?_
  rfl
/-! ### the first late rope -/
theorem late_one {n K : Nat} {G : List Int} (P : Sl) (k : Nat) {v : Int} (hv : G[k]? = some v) (u : Int) (a b : PyData) (s3 s6 : Sl) (hK : K ≤ 58) :
    c_l_late_1 n [P, .br (fl K G), .fz (.int (k : Int)), s3, .fz (.list [a, b]), .fz (mo (lowN K u)), s6] = if u < v then .nx [P, .br (fl K G), .fz (.int (k : Int)), s3, .fz (.list [a, b]), .fz (mo (lowN K u)), s6] else .rt (.int (k : Int)) := by
  have ix := ix_fl (K := K) hv
  have ls := run_l_less (n := n) (K := K) u v (by omega)
  have l2 : (((([a, b] : List PyData)).length : Int) == 2) = true := rfl
  unfold c_l_late_1
  by_cases c : u < v
  · rw [decide_eq_true c] at ls
    rw [if_pos c]
    simp only [a_nil, a_seq, a_if, a_ret, a_set, a_setO, a_sfrz, a_frz, a_mut, a_for, a_bin, a_seqv, a_var, a_c, a_un, a_tup, a_evs0, a_evs1, a_call, a_gs, a_gw, a_gnil, a_tof, a_tand, a_tor, a_tnot, a_and, a_or, a_not, a_eif, a_neg, a_lstD, a_rg1, a_rg2, a_ilst, a_itpl, a_olst, a_cat, a_ttrue, dAdd_int, dSub_int, dLt_int, dLe_int, dGt_int, dGe_int, dEq_int, dNe_int, dEq_bool, dNe_bool, dIs_non, dIsNot_non, isN_none, isN_int, isN_tup, isN_lst, dLen_list, dLen_t2, mo_0, mo_1, beq_self_eq_true, dAbs_int, ix_t0, ix_t1, isi_tt, isi_ib, isi_ii, isi_bb, isi_ll, isi_ss, mod_2, div_2, mul_two, Option.bind_some, Option.map_some, Option.some.injEq, List.getElem?_cons_zero, List.getElem?_cons_succ, List.set_cons_zero, List.set_cons_succ, List.cons_append, List.nil_append, List.replicate_zero, List.replicate_succ, List.append_nil, Bool.not_true, Bool.not_false, decide_true, decide_false, if_true, if_false, a_late, a_nopl, a_setX, a_tryN, a_tryL, a_setT, a_clr, a_ibr, a_iow, l2, ix, ls]
  · rw [decide_eq_false c] at ls
    rw [if_neg c]
    simp only [a_nil, a_seq, a_if, a_ret, a_set, a_setO, a_sfrz, a_frz, a_mut, a_for, a_bin, a_seqv, a_var, a_c, a_un, a_tup, a_evs0, a_evs1, a_call, a_gs, a_gw, a_gnil, a_tof, a_tand, a_tor, a_tnot, a_and, a_or, a_not, a_eif, a_neg, a_lstD, a_rg1, a_rg2, a_ilst, a_itpl, a_olst, a_cat, a_ttrue, dAdd_int, dSub_int, dLt_int, dLe_int, dGt_int, dGe_int, dEq_int, dNe_int, dEq_bool, dNe_bool, dIs_non, dIsNot_non, isN_none, isN_int, isN_tup, isN_lst, dLen_list, dLen_t2, mo_0, mo_1, beq_self_eq_true, dAbs_int, ix_t0, ix_t1, isi_tt, isi_ib, isi_ii, isi_bb, isi_ll, isi_ss, mod_2, div_2, mul_two, Option.bind_some, Option.map_some, Option.some.injEq, List.getElem?_cons_zero, List.getElem?_cons_succ, List.set_cons_zero, List.set_cons_succ, List.cons_append, List.nil_append, List.replicate_zero, List.replicate_succ, List.append_nil, Bool.not_true, Bool.not_false, decide_true, decide_false, if_true, if_false, a_late, a_nopl, a_setX, a_tryN, a_tryL, a_setT, a_clr, a_ibr, a_iow, l2, ix, ls]
theorem late_loop {n K : Nat} (hn : 200 ≤ n) (hK : K ≤ 58) {p : List Rope} {G : List Int} (w : Walk K p G) : ∀ (rs : List Rope) (acc : List Int), p.drop acc.length = rs → walkV K rs acc = G → ∀ x y z q, ∃ x' y' z' q',
    forL 2 (c_l_late_2 n) (rngD (acc.length : Int) rs.length) [.fz (.list (planD p)), .br (fl K G), x, y, z, q, .un] =
      (match outsV K rs acc with
        | (_, none) => .nx [.fz (.list (planD p)), .br (fl K G), x', y', z', q', .un]
        | (_, some j) => .rt (.int (j : Int)))
  | [], acc, _, _, x, y, z, q => ⟨x, y, z, q, rfl⟩
  | (a, o) :: rs, acc, hd, hw, x, y, z, q => by
    obtain ⟨hg, hd'⟩ := get_drop hd
    obtain ⟨na, nb⟩ := w.ok _ _ hg
    have na : numOk acc.length a := na
    have hp' := planD_get hg
    obtain ⟨tl, ht⟩ := walkV_pre K rs (acc ++ [goW K acc (a, o)])
    rw [show walkV K rs (acc ++ [goW K acc (a, o)]) = G from hw, List.append_assoc] at ht
    have hv : G[acc.length]? = some (goW K acc (a, o)) := by
      rw [ht, List.getElem?_append_right (Nat.le_refl _), Nat.sub_self]
      rfl
    have hacc : acc.length < G.length := (List.getElem?_eq_some_iff.mp hv).1
    have num : ∀ (c : Int) (s0 s2 s3 s4 s5 : Sl), numOk acc.length c → eIf (tOf (eBin dEq (eSeq 6) (eNeg (eC (.int 1))))) (eTup (evs [(eC (.int 0)), (eC (.int 1))])) (eBin dIx (eSeq 1) (eSeq 6)) [s0, .br (fl K G), s2, s3, s4, s5, .fz (.int c)] = some (mo (lowN K (vOf acc c))) := fun c s0 s2 s3 s4 s5 h => by
      have e0 : vOf acc c = vOf G c := by rw [ht]; exact (vOf_pre h).symm
      rw [e0]
      rcases h with rfl | ⟨h0, h1⟩
      · simp only [a_nil, a_seq, a_if, a_ret, a_set, a_setO, a_sfrz, a_frz, a_mut, a_for, a_bin, a_seqv, a_var, a_c, a_un, a_tup, a_evs0, a_evs1, a_call, a_gs, a_gw, a_gnil, a_tof, a_tand, a_tor, a_tnot, a_and, a_or, a_not, a_eif, a_neg, a_lstD, a_rg1, a_rg2, a_ilst, a_itpl, a_olst, a_cat, a_ttrue, dAdd_int, dSub_int, dLt_int, dLe_int, dGt_int, dGe_int, dEq_int, dNe_int, dEq_bool, dNe_bool, dIs_non, dIsNot_non, isN_none, isN_int, isN_tup, isN_lst, dLen_list, dLen_t2, mo_0, mo_1, beq_self_eq_true, dAbs_int, ix_t0, ix_t1, isi_tt, isi_ib, isi_ii, isi_bb, isi_ll, isi_ss, mod_2, div_2, mul_two, Option.bind_some, Option.map_some, Option.some.injEq, List.getElem?_cons_zero, List.getElem?_cons_succ, List.set_cons_zero, List.set_cons_succ, List.cons_append, List.nil_append, List.replicate_zero, List.replicate_succ, List.append_nil, Bool.not_true, Bool.not_false, decide_true, decide_false, if_true, if_false, a_late, a_nopl, a_setX, a_tryN, a_tryL, a_setT, a_clr, a_ibr, a_iow, mo_zero K]
        rfl
      · have e : (c == -1) = false := beq_eq_false_iff_ne.mpr (by omega)
        simp only [a_nil, a_seq, a_if, a_ret, a_set, a_setO, a_sfrz, a_frz, a_mut, a_for, a_bin, a_seqv, a_var, a_c, a_un, a_tup, a_evs0, a_evs1, a_call, a_gs, a_gw, a_gnil, a_tof, a_tand, a_tor, a_tnot, a_and, a_or, a_not, a_eif, a_neg, a_lstD, a_rg1, a_rg2, a_ilst, a_itpl, a_olst, a_cat, a_ttrue, dAdd_int, dSub_int, dLt_int, dLe_int, dGt_int, dGe_int, dEq_int, dNe_int, dEq_bool, dNe_bool, dIs_non, dIsNot_non, isN_none, isN_int, isN_tup, isN_lst, dLen_list, dLen_t2, mo_0, mo_1, beq_self_eq_true, dAbs_int, ix_t0, ix_t1, isi_tt, isi_ib, isi_ii, isi_bb, isi_ll, isi_ss, mod_2, div_2, mul_two, Option.bind_some, Option.map_some, Option.some.injEq, List.getElem?_cons_zero, List.getElem?_cons_succ, List.set_cons_zero, List.set_cons_succ, List.cons_append, List.nil_append, List.replicate_zero, List.replicate_succ, List.append_nil, Bool.not_true, Bool.not_false, decide_true, decide_false, if_true, if_false, a_late, a_nopl, a_setX, a_tryN, a_tryL, a_setT, a_clr, a_ibr, a_iow, e, ix_num (K := K) (acc := G) h0 (by omega)]
    rw [List.length_cons, rngD_succ]
    have el : ∀ v : Int, ((acc.length : Int) + 1) = ((acc ++ [v]).length : Int) := fun v => by rw [List.length_append, List.length_singleton]; omega
    have hd2 : p.drop (acc ++ [goW K acc (a, o)]).length = rs := by rw [List.length_append, List.length_singleton]; exact hd'
    cases o with
    | none =>
      have c1 : oComp 6 (iTpl (eBin dIx (eSeq 0) (eSeq 2))) (tOf (eBin dIsNot (eSeq 6) (eC .none))) (eVar 6) [.fz (.list (planD p)), .br (fl K G), .fz (.int (acc.length : Int)), y, z, q, .un] = some [.int a] := by
        refine comp_step (ds := [.int a, .none]) ?_ (show (2 : Nat) ≤ 1000000 by decide) rfl
        simp only [a_nil, a_seq, a_if, a_ret, a_set, a_setO, a_sfrz, a_frz, a_mut, a_for, a_bin, a_seqv, a_var, a_c, a_un, a_tup, a_evs0, a_evs1, a_call, a_gs, a_gw, a_gnil, a_tof, a_tand, a_tor, a_tnot, a_and, a_or, a_not, a_eif, a_neg, a_lstD, a_rg1, a_rg2, a_ilst, a_itpl, a_olst, a_cat, a_ttrue, dAdd_int, dSub_int, dLt_int, dLe_int, dGt_int, dGe_int, dEq_int, dNe_int, dEq_bool, dNe_bool, dIs_non, dIsNot_non, isN_none, isN_int, isN_tup, isN_lst, dLen_list, dLen_t2, mo_0, mo_1, beq_self_eq_true, dAbs_int, ix_t0, ix_t1, isi_tt, isi_ib, isi_ii, isi_bb, isi_ll, isi_ss, mod_2, div_2, mul_two, Option.bind_some, Option.map_some, Option.some.injEq, List.getElem?_cons_zero, List.getElem?_cons_succ, List.set_cons_zero, List.set_cons_succ, List.cons_append, List.nil_append, List.replicate_zero, List.replicate_succ, List.append_nil, Bool.not_true, Bool.not_false, decide_true, decide_false, if_true, if_false, a_late, a_nopl, a_setX, a_tryN, a_tryL, a_setT, a_clr, a_ibr, a_iow, hp']
        rfl
      have c2 : oComp 6 (iOw 3) tTrue (eIf (tOf (eBin dEq (eSeq 6) (eNeg (eC (.int 1))))) (eTup (evs [(eC (.int 0)), (eC (.int 1))])) (eBin dIx (eSeq 1) (eSeq 6))) [.fz (.list (planD p)), .br (fl K G), .fz (.int (acc.length : Int)), .ow [.int a], z, q, .un] = some [mo (lowN K (vOf acc a))] := by
        refine comp_step (ds := [.int a]) rfl (show (1 : Nat) ≤ 1000000 by decide) ?_
        have nm := num a (.fz (.list (planD p))) (.fz (.int (acc.length : Int))) (.ow [.int a]) z q na
        generalize (eIf (tOf (eBin dEq (eSeq 6) (eNeg (eC (.int 1))))) (eTup (evs [(eC (.int 0)), (eC (.int 1))])) (eBin dIx (eSeq 1) (eSeq 6))) = FE at nm ⊢
        simp only [a_comp0, a_comp1, a_ttrue, List.set_cons_zero, List.set_cons_succ, nm, Option.bind_some, Option.map_some]
      have turn : c_l_late_2 n [.fz (.list (planD p)), .br (fl K G), .fz (.int (acc.length : Int)), y, z, q, .un] = .nx [.fz (.list (planD p)), .br (fl K G), .fz (.int (acc.length : Int)), .ow [.int a], .fz (.list [mo (lowN K (vOf acc a))]), .fz (mo (lowN K (vOf acc a))), .un] := by
        unfold c_l_late_2
        refine seq_step (setO_step c1) (seq_step (setO_step c2) ?_)
        refine for_step (ds := [mo (lowN K (vOf acc a))]) rfl (for1_step (r1 := [.fz (.list (planD p)), .br (fl K G), .fz (.int (acc.length : Int)), .ow [.int a], .fz (.list [mo (lowN K (vOf acc a))]), .fz (mo (lowN K (vOf acc a))), .un]) ?_ rfl)
        unfold c_l_late_1
        exact if_no rfl
      obtain ⟨x', y', z', q', ih⟩ := late_loop (n := n) hn hK w rs (acc ++ [goW K acc (a, none)]) hd2 hw (.fz (.int (acc.length : Int))) (.ow [.int a]) (.fz (.list [mo (lowN K (vOf acc a))])) (.fz (mo (lowN K (vOf acc a))))
      refine ⟨x', y', z', q', for1_step turn ?_⟩
      rw [el (goW K acc (a, none))]
      exact ih
    | some b =>
      have nb : numOk acc.length b := (nb b rfl).1
      have c1 : oComp 6 (iTpl (eBin dIx (eSeq 0) (eSeq 2))) (tOf (eBin dIsNot (eSeq 6) (eC .none))) (eVar 6) [.fz (.list (planD p)), .br (fl K G), .fz (.int (acc.length : Int)), y, z, q, .un] = some [.int a, .int b] := by
        refine comp_step (ds := [.int a, .int b]) ?_ (show (2 : Nat) ≤ 1000000 by decide) rfl
        simp only [a_nil, a_seq, a_if, a_ret, a_set, a_setO, a_sfrz, a_frz, a_mut, a_for, a_bin, a_seqv, a_var, a_c, a_un, a_tup, a_evs0, a_evs1, a_call, a_gs, a_gw, a_gnil, a_tof, a_tand, a_tor, a_tnot, a_and, a_or, a_not, a_eif, a_neg, a_lstD, a_rg1, a_rg2, a_ilst, a_itpl, a_olst, a_cat, a_ttrue, dAdd_int, dSub_int, dLt_int, dLe_int, dGt_int, dGe_int, dEq_int, dNe_int, dEq_bool, dNe_bool, dIs_non, dIsNot_non, isN_none, isN_int, isN_tup, isN_lst, dLen_list, dLen_t2, mo_0, mo_1, beq_self_eq_true, dAbs_int, ix_t0, ix_t1, isi_tt, isi_ib, isi_ii, isi_bb, isi_ll, isi_ss, mod_2, div_2, mul_two, Option.bind_some, Option.map_some, Option.some.injEq, List.getElem?_cons_zero, List.getElem?_cons_succ, List.set_cons_zero, List.set_cons_succ, List.cons_append, List.nil_append, List.replicate_zero, List.replicate_succ, List.append_nil, Bool.not_true, Bool.not_false, decide_true, decide_false, if_true, if_false, a_late, a_nopl, a_setX, a_tryN, a_tryL, a_setT, a_clr, a_ibr, a_iow, hp']
        rfl
      have c2 : oComp 6 (iOw 3) tTrue (eIf (tOf (eBin dEq (eSeq 6) (eNeg (eC (.int 1))))) (eTup (evs [(eC (.int 0)), (eC (.int 1))])) (eBin dIx (eSeq 1) (eSeq 6))) [.fz (.list (planD p)), .br (fl K G), .fz (.int (acc.length : Int)), .ow [.int a, .int b], z, q, .un] = some [mo (lowN K (vOf acc a)), mo (lowN K (vOf acc b))] := by
        refine comp_step (ds := [.int a, .int b]) rfl (show (2 : Nat) ≤ 1000000 by decide) ?_
        have nm := num a (.fz (.list (planD p))) (.fz (.int (acc.length : Int))) (.ow [.int a, .int b]) z q na
        have nm2 := num b (.fz (.list (planD p))) (.fz (.int (acc.length : Int))) (.ow [.int a, .int b]) z q nb
        generalize (eIf (tOf (eBin dEq (eSeq 6) (eNeg (eC (.int 1))))) (eTup (evs [(eC (.int 0)), (eC (.int 1))])) (eBin dIx (eSeq 1) (eSeq 6))) = FE at nm nm2 ⊢
        simp only [a_comp0, a_comp1, a_ttrue, List.set_cons_zero, List.set_cons_succ, nm, nm2, Option.bind_some, Option.map_some]
      have hM := p2_pos K
      have hgo : ((vOf acc a - vOf acc b).natAbs : Int) < 2 ^ K ↔ (vOf acc a < goW K acc (a, some b) ∧ vOf acc b < goW K acc (a, some b)) := by
        obtain ⟨v', hv', hwg⟩ := w.goes _ _ hg
        rw [hv] at hv'
        cases hv'
        have e1 : vOf G a = vOf acc a := by rw [ht]; exact vOf_pre na
        have e2 : vOf G b = vOf acc b := by rw [ht]; exact vOf_pre nb
        have h' : (((vOf G a - vOf G b).natAbs : Int) < 2 ^ K ∧ 2 * goW K acc (a, some b) = vOf G a + vOf G b + 2 ^ K) ∨ (2 ^ K ≤ ((vOf G a - vOf G b).natAbs : Int) ∧ goW K acc (a, some b) = (if vOf G a ≤ vOf G b then vOf G a else vOf G b) + 2 ^ K) := hwg
        rw [e1, e2] at h'
        generalize goW K acc (a, some b) = v at *
        generalize vOf acc a = u at *
        generalize vOf acc b = s at *
        generalize (2 : Int) ^ K = M at *
        rcases h' with h' | h'
        · omega
        · by_cases c : u ≤ s
          · rw [if_pos c] at h'
            omega
          · rw [if_neg c] at h'
            omega
      have l1 := late_one (n := n) (K := K) (.fz (.list (planD p))) acc.length hv (vOf acc a) (mo (lowN K (vOf acc a))) (mo (lowN K (vOf acc b))) (.ow [.int a, .int b]) .un hK
      have l2 := late_one (n := n) (K := K) (.fz (.list (planD p))) acc.length hv (vOf acc b) (mo (lowN K (vOf acc a))) (mo (lowN K (vOf acc b))) (.ow [.int a, .int b]) .un hK
      by_cases c : ((vOf acc a - vOf acc b).natAbs : Int) < 2 ^ K
      · obtain ⟨h1, h2⟩ := hgo.mp c
        rw [if_pos h1] at l1
        rw [if_pos h2] at l2
        have turn : c_l_late_2 n [.fz (.list (planD p)), .br (fl K G), .fz (.int (acc.length : Int)), y, z, q, .un] = .nx [.fz (.list (planD p)), .br (fl K G), .fz (.int (acc.length : Int)), .ow [.int a, .int b], .fz (.list [mo (lowN K (vOf acc a)), mo (lowN K (vOf acc b))]), .fz (mo (lowN K (vOf acc b))), .un] := by
          unfold c_l_late_2
          refine seq_step (setO_step c1) (seq_step (setO_step c2) ?_)
          exact for_step (ds := [mo (lowN K (vOf acc a)), mo (lowN K (vOf acc b))]) rfl (for1_step l1 (for1_step l2 rfl))
        obtain ⟨x', y', z', q', ih⟩ := late_loop (n := n) hn hK w rs (acc ++ [goW K acc (a, some b)]) hd2 hw (.fz (.int (acc.length : Int))) (.ow [.int a, .int b]) (.fz (.list [mo (lowN K (vOf acc a)), mo (lowN K (vOf acc b))])) (.fz (mo (lowN K (vOf acc b))))
        refine ⟨x', y', z', q', for1_step turn ?_⟩
        rw [el (goW K acc (a, some b))]
        refine ih.trans ?_
        rw [show goW K acc (a, some b) = (vOf acc a + vOf acc b + 2 ^ K) / 2 from if_pos c, show outsV K ((a, some b) :: rs) acc = outsV K rs (acc ++ [(vOf acc a + vOf acc b + 2 ^ K) / 2]) from if_pos c]
      · refine ⟨x, y, z, q, ?_⟩
        rw [show outsV K ((a, some b) :: rs) acc = (acc, some acc.length) from if_neg c]
        have turn : c_l_late_2 n [.fz (.list (planD p)), .br (fl K G), .fz (.int (acc.length : Int)), y, z, q, .un] = .rt (.int (acc.length : Int)) := by
          unfold c_l_late_2
          refine seq_step (setO_step c1) (seq_step (setO_step c2) ?_)
          refine for_step (ds := [mo (lowN K (vOf acc a)), mo (lowN K (vOf acc b))]) rfl ?_
          by_cases h1 : vOf acc a < goW K acc (a, some b)
          · have h2 : ¬ vOf acc b < goW K acc (a, some b) := fun h => c (hgo.mpr ⟨h1, h⟩)
            rw [if_pos h1] at l1
            rw [if_neg h2] at l2
            exact for1_step l1 (for1_stop l2)
          · rw [if_neg h1] at l1
            exact for1_stop l1
        exact for1_stop turn
theorem run_l_late {n K : Nat} (hn : 200 ≤ n) (hK : K ≤ 58) {p : List Rope} (w : Walk K p (walkV K p [])) : b_l_late n [.fz (.list (planD p)), .br (fl K (walkV K p [])), .un, .un, .un, .un, .un] = .rt (match (outsV K p []).2 with | none => .none | some j => .int (j : Int)) := by
  have few := w.few
  obtain ⟨x', y', z', q', lp⟩ := late_loop (n := n) hn hK w p [] rfl rfl .un .un .un .un
  have rk : rngOk (((planD p).length : Nat) : Int) = true := rngOk_iff.mpr (by rw [planD_len]; omega)
  have e1 : iRg1 (eUn dLen (eSeq 0)) [.fz (.list (planD p)), .br (fl K (walkV K p [])), .un, .un, .un, .un, .un] = some (rngD 0 p.length) := by
    have ln : (eUn dLen (eSeq 0)) [.fz (.list (planD p)), .br (fl K (walkV K p [])), .un, .un, .un, .un, .un] = some (.int ((planD p).length : Int)) := rfl
    rw [a_rg1, ln]
    show (if rngOk ((planD p).length : Int) = true then some (rngD 0 ((planD p).length : Int).toNat) else none) = _
    rw [if_pos rk, Int.toNat_natCast, planD_len]
  unfold b_l_late
  cases e : outsV K p [] with
  | mk acc o =>
    rw [e] at lp
    cases o with
    | none => exact seq_step (for_step e1 lp) rfl
    | some j =>
      rw [a_seq, for_step e1 lp]
end L2.RC

namespace L2.RC
open PySem PySem.Spec PyProof.Rows
theorem plan_loop {n : Nat} (ns : List Int) (s : Nat) (w : Sl) : ∀ (m : Nat) (acc : List Rope), acc.length + m < 1000 → ∀ x y z, ∃ x' y' z',
    forL 4 (c_l_plan_1 n) (rngD (acc.length : Int) m) [.br (ns.map .int), .fz (.int (s : Int)), w, .ow (planD acc), x, y, z] =
      .nx [.br (ns.map .int), .fz (.int (s : Int)), w, .ow (planD (acc ++ drawnPlan ns s acc.length m)), x', y', z']
  | 0, acc, _, x, y, z => ⟨x, y, z, by rw [rngD_zero, a_for0]; unfold drawnPlan; rw [List.append_nil]⟩
  | m + 1, acc, hl, x, y, z => by
    have c1 : b_l_cell_at n [.br (ns.map .int), .fz (.int ((s : Int) + 2 * (acc.length : Int)))] = .rt (.int (cell ns (s + 2 * acc.length))) := by
      have := run_l_cell_at (n := n) ns (s + 2 * acc.length)
      rw [show ((s + 2 * acc.length : Nat) : Int) = (s : Int) + 2 * (acc.length : Int) by omega] at this
      exact this
    have c2 : b_l_cell_at n [.br (ns.map .int), .fz (.int ((s : Int) + 2 * (acc.length : Int) + 1))] = .rt (.int (cell ns (s + 2 * acc.length + 1))) := by
      have := run_l_cell_at (n := n) ns (s + 2 * acc.length + 1)
      rw [show ((s + 2 * acc.length + 1 : Nat) : Int) = (s : Int) + 2 * (acc.length : Int) + 1 by omega] at this
      exact this
    have hD : drawnPlan ns s acc.length (m + 1) = drawn (cell ns (s + 2 * acc.length)) (cell ns (s + 2 * acc.length + 1)) acc.length :: drawnPlan ns s (acc.length + 1) m := rfl
    generalize cell ns (s + 2 * acc.length) = u at c1 hD
    generalize cell ns (s + 2 * acc.length + 1) = v at c2 hD
    have h0 : 0 ≤ u % ((acc.length : Int) + 1) := Int.emod_nonneg _ (by omega)
    have h1 : u % ((acc.length : Int) + 1) < (acc.length : Int) + 1 := Int.emod_lt_of_pos _ (by omega)
    have md : dMod (.int u) (.int ((acc.length : Int) + 1)) = some (.int (u % ((acc.length : Int) + 1))) := mod_p (by omega)
    have m4 : dMod (.int v) (.int 4) = some (.int (v % 4)) := mod_p (by decide)
    have d4 : dDiv (.int v) (.int 4) = some (.int (v / 4)) := div_p (by decide) (by decide)
    have mq : dMod (.int (v / 4)) (.int ((acc.length : Int) - (u % ((acc.length : Int) + 1) - 1))) = some (.int (v / 4 % ((acc.length : Int) - (u % ((acc.length : Int) + 1) - 1)))) := mod_p (by omega)
    have ap : ∀ r : Rope, lAppend (planD acc) (ropeD r) = some (planD (acc ++ [r])) := fun r => by
      unfold lAppend
      rw [if_pos (by rw [planD_len]; omega)]
      unfold planD
      rw [List.map_append]
      rfl
    have e : ∃ y' z', c_l_plan_1 n [.br (ns.map .int), .fz (.int (s : Int)), w, .ow (planD acc), .fz (.int (acc.length : Int)), y, z] = .nx [.br (ns.map .int), .fz (.int (s : Int)), w, .ow (planD (acc ++ [drawn u v acc.length])), .fz (.int (acc.length : Int)), y', z'] := by
      refine ⟨.fz (.int (u % ((acc.length : Int) + 1) - 1)), .fz (.int v), ?_⟩
      unfold c_l_plan_1 drawn
      by_cases k3 : v % 4 = 3
      · have k3' : (v % 4 == 3) = true := beq_iff_eq.mpr k3
        have ap3 := ap (u % ((acc.length : Int) + 1) - 1, none)
        unfold ropeD oD at ap3
        simp only [a_nil, a_seq, a_if, a_ret, a_set, a_setO, a_sfrz, a_frz, a_mut, a_for, a_bin, a_seqv, a_var, a_c, a_un, a_tup, a_evs0, a_evs1, a_call, a_gs, a_gw, a_gnil, a_tof, a_tand, a_tor, a_tnot, a_and, a_or, a_not, a_eif, a_neg, a_lstD, a_rg1, a_rg2, a_ilst, a_itpl, a_olst, a_cat, a_ttrue, dAdd_int, dSub_int, dLt_int, dLe_int, dGt_int, dGe_int, dEq_int, dNe_int, dEq_bool, dNe_bool, dIs_non, dIsNot_non, isN_none, isN_int, isN_tup, isN_lst, dLen_list, dLen_t2, mo_0, mo_1, beq_self_eq_true, dAbs_int, ix_t0, ix_t1, isi_tt, isi_ib, isi_ii, isi_bb, isi_ll, isi_ss, mod_2, div_2, mul_two, Option.bind_some, Option.map_some, Option.some.injEq, List.getElem?_cons_zero, List.getElem?_cons_succ, List.set_cons_zero, List.set_cons_succ, List.cons_append, List.nil_append, List.replicate_zero, List.replicate_succ, List.append_nil, Bool.not_true, Bool.not_false, decide_true, decide_false, if_true, if_false, a_late, a_nopl, a_setX, a_tryN, a_tryL, a_setT, a_clr, a_ibr, a_iow, c1, c2, md, m4, k3', ap3]
        simp only [k3, if_true]
      · have k3' : (v % 4 == 3) = false := beq_eq_false_iff_ne.mpr k3
        by_cases k2 : v % 4 = 2
        · have k2' : (v % 4 == 2) = true := beq_iff_eq.mpr k2
          have ap2 := ap (u % ((acc.length : Int) + 1) - 1, some (u % ((acc.length : Int) + 1) - 1))
          unfold ropeD oD at ap2
          simp only [a_nil, a_seq, a_if, a_ret, a_set, a_setO, a_sfrz, a_frz, a_mut, a_for, a_bin, a_seqv, a_var, a_c, a_un, a_tup, a_evs0, a_evs1, a_call, a_gs, a_gw, a_gnil, a_tof, a_tand, a_tor, a_tnot, a_and, a_or, a_not, a_eif, a_neg, a_lstD, a_rg1, a_rg2, a_ilst, a_itpl, a_olst, a_cat, a_ttrue, dAdd_int, dSub_int, dLt_int, dLe_int, dGt_int, dGe_int, dEq_int, dNe_int, dEq_bool, dNe_bool, dIs_non, dIsNot_non, isN_none, isN_int, isN_tup, isN_lst, dLen_list, dLen_t2, mo_0, mo_1, beq_self_eq_true, dAbs_int, ix_t0, ix_t1, isi_tt, isi_ib, isi_ii, isi_bb, isi_ll, isi_ss, mod_2, div_2, mul_two, Option.bind_some, Option.map_some, Option.some.injEq, List.getElem?_cons_zero, List.getElem?_cons_succ, List.set_cons_zero, List.set_cons_succ, List.cons_append, List.nil_append, List.replicate_zero, List.replicate_succ, List.append_nil, Bool.not_true, Bool.not_false, decide_true, decide_false, if_true, if_false, a_late, a_nopl, a_setX, a_tryN, a_tryL, a_setT, a_clr, a_ibr, a_iow, c1, c2, md, m4, k3', k2', ap2]
          simp only [k2]
          rfl
        · have k2' : (v % 4 == 2) = false := beq_eq_false_iff_ne.mpr k2
          have ap1 := ap (u % ((acc.length : Int) + 1) - 1, some (u % ((acc.length : Int) + 1) - 1 + v / 4 % ((acc.length : Int) - (u % ((acc.length : Int) + 1) - 1))))
          unfold ropeD oD at ap1
          simp only [a_nil, a_seq, a_if, a_ret, a_set, a_setO, a_sfrz, a_frz, a_mut, a_for, a_bin, a_seqv, a_var, a_c, a_un, a_tup, a_evs0, a_evs1, a_call, a_gs, a_gw, a_gnil, a_tof, a_tand, a_tor, a_tnot, a_and, a_or, a_not, a_eif, a_neg, a_lstD, a_rg1, a_rg2, a_ilst, a_itpl, a_olst, a_cat, a_ttrue, dAdd_int, dSub_int, dLt_int, dLe_int, dGt_int, dGe_int, dEq_int, dNe_int, dEq_bool, dNe_bool, dIs_non, dIsNot_non, isN_none, isN_int, isN_tup, isN_lst, dLen_list, dLen_t2, mo_0, mo_1, beq_self_eq_true, dAbs_int, ix_t0, ix_t1, isi_tt, isi_ib, isi_ii, isi_bb, isi_ll, isi_ss, mod_2, div_2, mul_two, Option.bind_some, Option.map_some, Option.some.injEq, List.getElem?_cons_zero, List.getElem?_cons_succ, List.set_cons_zero, List.set_cons_succ, List.cons_append, List.nil_append, List.replicate_zero, List.replicate_succ, List.append_nil, Bool.not_true, Bool.not_false, decide_true, decide_false, if_true, if_false, a_late, a_nopl, a_setX, a_tryN, a_tryL, a_setT, a_clr, a_ibr, a_iow, c1, c2, md, m4, k3', k2', d4, mq, ap1]
          rw [if_neg k3, if_neg k2]
    obtain ⟨y1, z1, e⟩ := e
    obtain ⟨x', y', z', ih⟩ := plan_loop ns s w m (acc ++ [drawn u v acc.length]) (by rw [List.length_append, List.length_singleton]; omega) (.fz (.int acc.length)) y1 z1
    refine ⟨x', y', z', ?_⟩
    rw [rngD_succ, a_for1]
    show (match c_l_plan_1 n [.br (ns.map .int), .fz (.int (s : Int)), w, .ow (planD acc), .fz (.int (acc.length : Int)), y, z] with | .nx ρ' => _ | .ct ρ' => _ | .bk ρ' => _ | o => o) = _
    rw [e]
    show forL 4 (c_l_plan_1 n) (rngD ((acc.length : Int) + 1) m) _ = _
    rw [show ((acc.length : Int) + 1) = ((acc ++ [drawn u v acc.length]).length : Int) by rw [List.length_append, List.length_singleton]; omega, ih, hD, List.append_assoc]
    rw [List.length_append, List.length_singleton]
    rfl
theorem run_l_plan {n : Nat} (ns : List Int) (s m : Nat) (hm : m < 1000) : b_l_plan n [.br (ns.map .int), .fz (.int (s : Int)), .fz (.int (m : Int)), .un, .un, .un, .un] = .rt (.list (planD (drawnPlan ns s 0 m))) := by
  obtain ⟨x', y', z', h⟩ := plan_loop (n := n) ns s (.fz (.int (m : Int))) m [] (by simpa using hm) .un .un .un
  have hr : rngOk (m : Int) = true := rngOk_iff.mpr (by omega)
  have h' : forL 4 (c_l_plan_1 n) (rngD 0 m) [.br (ns.map .int), .fz (.int (s : Int)), .fz (.int (m : Int)), .ow [], .un, .un, .un] = .nx [.br (ns.map .int), .fz (.int (s : Int)), .fz (.int (m : Int)), .ow (planD (drawnPlan ns s 0 m)), x', y', z'] := h
  unfold b_l_plan
  simp only [a_nil, a_seq, a_if, a_ret, a_set, a_setO, a_sfrz, a_frz, a_mut, a_for, a_bin, a_seqv, a_var, a_c, a_un, a_tup, a_evs0, a_evs1, a_call, a_gs, a_gw, a_gnil, a_tof, a_tand, a_tor, a_tnot, a_and, a_or, a_not, a_eif, a_neg, a_lstD, a_rg1, a_rg2, a_ilst, a_itpl, a_olst, a_cat, a_ttrue, dAdd_int, dSub_int, dLt_int, dLe_int, dGt_int, dGe_int, dEq_int, dNe_int, dEq_bool, dNe_bool, dIs_non, dIsNot_non, isN_none, isN_int, isN_tup, isN_lst, dLen_list, dLen_t2, mo_0, mo_1, beq_self_eq_true, dAbs_int, ix_t0, ix_t1, isi_tt, isi_ib, isi_ii, isi_bb, isi_ll, isi_ss, mod_2, div_2, mul_two, Option.bind_some, Option.map_some, Option.some.injEq, List.getElem?_cons_zero, List.getElem?_cons_succ, List.set_cons_zero, List.set_cons_succ, List.cons_append, List.nil_append, List.replicate_zero, List.replicate_succ, List.append_nil, Bool.not_true, Bool.not_false, decide_true, decide_false, if_true, if_false, a_late, a_nopl, a_setX, a_tryN, a_tryL, a_setT, a_clr, a_ibr, a_iow, hr, Int.toNat_natCast, h']
end L2.RC

namespace L2.RC
open PySem PySem.Spec PyProof.Rows
theorem fr_loop {n : Nat} (ds : List PyData) (hd : ∀ d ∈ ds, ∃ m, d = mo m) : ∀ (m k : Nat), k + m ≤ ds.length → ∀ x, ∃ x',
    forL 2 (c_l_fractions_1 n) (rngD (k : Int) m) [.br ds, .br ds, x] = .nx [.br ds, .br ds, x']
  | 0, k, _, x => ⟨x, rfl⟩
  | m + 1, k, hl, x => by
    have hk : k < ds.length := by omega
    obtain ⟨q, hq⟩ := hd ds[k] (List.getElem_mem hk)
    have hx : dIx (.list ds) (.int (k : Int)) = some (mo q) := atI_nat' (by rw [List.getElem?_eq_getElem hk, hq])
    have fr : b_l_fraction n [.fz (mo q), .fz (mo q), .un] = .rt (.bool true) := by rw [run_l_fraction, decide_eq_true rfl]
    obtain ⟨x', ih⟩ := fr_loop ds hd m (k + 1) (by omega) (.fz (.int k))
    refine ⟨x', ?_⟩
    have e : c_l_fractions_1 n [.br ds, .br ds, .fz (.int (k : Int))] = .nx [.br ds, .br ds, .fz (.int (k : Int))] := by
      unfold c_l_fractions_1
      simp only [a_nil, a_seq, a_if, a_ret, a_set, a_setO, a_sfrz, a_frz, a_mut, a_for, a_bin, a_seqv, a_var, a_c, a_un, a_tup, a_evs0, a_evs1, a_call, a_gs, a_gw, a_gnil, a_tof, a_tand, a_tor, a_tnot, a_and, a_or, a_not, a_eif, a_neg, a_lstD, a_rg1, a_rg2, a_ilst, a_itpl, a_olst, a_cat, a_ttrue, dAdd_int, dSub_int, dLt_int, dLe_int, dGt_int, dGe_int, dEq_int, dNe_int, dEq_bool, dNe_bool, dIs_non, dIsNot_non, isN_none, isN_int, isN_tup, isN_lst, dLen_list, dLen_t2, mo_0, mo_1, beq_self_eq_true, dAbs_int, ix_t0, ix_t1, isi_tt, isi_ib, isi_ii, isi_bb, isi_ll, isi_ss, mod_2, div_2, mul_two, Option.bind_some, Option.map_some, Option.some.injEq, List.getElem?_cons_zero, List.getElem?_cons_succ, List.set_cons_zero, List.set_cons_succ, List.cons_append, List.nil_append, List.replicate_zero, List.replicate_succ, List.append_nil, Bool.not_true, Bool.not_false, decide_true, decide_false, if_true, if_false, a_late, a_nopl, a_setX, a_tryN, a_tryL, a_setT, a_clr, a_ibr, a_iow, hx, fr]
    rw [rngD_succ, a_for1]
    show (match c_l_fractions_1 n [.br ds, .br ds, .fz (.int (k : Int))] with | .nx ρ' => _ | .ct ρ' => _ | .bk ρ' => _ | o => o) = _
    rw [e]
    exact ih
theorem run_l_fractions {n : Nat} (ds : List PyData) (hd : ∀ d ∈ ds, ∃ m, d = mo m) (hl : ds.length ≤ 1000000) : b_l_fractions n [.br ds, .br ds, .un] = .rt (.bool true) := by
  obtain ⟨x', h⟩ := fr_loop (n := n) ds hd ds.length 0 (by omega) .un
  have hr : rngOk (ds.length : Int) = true := rngOk_iff.mpr (by omega)
  have h' : forL 2 (c_l_fractions_1 n) (rngD 0 ds.length) [.br ds, .br ds, .un] = .nx [.br ds, .br ds, x'] := h
  unfold b_l_fractions
  simp only [a_nil, a_seq, a_if, a_ret, a_set, a_setO, a_sfrz, a_frz, a_mut, a_for, a_bin, a_seqv, a_var, a_c, a_un, a_tup, a_evs0, a_evs1, a_call, a_gs, a_gw, a_gnil, a_tof, a_tand, a_tor, a_tnot, a_and, a_or, a_not, a_eif, a_neg, a_lstD, a_rg1, a_rg2, a_ilst, a_itpl, a_olst, a_cat, a_ttrue, dAdd_int, dSub_int, dLt_int, dLe_int, dGt_int, dGe_int, dEq_int, dNe_int, dEq_bool, dNe_bool, dIs_non, dIsNot_non, isN_none, isN_int, isN_tup, isN_lst, dLen_list, dLen_t2, mo_0, mo_1, beq_self_eq_true, dAbs_int, ix_t0, ix_t1, isi_tt, isi_ib, isi_ii, isi_bb, isi_ll, isi_ss, mod_2, div_2, mul_two, Option.bind_some, Option.map_some, Option.some.injEq, List.getElem?_cons_zero, List.getElem?_cons_succ, List.set_cons_zero, List.set_cons_succ, List.cons_append, List.nil_append, List.replicate_zero, List.replicate_succ, List.append_nil, Bool.not_true, Bool.not_false, decide_true, decide_false, if_true, if_false, a_late, a_nopl, a_setX, a_tryN, a_tryL, a_setT, a_clr, a_ibr, a_iow, hr, Int.toNat_natCast, h']
theorem run_l_fractions_fl {n : Nat} (K : Nat) (acc : List Int) (hl : acc.length ≤ 1000000) : b_l_fractions n [.br (fl K acc), .br (fl K acc), .un] = .rt (.bool true) :=
  run_l_fractions _ (fun d h => by obtain ⟨v, _, e⟩ := List.mem_map.mp h; exact ⟨_, e.symm⟩) (by rw [fl_len]; exact hl)
end L2.RC

namespace L2.RC
open PySem PySem.Spec PyProof.Rows
theorem walk_of (p : List Rope) (hp : PlanOk p) (hl : p.length ≤ 10) : Walk 12 p (walkV 12 p []) := by
  have len := walkV_len 12 p []
  rw [List.length_nil, Nat.zero_add] at len
  obtain ⟨dv, go⟩ := walk_all (K := 12) p hp p [] rfl (by simp only [List.length_nil]; omega) (fun i v e => by simp at e)
  refine ⟨hp, len, walk_pos (by decide) p [] (fun v h => by cases h), fun v hv => ?_, by decide, by omega, fun i r hr => ?_⟩
  · obtain ⟨i, hi⟩ := List.mem_iff_getElem?.mp hv
    have hlt := (List.getElem?_eq_some_iff.mp hi).1
    have d := Int.dvd_trans (p2_dvd (show 1 ≤ 12 - 1 - i by omega)) (dv i v hi)
    have d : (2 : Int) ∣ v := d
    omega
  · have := go i r hr
    rw [List.length_nil, Nat.zero_add] at this
    exact this
theorem law_true (ns : List Int) (h : ns.length ≤ 63) : ∃ n, b_law n (Sl.br (ns.map .int) :: List.replicate (N_law.length - 1) .un) = .rt (.bool true) := by
  refine ⟨1000, ?_⟩
  have c0 : b_l_cell_at 1000 [.br (ns.map .int), .fz (.int 0)] = .rt (.int (cell ns 0)) := run_l_cell_at ns 0
  have m10 : dMod (.int (cell ns 0)) (.int 10) = some (.int (cell ns 0 % 10)) := mod_p (by decide)
  have q0 : 0 ≤ cell ns 0 % 10 := Int.emod_nonneg _ (by decide)
  have q1 : cell ns 0 % 10 < 10 := Int.emod_lt_of_pos _ (by decide)
  obtain ⟨m, hm, em⟩ : ∃ m : Nat, m ≤ 10 ∧ 1 + cell ns 0 % 10 = (m : Int) := ⟨(1 + cell ns 0 % 10).toNat, by omega, by omega⟩
  have pl : b_l_plan 1000 [.br (ns.map .int), .fz (.int 1), .fz (.int (1 + cell ns 0 % 10)), .un, .un, .un, .un] = .rt (.list (planD (drawnPlan ns 1 0 m))) := by
    rw [em]; exact run_l_plan ns 1 m (by omega)
  have hl := drawnPlan_len ns 1 m 0
  have ok := drawnPlan_ok ns 1 m
  generalize drawnPlan ns 1 0 m = p at pl hl ok
  have W := walk_of p ok (by omega)
  have rw1 := run_l_walked (n := 1000) (by decide) (by decide) W
  have rl := run_l_late (n := 1000) (by decide) (by decide) W
  have ro := run_outs (n := 1000) (K := 12) (by decide) (by decide) p ok (by omega)
  have T : ∀ o, b_outs 1000 [.br (planD p), .un, .un, .un, .un] = o → b_l_told 1000 [.br (planD p), .un, .un] = (match o with
      | .rt d => .rt (.tuple [.str (Str.ofString "outs"), d])
      | .rs (.late r) => .rt (.tuple [.str (Str.ofString "late"), .int r])
      | _ => .no) := by
    intro o ho
    unfold b_l_told
    simp only [a_nil, a_seq, a_if, a_ret, a_set, a_setO, a_sfrz, a_frz, a_mut, a_for, a_bin, a_seqv, a_var, a_c, a_un, a_tup, a_evs0, a_evs1, a_call, a_gs, a_gw, a_gnil, a_tof, a_tand, a_tor, a_tnot, a_and, a_or, a_not, a_eif, a_neg, a_lstD, a_rg1, a_rg2, a_ilst, a_itpl, a_olst, a_cat, a_ttrue, dAdd_int, dSub_int, dLt_int, dLe_int, dGt_int, dGe_int, dEq_int, dNe_int, dEq_bool, dNe_bool, dIs_non, dIsNot_non, isN_none, isN_int, isN_tup, isN_lst, dLen_list, dLen_t2, mo_0, mo_1, beq_self_eq_true, dAbs_int, ix_t0, ix_t1, isi_tt, isi_ib, isi_ii, isi_bb, isi_ll, isi_ss, mod_2, div_2, mul_two, Option.bind_some, Option.map_some, Option.some.injEq, List.getElem?_cons_zero, List.getElem?_cons_succ, List.set_cons_zero, List.set_cons_succ, List.cons_append, List.nil_append, List.replicate_zero, List.replicate_succ, List.append_nil, Bool.not_true, Bool.not_false, decide_true, decide_false, if_true, if_false, a_late, a_nopl, a_setX, a_tryN, a_tryL, a_setT, a_clr, a_ibr, a_iow, ho]
    cases o with
    | rs x => cases x <;> rfl
    | _ => rfl
  have ow := outs_walk 12 p []
  have gl := W.len
  show b_law 1000 [.br (ns.map .int), .un, .un, .un, .un] = _
  have a1 : gW (eSeq 0) (gS (eC (.int 1)) (gS (eBin dAdd (eC (.int 1)) (eBin dMod (eCall (b_l_cell_at 1000) 0 (gW (eSeq 0) (gS (eC (.int 0)) gNil))) (eC (.int 10)))) gNil)) [.br (ns.map .int), .un, .un, .un, .un] = some [.br (ns.map .int), .fz (.int 1), .fz (.int (1 + cell ns 0 % 10))] := by simp only [a_nil, a_seq, a_if, a_ret, a_set, a_setO, a_sfrz, a_frz, a_mut, a_for, a_bin, a_seqv, a_var, a_c, a_un, a_tup, a_evs0, a_evs1, a_call, a_gs, a_gw, a_gnil, a_tof, a_tand, a_tor, a_tnot, a_and, a_or, a_not, a_eif, a_neg, a_lstD, a_rg1, a_rg2, a_ilst, a_itpl, a_olst, a_cat, a_ttrue, dAdd_int, dSub_int, dLt_int, dLe_int, dGt_int, dGe_int, dEq_int, dNe_int, dEq_bool, dNe_bool, dIs_non, dIsNot_non, isN_none, isN_int, isN_tup, isN_lst, dLen_list, dLen_t2, mo_0, mo_1, beq_self_eq_true, dAbs_int, ix_t0, ix_t1, isi_tt, isi_ib, isi_ii, isi_bb, isi_ll, isi_ss, mod_2, div_2, mul_two, Option.bind_some, Option.map_some, Option.some.injEq, List.getElem?_cons_zero, List.getElem?_cons_succ, List.set_cons_zero, List.set_cons_succ, List.cons_append, List.nil_append, List.replicate_zero, List.replicate_succ, List.append_nil, Bool.not_true, Bool.not_false, decide_true, decide_false, if_true, if_false, a_late, a_nopl, a_setX, a_tryN, a_tryL, a_setT, a_clr, a_ibr, a_iow, c0, m10]
  unfold b_law
  refine seq_step (set_step (call_step a1 pl)) ?_
  refine seq_step (set_step (call_step (ss := [.fz (.list (planD p))]) rfl rw1)) ?_
  refine seq_step (set_step (call_step (ss := [.fz (.list (planD p)), .br (fl 12 (walkV 12 p []))]) rfl rl)) ?_
  cases e : outsV 12 p [] with
  | mk acc o =>
    rw [e] at ro ow
    cases o with
    | some j =>
      have t := T _ ro
      dsimp only at t
      have te := dEq_self (flat_tuple (ds := [.str (Str.ofString "late"), .int (j : Int)]) (n := 0) fun d h => by
        rcases List.mem_cons.mp h with rfl | h
        · exact flat_str
        · rw [List.mem_singleton.mp h]; exact flat_int _)
      refine seq_step (set_step (call_step (ss := [.br (planD p)]) rfl t)) ?_
      rw [a_seq, if_yes rfl, ret_step (bin_step (x := .tuple [.str (Str.ofString "late"), .int (j : Int)]) (y := .tuple [.str (Str.ofString "late"), .int (j : Int)]) rfl rfl te)]
    | none =>
      have t := T _ ro
      dsimp only at t
      rw [ow acc rfl] at gl ⊢
      have te := dEq_self (flat_str (i := Str.ofString "outs"))
      have fr := run_l_fractions_fl (n := 1000) 12 acc (by omega)
      refine seq_step (set_step (call_step (ss := [.br (planD p)]) rfl t)) ?_
      refine seq_step (if_no rfl) ?_
      refine ret_step ?_
      rw [a_and, bin_step (x := .str (Str.ofString "outs")) (y := .str (Str.ofString "outs")) rfl rfl te]
      exact call_step (ss := [.br (fl 12 acc), .br (fl 12 acc)]) rfl fr
end L2.RC

namespace L2.RC
open PySem PySem.Spec PyProof.Rows
/-- the law's promise: True -/
def spLaw (K : PySem.W.Frag) : Sp := fun vs H Q _ => ∃ (a : Addr) (ns : List Int), vs = [.ref a] ∧ SqL K H a (ns.map V.int) ∧ ns.length ≤ 63 ∧ ∀ H', Q (.bl true) H'
theorem all_mk {l : PySem.W.OpenLaw} {w : World} {K : PySem.W.Frag} {h : Heap} {mg : Str → Option Value} {fa : Addr} (X : K.In h) (G : h.Ns mainGlobals mg) (hfa : mg "law" = some (.ref fa))
    {f1 : Addr} {od1 an1 : Option Addr} {sl1 : Array (Option Value)} {oc1 kV1 dc1 pm1 cd1 ct1 : Value}
    {f2 : Addr} {od2 an2 : Option Addr} {sl2 : Array (Option Value)} {oc2 kV2 dc2 pm2 cd2 ct2 : Value}
    {f3 : Addr} {od3 an3 : Option Addr} {sl3 : Array (Option Value)} {oc3 kV3 dc3 pm3 cd3 ct3 : Value}
    {f4 : Addr} {od4 an4 : Option Addr} {sl4 : Array (Option Value)} {oc4 kV4 dc4 pm4 cd4 ct4 : Value}
    {f5 : Addr} {od5 an5 : Option Addr} {sl5 : Array (Option Value)} {oc5 kV5 dc5 pm5 cd5 ct5 : Value}
    {f6 : Addr} {od6 an6 : Option Addr} {sl6 : Array (Option Value)} {oc6 kV6 dc6 pm6 cd6 ct6 : Value}
    {f7 : Addr} {od7 an7 : Option Addr} {sl7 : Array (Option Value)} {oc7 kV7 dc7 pm7 cd7 ct7 : Value}
    {f8 : Addr} {od8 an8 : Option Addr} {sl8 : Array (Option Value)} {oc8 kV8 dc8 pm8 cd8 ct8 : Value}
    {f9 : Addr} {od9 an9 : Option Addr} {sl9 : Array (Option Value)} {oc9 kV9 dc9 pm9 cd9 ct9 : Value}
    {f10 : Addr} {od10 an10 : Option Addr} {sl10 : Array (Option Value)} {oc10 kV10 dc10 pm10 cd10 ct10 : Value}
    {f11 : Addr} {od11 an11 : Option Addr} {sl11 : Array (Option Value)} {oc11 kV11 dc11 pm11 cd11 ct11 : Value}
    {f12 : Addr} {od12 an12 : Option Addr} {sl12 : Array (Option Value)} {oc12 kV12 dc12 pm12 cd12 ct12 : Value}
    {f13 : Addr} {od13 an13 : Option Addr} {sl13 : Array (Option Value)} {oc13 kV13 dc13 pm13 cd13 ct13 : Value}
    {f14 : Addr} {od14 an14 : Option Addr} {sl14 : Array (Option Value)} {oc14 kV14 dc14 pm14 cd14 ct14 : Value}
    {f15 : Addr} {od15 an15 : Option Addr} {sl15 : Array (Option Value)} {oc15 kV15 dc15 pm15 cd15 ct15 : Value}
    {f16 : Addr} {od16 an16 : Option Addr} {sl16 : Array (Option Value)} {oc16 kV16 dc16 pm16 cd16 ct16 : Value}
    {f17 : Addr} {od17 an17 : Option Addr} {sl17 : Array (Option Value)} {oc17 kV17 dc17 pm17 cd17 ct17 : Value}
    {f18 : Addr} {od18 an18 : Option Addr} {sl18 : Array (Option Value)} {oc18 kV18 dc18 pm18 cd18 ct18 : Value}
    {f19 : Addr} {od19 an19 : Option Addr} {sl19 : Array (Option Value)} {oc19 kV19 dc19 pm19 cd19 ct19 : Value}
    {f20 : Addr} {od20 an20 : Option Addr} {sl20 : Array (Option Value)} {oc20 kV20 dc20 pm20 cd20 ct20 : Value}
    {f21 : Addr} {od21 an21 : Option Addr} {sl21 : Array (Option Value)} {oc21 kV21 dc21 pm21 cd21 ct21 : Value}
    {f22 : Addr} {od22 an22 : Option Addr} {sl22 : Array (Option Value)} {oc22 kV22 dc22 pm22 cd22 ct22 : Value}
    {CR : Addr}
    {CLa fI : Addr} {nmL qL : Str} {NL : Addr} {bsL : List Value} {snL : List Str} {subL : List Value} {abL : Bool} {colL : Option Bool} {ddL : Option Addr} {m0 m1 m2 m3 m5 : Option Value} {odL anL : Option Addr} {slL : Array (Option Value)} {ocL dcL pmL cdL ctL : Value}
    {hour : Addr} {hourD : Option Addr} {hourN : Nat} {hourT hourU : Tok} {hourS : Array (Option Value)}
    (a1 : PySem.W.nsIn K mainGlobals "plain" = some (some (.ref f1))) (l1 : K.lookup f1 = some ⟨oc1, od1, .func (PySem.W.fnOf "plain" "plain" (defArgs (topS 4)) (defBody (topS 4)) (defScope (topS 4)) .none kV1 dc1 pm1 an1 cd1 ct1), sl1⟩) (c1 : PySem.W.codeIn K cd1 "plain" = true) (k1 : PySem.W.keepIn K (.ref f1) = true)
    (a2 : PySem.W.nsIn K mainGlobals "mean_and_half" = some (some (.ref f2))) (l2 : K.lookup f2 = some ⟨oc2, od2, .func (PySem.W.fnOf "mean_and_half" "mean_and_half" (defArgs (topS 5)) (defBody (topS 5)) (defScope (topS 5)) .none kV2 dc2 pm2 an2 cd2 ct2), sl2⟩) (c2 : PySem.W.codeIn K cd2 "mean_and_half" = true) (k2 : PySem.W.keepIn K (.ref f2) = true)
    (a3 : PySem.W.nsIn K mainGlobals "hour_behind" = some (some (.ref f3))) (l3 : K.lookup f3 = some ⟨oc3, od3, .func (PySem.W.fnOf "hour_behind" "hour_behind" (defArgs (topS 6)) (defBody (topS 6)) (defScope (topS 6)) .none kV3 dc3 pm3 an3 cd3 ct3), sl3⟩) (c3 : PySem.W.codeIn K cd3 "hour_behind" = true) (k3 : PySem.W.keepIn K (.ref f3) = true)
    (a4 : PySem.W.nsIn K mainGlobals "earlier" = some (some (.ref f4))) (l4 : K.lookup f4 = some ⟨oc4, od4, .func (PySem.W.fnOf "earlier" "earlier" (defArgs (topS 7)) (defBody (topS 7)) (defScope (topS 7)) .none kV4 dc4 pm4 an4 cd4 ct4), sl4⟩) (c4 : PySem.W.codeIn K cd4 "earlier" = true) (k4 : PySem.W.keepIn K (.ref f4) = true)
    (a5 : PySem.W.nsIn K mainGlobals "between" = some (some (.ref f5))) (l5 : K.lookup f5 = some ⟨oc5, od5, .func (PySem.W.fnOf "between" "between" (defArgs (topS 8)) (defBody (topS 8)) (defScope (topS 8)) .none kV5 dc5 pm5 an5 cd5 ct5), sl5⟩) (c5 : PySem.W.codeIn K cd5 "between" = true) (k5 : PySem.W.keepIn K (.ref f5) = true)
    (a6 : PySem.W.nsIn K mainGlobals "moment_of" = some (some (.ref f6))) (l6 : K.lookup f6 = some ⟨oc6, od6, .func (PySem.W.fnOf "moment_of" "moment_of" (defArgs (topS 11)) (defBody (topS 11)) (defScope (topS 11)) .none kV6 dc6 pm6 an6 cd6 ct6), sl6⟩) (c6 : PySem.W.codeIn K cd6 "moment_of" = true) (k6 : PySem.W.keepIn K (.ref f6) = true)
    (a7 : PySem.W.nsIn K mainGlobals "outs" = some (some (.ref f7))) (l7 : K.lookup f7 = some ⟨oc7, od7, .func (PySem.W.fnOf "outs" "outs" (defArgs (topS 12)) (defBody (topS 12)) (defScope (topS 12)) .none kV7 dc7 pm7 an7 cd7 ct7), sl7⟩) (c7 : PySem.W.codeIn K cd7 "outs" = true) (k7 : PySem.W.keepIn K (.ref f7) = true)
    (a8 : PySem.W.nsIn K mainGlobals "_law_cell_at" = some (some (.ref f8))) (l8 : K.lookup f8 = some ⟨oc8, od8, .func (PySem.W.fnOf "_law_cell_at" "_law_cell_at" (defArgs (topS 14)) (defBody (topS 14)) (defScope (topS 14)) .none kV8 dc8 pm8 an8 cd8 ct8), sl8⟩) (c8 : PySem.W.codeIn K cd8 "_law_cell_at" = true) (k8 : PySem.W.keepIn K (.ref f8) = true)
    (a9 : PySem.W.nsIn K mainGlobals "_law_low" = some (some (.ref f9))) (l9 : K.lookup f9 = some ⟨oc9, od9, .func (PySem.W.fnOf "_law_low" "_law_low" (defArgs (topS 15)) (defBody (topS 15)) (defScope (topS 15)) .none kV9 dc9 pm9 an9 cd9 ct9), sl9⟩) (c9 : PySem.W.codeIn K cd9 "_law_low" = true) (k9 : PySem.W.keepIn K (.ref f9) = true)
    (a10 : PySem.W.nsIn K mainGlobals "_law_sum" = some (some (.ref f10))) (l10 : K.lookup f10 = some ⟨oc10, od10, .func (PySem.W.fnOf "_law_sum" "_law_sum" (defArgs (topS 16)) (defBody (topS 16)) (defScope (topS 16)) .none kV10 dc10 pm10 an10 cd10 ct10), sl10⟩) (c10 : PySem.W.codeIn K cd10 "_law_sum" = true) (k10 : PySem.W.keepIn K (.ref f10) = true)
    (a11 : PySem.W.nsIn K mainGlobals "_law_less" = some (some (.ref f11))) (l11 : K.lookup f11 = some ⟨oc11, od11, .func (PySem.W.fnOf "_law_less" "_law_less" (defArgs (topS 17)) (defBody (topS 17)) (defScope (topS 17)) .none kV11 dc11 pm11 an11 cd11 ct11), sl11⟩) (c11 : PySem.W.codeIn K cd11 "_law_less" = true) (k11 : PySem.W.keepIn K (.ref f11) = true)
    (a12 : PySem.W.nsIn K mainGlobals "_law_gap" = some (some (.ref f12))) (l12 : K.lookup f12 = some ⟨oc12, od12, .func (PySem.W.fnOf "_law_gap" "_law_gap" (defArgs (topS 18)) (defBody (topS 18)) (defScope (topS 18)) .none kV12 dc12 pm12 an12 cd12 ct12), sl12⟩) (c12 : PySem.W.codeIn K cd12 "_law_gap" = true) (k12 : PySem.W.keepIn K (.ref f12) = true)
    (a13 : PySem.W.nsIn K mainGlobals "_law_fraction" = some (some (.ref f13))) (l13 : K.lookup f13 = some ⟨oc13, od13, .func (PySem.W.fnOf "_law_fraction" "_law_fraction" (defArgs (topS 19)) (defBody (topS 19)) (defScope (topS 19)) .none kV13 dc13 pm13 an13 cd13 ct13), sl13⟩) (c13 : PySem.W.codeIn K cd13 "_law_fraction" = true) (k13 : PySem.W.keepIn K (.ref f13) = true)
    (a14 : PySem.W.nsIn K mainGlobals "_law_fractions" = some (some (.ref f14))) (l14 : K.lookup f14 = some ⟨oc14, od14, .func (PySem.W.fnOf "_law_fractions" "_law_fractions" (defArgs (topS 20)) (defBody (topS 20)) (defScope (topS 20)) .none kV14 dc14 pm14 an14 cd14 ct14), sl14⟩) (c14 : PySem.W.codeIn K cd14 "_law_fractions" = true) (k14 : PySem.W.keepIn K (.ref f14) = true)
    (a15 : PySem.W.nsIn K mainGlobals "_law_plan" = some (some (.ref f15))) (l15 : K.lookup f15 = some ⟨oc15, od15, .func (PySem.W.fnOf "_law_plan" "_law_plan" (defArgs (topS 21)) (defBody (topS 21)) (defScope (topS 21)) .none kV15 dc15 pm15 an15 cd15 ct15), sl15⟩) (c15 : PySem.W.codeIn K cd15 "_law_plan" = true) (k15 : PySem.W.keepIn K (.ref f15) = true)
    (a16 : PySem.W.nsIn K mainGlobals "_law_lit_now" = some (some (.ref f16))) (l16 : K.lookup f16 = some ⟨oc16, od16, .func (PySem.W.fnOf "_law_lit_now" "_law_lit_now" (defArgs (topS 22)) (defBody (topS 22)) (defScope (topS 22)) .none kV16 dc16 pm16 an16 cd16 ct16), sl16⟩) (c16 : PySem.W.codeIn K cd16 "_law_lit_now" = true) (k16 : PySem.W.keepIn K (.ref f16) = true)
    (a17 : PySem.W.nsIn K mainGlobals "_law_next" = some (some (.ref f17))) (l17 : K.lookup f17 = some ⟨oc17, od17, .func (PySem.W.fnOf "_law_next" "_law_next" (defArgs (topS 23)) (defBody (topS 23)) (defScope (topS 23)) .none kV17 dc17 pm17 an17 cd17 ct17), sl17⟩) (c17 : PySem.W.codeIn K cd17 "_law_next" = true) (k17 : PySem.W.keepIn K (.ref f17) = true)
    (a18 : PySem.W.nsIn K mainGlobals "_law_on" = some (some (.ref f18))) (l18 : K.lookup f18 = some ⟨oc18, od18, .func (PySem.W.fnOf "_law_on" "_law_on" (defArgs (topS 24)) (defBody (topS 24)) (defScope (topS 24)) .none kV18 dc18 pm18 an18 cd18 ct18), sl18⟩) (c18 : PySem.W.codeIn K cd18 "_law_on" = true) (k18 : PySem.W.keepIn K (.ref f18) = true)
    (a19 : PySem.W.nsIn K mainGlobals "_law_late" = some (some (.ref f19))) (l19 : K.lookup f19 = some ⟨oc19, od19, .func (PySem.W.fnOf "_law_late" "_law_late" (defArgs (topS 25)) (defBody (topS 25)) (defScope (topS 25)) .none kV19 dc19 pm19 an19 cd19 ct19), sl19⟩) (c19 : PySem.W.codeIn K cd19 "_law_late" = true) (k19 : PySem.W.keepIn K (.ref f19) = true)
    (a20 : PySem.W.nsIn K mainGlobals "_law_walked" = some (some (.ref f20))) (l20 : K.lookup f20 = some ⟨oc20, od20, .func (PySem.W.fnOf "_law_walked" "_law_walked" (defArgs (topS 26)) (defBody (topS 26)) (defScope (topS 26)) .none kV20 dc20 pm20 an20 cd20 ct20), sl20⟩) (c20 : PySem.W.codeIn K cd20 "_law_walked" = true) (k20 : PySem.W.keepIn K (.ref f20) = true)
    (a21 : PySem.W.nsIn K mainGlobals "_law_told" = some (some (.ref f21))) (l21 : K.lookup f21 = some ⟨oc21, od21, .func (PySem.W.fnOf "_law_told" "_law_told" (defArgs (topS 27)) (defBody (topS 27)) (defScope (topS 27)) .none kV21 dc21 pm21 an21 cd21 ct21), sl21⟩) (c21 : PySem.W.codeIn K cd21 "_law_told" = true) (k21 : PySem.W.keepIn K (.ref f21) = true)
    (a22 : PySem.W.nsIn K mainGlobals "law" = some (some (.ref f22))) (l22 : K.lookup f22 = some ⟨oc22, od22, .func (PySem.W.fnOf "law" "law" (defArgs (topS 28)) (defBody (topS 28)) (defScope (topS 28)) .none kV22 dc22 pm22 an22 cd22 ct22), sl22⟩) (c22 : PySem.W.codeIn K cd22 "law" = true) (k22 : PySem.W.keepIn K (.ref f22) = true)
    (z1 : PySem.W.nsIn K mainGlobals "abs" = some none)
    (z2 : PySem.W.nsIn K mainGlobals "bool" = some none)
    (z3 : PySem.W.nsIn K mainGlobals "int" = some none)
    (z4 : PySem.W.nsIn K mainGlobals "isinstance" = some none)
    (z5 : PySem.W.nsIn K mainGlobals "len" = some none)
    (z6 : PySem.W.nsIn K mainGlobals "list" = some none)
    (z7 : PySem.W.nsIn K mainGlobals "range" = some none)
    (z8 : PySem.W.nsIn K mainGlobals "tuple" = some none)
    (aL : PySem.W.nsIn K mainGlobals "Late" = some (some (.ref CLa)))
    (xL : K.lookup CLa = some (excClassObj nmL qL CLa NL bsL [.ref CR, .type "ValueError", .type "Exception", .type "BaseException", .type "object"] true snL subL abL colL ddL m0 m1 m2 m3 m5 "ValueError.__new__"))
    (saL : PySem.W.findIn K (.ref CLa) "__setattr__" = some (some (.builtin "object.__setattr__")))
    (gaL : PySem.W.findIn K (.ref CLa) "__getattribute__" = some (some (.builtin "BaseException.__getattribute__")))
    (ggL : PySem.W.findIn K (.ref CLa) "__getattr__" = some none)
    (nbL : PySem.W.findIn K (.ref CLa) "rope" = some none)
    (inL : PySem.W.findIn K (.ref CLa) "__init__" = some (some (.ref fI)))
    (tfL : PySem.W.typeIn K (.ref fI) = some (.type "function"))
    (lfL : K.lookup fI = some ⟨ocL, odL, .func (PySem.W.fnOf "__init__" "Late.__init__" (PySem.LateX.iA ⟨6, 17, 6, 21⟩ ⟨6, 23, 6, 27⟩) (PySem.LateX.iB ⟨7, 8, 7, 12⟩ ⟨7, 8, 7, 17⟩ ⟨7, 20, 7, 24⟩ ⟨7, 8, 7, 24⟩) PySem.LateX.iS .none .none dcL pmL anL cdL ctL), slL⟩)
    (cfL : PySem.W.codeIn K cdL "Late.__init__" = true)
    (kL : PySem.W.keepIn K (.ref CLa) = true)
    (eL : PySem.W.subIn K (.ref CLa) (.type "BaseException") = some true)
    (tL : PySem.W.typeIn K (.ref CLa) = some (.type "type"))
    (hL : PySem.W.hasDictIn K CLa = true)
    (sL : PySem.W.subIn K (.ref CLa) (.ref CLa) = some true)
    (aH : PySem.W.nsIn K mainGlobals "HOUR" = some (some (.ref hour)))
    (lH : K.lookup hour = some ⟨.type "tuple", hourD, .seq #[.int 1 hourT, .int 1 hourU] hourN, hourS⟩) :
    ∃ fd : FuncData, (∀ (s : Shared) (v : Value), BindsTo s fd ⟨[v], []⟩ [("script", v)]) ∧ ∀ base : Heap, K.In base → base.Ns mainGlobals mg → FnOk l.prog w K mg base CX0 5 fa fd ["script"] (spLaw K) := by
  have e := hfa.symm.trans (PySem.W.mg_of X G a22)
  cases e
  let T : Txt K mg := { CL := CLa, CN := 0, f_plain := f1, d_plain := _, a_plain := ⟨fun_mk (st := topS 4) l1 c1 k1, PySem.W.mg_of X G a1⟩, f_mean_and_half := f2, d_mean_and_half := _, a_mean_and_half := ⟨fun_mk (st := topS 5) l2 c2 k2, PySem.W.mg_of X G a2⟩, f_hour_behind := f3, d_hour_behind := _, a_hour_behind := ⟨fun_mk (st := topS 6) l3 c3 k3, PySem.W.mg_of X G a3⟩, f_earlier := f4, d_earlier := _, a_earlier := ⟨fun_mk (st := topS 7) l4 c4 k4, PySem.W.mg_of X G a4⟩, f_between := f5, d_between := _, a_between := ⟨fun_mk (st := topS 8) l5 c5 k5, PySem.W.mg_of X G a5⟩, f_moment_of := f6, d_moment_of := _, a_moment_of := ⟨fun_mk (st := topS 11) l6 c6 k6, PySem.W.mg_of X G a6⟩, f_outs := f7, d_outs := _, a_outs := ⟨fun_mk (st := topS 12) l7 c7 k7, PySem.W.mg_of X G a7⟩, f_l_cell_at := f8, d_l_cell_at := _, a_l_cell_at := ⟨fun_mk (st := topS 14) l8 c8 k8, PySem.W.mg_of X G a8⟩, f_l_low := f9, d_l_low := _, a_l_low := ⟨fun_mk (st := topS 15) l9 c9 k9, PySem.W.mg_of X G a9⟩, f_l_sum := f10, d_l_sum := _, a_l_sum := ⟨fun_mk (st := topS 16) l10 c10 k10, PySem.W.mg_of X G a10⟩, f_l_less := f11, d_l_less := _, a_l_less := ⟨fun_mk (st := topS 17) l11 c11 k11, PySem.W.mg_of X G a11⟩, f_l_gap := f12, d_l_gap := _, a_l_gap := ⟨fun_mk (st := topS 18) l12 c12 k12, PySem.W.mg_of X G a12⟩, f_l_fraction := f13, d_l_fraction := _, a_l_fraction := ⟨fun_mk (st := topS 19) l13 c13 k13, PySem.W.mg_of X G a13⟩, f_l_fractions := f14, d_l_fractions := _, a_l_fractions := ⟨fun_mk (st := topS 20) l14 c14 k14, PySem.W.mg_of X G a14⟩, f_l_plan := f15, d_l_plan := _, a_l_plan := ⟨fun_mk (st := topS 21) l15 c15 k15, PySem.W.mg_of X G a15⟩, f_l_lit_now := f16, d_l_lit_now := _, a_l_lit_now := ⟨fun_mk (st := topS 22) l16 c16 k16, PySem.W.mg_of X G a16⟩, f_l_next := f17, d_l_next := _, a_l_next := ⟨fun_mk (st := topS 23) l17 c17 k17, PySem.W.mg_of X G a17⟩, f_l_on := f18, d_l_on := _, a_l_on := ⟨fun_mk (st := topS 24) l18 c18 k18, PySem.W.mg_of X G a18⟩, f_l_late := f19, d_l_late := _, a_l_late := ⟨fun_mk (st := topS 25) l19 c19 k19, PySem.W.mg_of X G a19⟩, f_l_walked := f20, d_l_walked := _, a_l_walked := ⟨fun_mk (st := topS 26) l20 c20 k20, PySem.W.mg_of X G a20⟩, f_l_told := f21, d_l_told := _, a_l_told := ⟨fun_mk (st := topS 27) l21 c21 k21, PySem.W.mg_of X G a21⟩, f_law := fa, d_law := _, a_law := ⟨fun_mk (st := topS 28) l22 c22 k22, PySem.W.mg_of X G a22⟩, z_abs := PySem.W.mg_none_of X G z1, z_bool := PySem.W.mg_none_of X G z2, z_int := PySem.W.mg_none_of X G z3, z_isinstance := PySem.W.mg_none_of X G z4, z_len := PySem.W.mg_none_of X G z5, z_list := PySem.W.mg_none_of X G z6, z_range := PySem.W.mg_none_of X G z7, z_tuple := PySem.W.mg_none_of X G z8, fI := fI, late := { gC := PySem.W.mg_of X G aL, cls := ⟨nmL, qL, NL, bsL, _, snL, subL, abL, colL, ddL, m0, m1, m2, m3, m5, xL, by first | rfl | decide +kernel⟩, sa := saL, ga := gaL, gg := ggL, noN := nbL, iC := inL, tC := tfL, kC := kL, exC := eL, tyC := tL, hdC := hL, te := PySem.W.exm_ref eL hL tL sL, fn := ⟨_, _, _, _, _, _, _, _, _, _, _, _, _, _, lfL, cfL⟩ }, hour := hour, hour_o := _, hour_n := hourN, hour_t := hourT, hour_u := hourU, hour_g := PySem.W.mg_of X G aH, hour_k := lH, hour_c := rfl, hour_d := rfl }
  refine ⟨_, fun s v => .of_eq rfl, fun base _ _ => (ok_law T).imp fun vs H Q E q => ?_⟩
  obtain ⟨a, ns, rfl, hS, hl, q⟩ := q
  exact law_sp hS (law_true ns hl) q
end L2.RC
open PySem PySem.W PyProof.Rows
set_option maxHeartbeats 0 in
theorem PySem.Challenge.cw_ropeclock_k05_whole_walked_by_lightings_holds : PySem.Challenge.rw_ropeclock_k05_whole_walked_by_lightings.Holds := by
  w_on; o_law; k_head; (case hw => w_witness2)
  k_fill
  refine L2.walk_of (l := PySem.Challenge.rw_ropeclock_k05_whole_walked_by_lightings) (n := 63) (k := 5) (x := "script") (CX := fun _ => L2.CX0) (sp := fun w => L2.RC.spLaw _) rfl (by decide) rfl ⟨rfl, by decide, by decide⟩ (fun w h Y => PySem.W.kIn_of Y) ?F (fun _ _ a ns hl _ hS => ⟨a, ns, rfl, hS, hl, fun _ => rfl⟩) (fun _ _ _ _ _ h => h)
  case F =>
    intro w mg fa h KX G hmg
    refine' L2.RC.all_mk KX G hmg ?a1 ?l1 ?c1 ?k1 ?a2 ?l2 ?c2 ?k2 ?a3 ?l3 ?c3 ?k3 ?a4 ?l4 ?c4 ?k4 ?a5 ?l5 ?c5 ?k5 ?a6 ?l6 ?c6 ?k6 ?a7 ?l7 ?c7 ?k7 ?a8 ?l8 ?c8 ?k8 ?a9 ?l9 ?c9 ?k9 ?a10 ?l10 ?c10 ?k10 ?a11 ?l11 ?c11 ?k11 ?a12 ?l12 ?c12 ?k12 ?a13 ?l13 ?c13 ?k13 ?a14 ?l14 ?c14 ?k14 ?a15 ?l15 ?c15 ?k15 ?a16 ?l16 ?c16 ?k16 ?a17 ?l17 ?c17 ?k17 ?a18 ?l18 ?c18 ?k18 ?a19 ?l19 ?c19 ?k19 ?a20 ?l20 ?c20 ?k20 ?a21 ?l21 ?c21 ?k21 ?a22 ?l22 ?c22 ?k22 ?z1 ?z2 ?z3 ?z4 ?z5 ?z6 ?z7 ?z8 ?aL ?xL ?saL ?gaL ?ggL ?nbL ?inL ?tfL ?lfL ?cfL ?kL ?eL ?tL ?hL ?sL ?aH ?lH
    (case a1 => k_is); (case l1 => k_is); (case c1 => k_is); (case k1 => k_is); (case a2 => k_is); (case l2 => k_is); (case c2 => k_is); (case k2 => k_is)
    (case a3 => k_is); (case l3 => k_is); (case c3 => k_is); (case k3 => k_is); (case a4 => k_is); (case l4 => k_is); (case c4 => k_is); (case k4 => k_is)
    (case a5 => k_is); (case l5 => k_is); (case c5 => k_is); (case k5 => k_is); (case a6 => k_is); (case l6 => k_is); (case c6 => k_is); (case k6 => k_is)
    (case a7 => k_is); (case l7 => k_is); (case c7 => k_is); (case k7 => k_is); (case a8 => k_is); (case l8 => k_is); (case c8 => k_is); (case k8 => k_is)
    (case a9 => k_is); (case l9 => k_is); (case c9 => k_is); (case k9 => k_is); (case a10 => k_is); (case l10 => k_is); (case c10 => k_is); (case k10 => k_is)
    (case a11 => k_is); (case l11 => k_is); (case c11 => k_is); (case k11 => k_is); (case a12 => k_is); (case l12 => k_is); (case c12 => k_is); (case k12 => k_is)
    (case a13 => k_is); (case l13 => k_is); (case c13 => k_is); (case k13 => k_is); (case a14 => k_is); (case l14 => k_is); (case c14 => k_is); (case k14 => k_is)
    (case a15 => k_is); (case l15 => k_is); (case c15 => k_is); (case k15 => k_is); (case a16 => k_is); (case l16 => k_is); (case c16 => k_is); (case k16 => k_is)
    (case a17 => k_is); (case l17 => k_is); (case c17 => k_is); (case k17 => k_is); (case a18 => k_is); (case l18 => k_is); (case c18 => k_is); (case k18 => k_is)
    (case a19 => k_is); (case l19 => k_is); (case c19 => k_is); (case k19 => k_is); (case a20 => k_is); (case l20 => k_is); (case c20 => k_is); (case k20 => k_is)
    (case a21 => k_is); (case l21 => k_is); (case c21 => k_is); (case k21 => k_is); (case a22 => k_is); (case l22 => k_is); (case c22 => k_is); (case k22 => k_is)
    (case z1 => k_is); (case z2 => k_is); (case z3 => k_is); (case z4 => k_is); (case z5 => k_is); (case z6 => k_is); (case z7 => k_is); (case z8 => k_is)
    (case aL => k_is); (case xL => k_is); (case saL => k_is); (case gaL => k_is); (case ggL => k_is); (case nbL => k_is); (case inL => k_is); (case tfL => k_is)
    (case lfL => k_is); (case cfL => k_is); (case kL => k_is); (case eL => k_is); (case tL => k_is); (case hL => k_is); (case sL => k_is); (case aH => k_is)
    (case lH => k_is)

