import PyProof.Rows.All
import Wide.All
import OpenK.AllK
import Wide.FinOn
import PyProof.EqAt
import PyProof.EqKinds
import PyProof.TupleCall
import HandS.ForMost
import HandS.ForExc
import HandS.IsInst
import HandS.More
import HandS.Deep
import HandS.Flow
import HandS.Strs
import HandS.ExcOwn
import HandS.TryOnly
import HandS.ExcIs
import KE.KExcIs
import PySem.Challenge.RW_ropeclock_k10_texts_read
set_option Elab.async false
set_option linter.all false
set_option maxRecDepth 100000
set_option maxHeartbeats 4000000
namespace L2.RC
open PySem PySem.Spec PyProof.Rows

/-! ### data in the tracked heap -/
mutual
inductive Rp (K : PySem.W.Frag) (F : Hp) : V → PyData → Prop
  | non : Rp K F .non .none
  | bl (b : Bool) : Rp K F (.bl b) (.bool b)
  | int (i : Int) : Rp K F (.int i) (.int i)
  | str (x : Str) : Rp K F (.str x) (.str x)
  | lst {a : Addr} {xs : List V} {ds : List PyData} : F a = some (.lst xs) → RpAll K F xs ds → Rp K F (.ref a) (.list ds)
  | tup {a : Addr} {xs : List V} {ds : List PyData} : SqT K F a xs → RpAll K F xs ds → Rp K F (.ref a) (.tuple ds)
inductive RpAll (K : PySem.W.Frag) (F : Hp) : List V → List PyData → Prop
  | nil : RpAll K F [] []
  | cons {v : V} {vs : List V} {d : PyData} {ds : List PyData} : Rp K F v d → RpAll K F vs ds → RpAll K F (v :: vs) (d :: ds)
end
theorem seqT_same {K : PySem.W.Frag} {H H' : Hp} {a : Addr} {xs : List V} (e : Same H H') (h : SqT K H a xs) : SqT K H' a xs := by
  rcases h with (h | ⟨o, h⟩) | h
  · exact .inl (.inl (e _ _ h))
  · exact .inl (.inr ⟨o, e _ _ h⟩)
  · exact .inr h
section
variable {K : PySem.W.Frag} {F F' H H' : Hp}
mutual
theorem Rp.mono (s : Same F F') : ∀ (d : PyData) (v : V), Rp K F v d → Rp K F' v d
  | .none, _, h => by cases h; exact .non
  | .bool b, _, h => by cases h; exact .bl b
  | .int i, _, h => by cases h; exact .int i
  | .str x, _, h => by cases h; exact .str x
  | .list ds, _, h => by
    cases h with
    | lst h1 h2 => exact .lst (s _ _ h1) (RpAll.mono s ds _ h2)
  | .tuple ds, _, h => by
    cases h with
    | tup h1 h2 => exact .tup (seqT_same s h1) (RpAll.mono s ds _ h2)
  | .dict _, _, h => by cases h
theorem RpAll.mono (s : Same F F') : ∀ (ds : List PyData) (vs : List V), RpAll K F vs ds → RpAll K F' vs ds
  | [], _, h => by cases h; exact .nil
  | d :: ds, _, h => by
    cases h with
    | cons h1 h2 => exact .cons (Rp.mono s d _ h1) (RpAll.mono s ds _ h2)
end
mutual
theorem Rp.dp (s : Same F H) : ∀ (d : PyData) (v : V), Rp K F v d → Dp K H v d
  | .none, _, h => by cases h; exact .non
  | .bool b, _, h => by cases h; exact .bl b
  | .int i, _, h => by cases h; exact .int i
  | .str x, _, h => by cases h; exact .str x
  | .list ds, _, h => by
    cases h with
    | lst h1 h2 => exact .lst (SqL.of (s _ _ h1)) (RpAll.dp s ds _ h2)
  | .tuple ds, _, h => by
    cases h with
    | tup h1 h2 => exact .tup (seqT_same s h1) (RpAll.dp s ds _ h2)
  | .dict _, _, h => by cases h
theorem RpAll.dp (s : Same F H) : ∀ (ds : List PyData) (vs : List V), RpAll K F vs ds → DpAll K H vs ds
  | [], _, h => by cases h; exact .nil
  | d :: ds, _, h => by
    cases h with
    | cons h1 h2 => exact .cons (Rp.dp s d _ h1) (RpAll.dp s ds _ h2)
end
theorem RpAll.length : ∀ {vs : List V} {ds : List PyData}, RpAll K F vs ds → vs.length = ds.length
  | _, _, .nil => rfl
  | _, _, .cons _ t => congrArg (· + 1) (RpAll.length t)
theorem RpAll.get : ∀ {vs : List V} {ds : List PyData} {i : Nat} {d : PyData}, RpAll K F vs ds → ds[i]? = some d → ∃ v, vs[i]? = some v ∧ Rp K F v d
  | _, _, _, _, .nil, e => by simp at e
  | _, _, 0, _, .cons r _, e => by simp at e; subst e; exact ⟨_, rfl, r⟩
  | _, _, i + 1, d, .cons _ t, e => by
    obtain ⟨v, h1, h2⟩ := RpAll.get (i := i) (d := d) t (by simpa using e)
    exact ⟨v, by simpa using h1, h2⟩
theorem RpAll.getV : ∀ {vs : List V} {ds : List PyData} {i : Nat} {v : V}, RpAll K F vs ds → vs[i]? = some v → ∃ d, ds[i]? = some d ∧ Rp K F v d
  | _, _, _, _, .nil, e => by simp at e
  | _, _, 0, _, .cons r _, e => by simp at e; subst e; exact ⟨_, rfl, r⟩
  | _, _, i + 1, v, .cons _ t, e => by
    obtain ⟨d, h1, h2⟩ := RpAll.getV (i := i) (v := v) t (by simpa using e)
    exact ⟨d, by simpa using h1, h2⟩
theorem RpAll.append : ∀ {vs ws : List V} {ds es : List PyData}, RpAll K F vs ds → RpAll K F ws es → RpAll K F (vs ++ ws) (ds ++ es)
  | _, _, _, _, .nil, h => h
  | _, _, _, _, .cons r t, h => .cons r (RpAll.append t h)
theorem RpAll.take : ∀ {vs : List V} {ds : List PyData} (n : Nat), RpAll K F vs ds → RpAll K F (vs.take n) (ds.take n)
  | _, _, 0, _ => .nil
  | _, _, _ + 1, .nil => .nil
  | _, _, n + 1, .cons r t => .cons r (RpAll.take n t)
theorem RpAll.drop : ∀ {vs : List V} {ds : List PyData} (n : Nat), RpAll K F vs ds → RpAll K F (vs.drop n) (ds.drop n)
  | _, _, 0, h => h
  | _, _, _ + 1, .nil => .nil
  | _, _, n + 1, .cons _ t => RpAll.drop n t
theorem RpAll.set : ∀ {vs : List V} {ds : List PyData} {v : V} {d : PyData} (n : Nat), RpAll K F vs ds → Rp K F v d → RpAll K F (vs.set n v) (ds.set n d)
  | _, _, _, _, _, .nil, _ => .nil
  | _, _, _, _, 0, .cons _ t, r => .cons r t
  | _, _, _, _, n + 1, .cons q t, r => .cons q (RpAll.set n t r)
theorem RpAll.ints : ∀ {vs : List V} {ns : List Int}, RpAll K F vs (ns.map PyData.int) → vs = ns.map V.int
  | _, [], h => by cases h; rfl
  | _, n :: ns, h => by
    cases h with
    | cons h1 h2 => cases h1; exact congrArg _ (RpAll.ints h2)
theorem rpAll_ints : ∀ (ns : List Int), RpAll K F (ns.map V.int) (ns.map PyData.int)
  | [] => .nil
  | n :: ns => .cons (.int n) (rpAll_ints ns)
theorem RpAll.strs : ∀ {vs : List V} {ns : List Str}, RpAll K F vs (ns.map PyData.str) → vs = ns.map V.str
  | _, [], h => by cases h; rfl
  | _, n :: ns, h => by
    cases h with
    | cons h1 h2 => cases h1; exact congrArg _ (RpAll.strs h2)
theorem rpAll_strs : ∀ (ns : List Str), RpAll K F (ns.map V.str) (ns.map PyData.str)
  | [] => .nil
  | n :: ns => .cons (.str n) (rpAll_strs ns)
theorem RpAll.bls : ∀ {vs : List V} {ns : List Bool}, RpAll K F vs (ns.map PyData.bool) → vs = ns.map V.bl
  | _, [], h => by cases h; rfl
  | _, n :: ns, h => by
    cases h with
    | cons h1 h2 => cases h1; exact congrArg _ (RpAll.bls h2)
end

/-! ### growth -/
structure Grow (F H F' H' : Hp) : Prop where
  hh : Same H H'
  ff : Same F F'
  fh : Same F' H'
  ag : ∀ a o, H a = some o → F' a = F a
theorem Grow.refl {F H : Hp} (s : Same F H) : Grow F H F H := ⟨.refl _, .refl _, s, fun _ _ _ => rfl⟩
theorem Grow.trans {F H F1 H1 F2 H2 : Hp} (a : Grow F H F1 H1) (b : Grow F1 H1 F2 H2) : Grow F H F2 H2 :=
  ⟨a.hh.trans b.hh, a.ff.trans b.ff, b.fh, fun c o h => (b.ag c o (a.hh c o h)).trans (a.ag c o h)⟩
theorem same_upd {H : Hp} {p : Addr} {o : HO} (h : H p = none) : Same H (upd H p o) := fun b x e => by
  rw [upd_ne (ne_of_none e h)]
  exact e
theorem none_of {F H : Hp} {p : Addr} (s : Same F H) (h : H p = none) : F p = none := s.free h
/-- a new frozen object -/
theorem Grow.froz {F H : Hp} {p : Addr} {o : HO} (s : Same F H) (h : H p = none) : Grow F H (upd F p o) (upd H p o) :=
  ⟨same_upd h, same_upd (none_of s h), fun b x e => by
    by_cases hb : b = p
    · subst hb; rw [upd_same] at e ⊢; exact e
    · rw [upd_ne hb] at e ⊢; exact s _ _ e, fun a x e => by rw [upd_ne (ne_of_none e h)]⟩
/-- a new object that is not frozen -/
theorem Grow.own {F H : Hp} {p : Addr} {o : HO} (s : Same F H) (h : H p = none) : Grow F H F (upd H p o) :=
  ⟨same_upd h, .refl _, s.trans (same_upd h), fun _ _ _ => rfl⟩

/-! ### the slots of a def as data -/
inductive Sl where
  | un
  | fz (d : PyData)
  | ow (ds : List PyData)
  | br (ds : List PyData)
abbrev DEnv := List Sl
def SlOk (K : PySem.W.Frag) (F H0 H : Hp) (o : Option (Option V)) : Sl → Prop
  | .un => True
  | .fz d => ∃ v, o = some (some v) ∧ Rp K F v d
  | .ow ds => ∃ a vs, o = some (some (.ref a)) ∧ H a = some (.lst vs) ∧ F a = none ∧ H0 a = none ∧ RpAll K F vs ds
  | .br ds => ∃ a vs, o = some (some (.ref a)) ∧ SqL K H0 a vs ∧ RpAll K F vs ds
structure StF (K : PySem.W.Frag) (F0 H0 F : Hp) (ρ : DEnv) (σ : St) (H : Hp) : Prop where
  gr : Grow F0 H0 F H
  sl : ∀ (i : Nat) (s : Sl), ρ[i]? = some s → SlOk K F H0 H σ[i]? s
  sep : ∀ (i j : Nat) (a : Addr) ds es, ρ[i]? = some (.ow ds) → ρ[j]? = some (.ow es) → σ[i]? = some (some (.ref a)) → σ[j]? = some (some (.ref a)) → i = j
  len : ρ.length = σ.length
/-- a value, whose own list (if it is one) need not be frozen -/
def Rw (K : PySem.W.Frag) (F H : Hp) (v : V) (d : PyData) : Prop :=
  Rp K F v d ∨ ∃ a vs ds, v = .ref a ∧ d = .list ds ∧ SqL K H a vs ∧ RpAll K F vs ds
section
variable {K : PySem.W.Frag} {F F' H H' F0 H0 F1 H1 : Hp} {ρ : DEnv} {σ : St} {v : V} {d : PyData}
theorem SlOk.grow {o : Option (Option V)} {s : Sl} (h : SlOk K F H0 H o s) (g : Grow F H F' H') : SlOk K F' H0 H' o s := by
  cases s with
  | un => trivial
  | fz d => obtain ⟨v, e, r⟩ := h; exact ⟨v, e, Rp.mono g.ff _ _ r⟩
  | ow ds => obtain ⟨a, vs, e, r, f, z, q⟩ := h; exact ⟨a, vs, e, g.hh _ _ r, (g.ag _ _ r).trans f, z, RpAll.mono g.ff _ _ q⟩
  | br ds => obtain ⟨a, vs, e, r, q⟩ := h; exact ⟨a, vs, e, r, RpAll.mono g.ff _ _ q⟩
theorem StF.grow (s : StF K F0 H0 F ρ σ H) (g : Grow F H F' H') : StF K F0 H0 F' ρ σ H' :=
  ⟨s.gr.trans g, fun i x e => (s.sl i x e).grow g, s.sep, s.len⟩
theorem Rw.grow (h : Rw K F H v d) (g : Grow F H F' H') : Rw K F' H' v d := by
  rcases h with h | ⟨a, vs, ds, e1, e2, h1, h2⟩
  · exact .inl (Rp.mono g.ff _ _ h)
  · exact .inr ⟨a, vs, ds, e1, e2, g.hh.seq h1, RpAll.mono g.ff _ _ h2⟩
theorem Rw.int {i : Int} (h : Rw K F H v (.int i)) : v = .int i := by
  rcases h with h | ⟨_, _, _, _, e, _⟩
  · cases h; rfl
  · cases e
theorem Rw.bool {i : Bool} (h : Rw K F H v (.bool i)) : v = .bl i := by
  rcases h with h | ⟨_, _, _, _, e, _⟩
  · cases h; rfl
  · cases e
theorem Rw.str {i : Str} (h : Rw K F H v (.str i)) : v = .str i := by
  rcases h with h | ⟨_, _, _, _, e, _⟩
  · cases h; rfl
  · cases e
theorem Rw.list {ds : List PyData} (s : Same F H) (h : Rw K F H v (.list ds)) : ∃ a vs, v = .ref a ∧ SqL K H a vs ∧ RpAll K F vs ds := by
  rcases h with h | ⟨a, vs, ds', e1, e2, h1, h2⟩
  · cases h with
    | lst h1 h2 => exact ⟨_, _, rfl, SqL.of (s _ _ h1), h2⟩
  · cases e2; exact ⟨a, vs, e1, h1, h2⟩
theorem Rw.tuple {ds : List PyData} (s : Same F H) (h : Rw K F H v (.tuple ds)) : ∃ a vs, v = .ref a ∧ SqT K H a vs ∧ RpAll K F vs ds := by
  rcases h with h | ⟨a, vs, ds', e1, e2, h1, h2⟩
  · cases h with
    | tup h1 h2 => exact ⟨_, _, rfl, seqT_same s h1, h2⟩
  · cases e2
theorem Rw.dp (s : Same F H) (h : Rw K F H v d) : Dp K H v d := by
  rcases h with h | ⟨a, vs, ds', e1, e2, h1, h2⟩
  · exact Rp.dp s _ _ h
  · subst e1; subst e2; exact .lst h1 (RpAll.dp s _ _ h2)
theorem Rw.isNone (h : Rw K F H v d) : decide (v = .non) = (match d with | .none => true | _ => false) := by
  rcases h with h | ⟨a, vs, ds', e1, e2, h1, h2⟩
  · cases h <;> simp
  · subst e1; subst e2; simp
end

/-! ### outcomes -/
inductive Ex where
  | late (k : Int)
  | noplan
inductive Out where
  | nx (ρ : DEnv)
  | bk (ρ : DEnv)
  | ct (ρ : DEnv)
  | rt (d : PyData)
  | rs (x : Ex)
  | no
/-- what an exception must come to -/
abbrev EXX := Ex → Hp → Prop
def OutOk (K : PySem.W.Frag) (F0 H0 : Hp) (D : Ends) (EX : EXX) : Out → Prop
  | .nx ρ => ∀ F σ H, StF K F0 H0 F ρ σ H → D.nx σ H
  | .bk ρ => ∀ F σ H, StF K F0 H0 F ρ σ H → D.bk σ H
  | .ct ρ => ∀ F σ H, StF K F0 H0 F ρ σ H → D.ct σ H
  | .rt d => ∀ v F H, Grow F0 H0 F H → Rp K F v d → D.rt v H
  | .rs x => EX x H0
  | .no => False

/-! ### judgements -/
abbrev EFn := DEnv → Option PyData
abbrev OFn := DEnv → Option (List PyData)
abbrev TFn := DEnv → Option Bool
abbrev SFn := DEnv → Out
def EsOk (K : PySem.W.Frag) (te : TE) (f : EFn) : Prop := ∀ F0 H0 F ρ σ H Q d, StF K F0 H0 F ρ σ H → f ρ = some d → (∀ v F' H', Grow F H F' H' → Rp K F' v d → Q v H') → te σ H Q
def EwOk (K : PySem.W.Frag) (te : TE) (f : EFn) : Prop := ∀ F0 H0 F ρ σ H Q d, StF K F0 H0 F ρ σ H → f ρ = some d → (∀ v F' H', Grow F H F' H' → Rw K F' H' v d → Q v H') → te σ H Q
def EoOk (K : PySem.W.Frag) (te : TE) (f : OFn) : Prop := ∀ F0 H0 F ρ σ H Q ds, StF K F0 H0 F ρ σ H → f ρ = some ds →
  (∀ p vs F' H', Grow F H F' H' → H p = none → F' p = none → H' p = some (.lst vs) → RpAll K F' vs ds → Q (.ref p) H') → te σ H Q
def ETOk (K : PySem.W.Frag) (tt : TT) (f : TFn) : Prop := ∀ F0 H0 F ρ σ H Q b, StF K F0 H0 F ρ σ H → f ρ = some b → (∀ F' H', Grow F H F' H' → Q b H') → tt σ H Q
def SsOk (K : PySem.W.Frag) (EX : EXX) (ts : TS) (f : SFn) : Prop := ∀ F0 H0 F ρ σ H D, StF K F0 H0 F ρ σ H → OutOk K F0 H0 D EX (f ρ) → ts D σ H
structure DEs (X : Cx) (e : Expr) (f : EFn) : Prop where
  ex : ∃ te, PE X e te ∧ EsOk X.K te f
structure DEw (X : Cx) (e : Expr) (f : EFn) : Prop where
  ex : ∃ te, PE X e te ∧ EwOk X.K te f
structure DEo (X : Cx) (e : Expr) (f : OFn) : Prop where
  ex : ∃ te, PE X e te ∧ EoOk X.K te f
structure DT (X : Cx) (e : Expr) (f : TFn) : Prop where
  ex : ∃ tt, PT X e tt ∧ ETOk X.K tt f
structure DW (X : Cx) (e : Expr) (f : TFn) : Prop where
  ex : ∃ tt, PW X e tt ∧ ETOk X.K tt f
structure DS (X : Cx) (EX : EXX) (st : Stmt) (f : SFn) : Prop where
  ex : ∃ ts, PS X st ts ∧ SsOk X.K EX ts f
structure DSs (X : Cx) (EX : EXX) (st : List Stmt) (f : SFn) : Prop where
  ex : ∃ ts, PSs X st ts ∧ SsOk X.K EX ts f

section
variable {X : Cx} {EX : EXX} {e a b : Expr} {pos : Pos} {f fa fb : EFn}
theorem DEs.w (h : DEs X e f) : DEw X e f := by
  obtain ⟨te, p, h⟩ := h.ex
  exact ⟨te, p, fun F0 H0 F ρ σ H Q d S e q => h F0 H0 F ρ σ H Q d S e fun v F' H' g r => q v F' H' g (.inl r)⟩
def lstD (f : OFn) : EFn := fun ρ => (f ρ).map PyData.list
theorem DEo.s {fo : OFn} (h : DEo X e fo) : DEs X e (lstD fo) := by
  obtain ⟨te, p, h⟩ := h.ex
  refine ⟨te, p, fun F0 H0 F ρ σ H Q d S e q => ?_⟩
  obtain ⟨ds, e1, e2⟩ := Option.map_eq_some_iff.mp e
  subst e2
  refine h F0 H0 F ρ σ H Q ds S e1 fun p vs F' H' g n1 n2 hp r => ?_
  refine q _ (upd F' p (.lst vs)) H' ⟨g.hh, g.ff.trans (same_upd n2), fun b x e => ?_, fun b x e => ?_⟩ (.lst upd_same (RpAll.mono (same_upd n2) _ _ r))
  · by_cases hb : b = p
    · subst hb; rw [upd_same] at e; rw [hp]; exact e
    · rw [upd_ne hb] at e; exact g.fh _ _ e
  · rw [upd_ne (ne_of_none e n1)]; exact g.ag b x e

/-! ### names and constants -/
def eVar (i : Nat) : EFn := fun ρ => match ρ[i]? with | some (.fz d) => some d | _ => none
/-- a list's name, read -/
def eSeq (i : Nat) : EFn := fun ρ => match ρ[i]? with | some (.fz d) => some d | some (.ow ds) => some (.list ds) | some (.br ds) => some (.list ds) | _ => none
theorem de_var (i : Nat) {x : Str} (hN : X.N[i]? = some x := by rfl) (hv : Vis X.env.scope x := by first | exact Or.inl rfl | exact Or.inr (Or.inl rfl) | exact Or.inr (Or.inr rfl)) (hd : (x == ("__debug__" : Str)) = false := by decide)
    (hcd : (x == ("__classdict__" : Str)) = false := by decide) : DEs X (.Name x pos) (eVar i) := by
  refine ⟨_, pe_var hN hv hd hcd, fun F0 H0 F ρ σ H Q d S e q => ?_⟩
  unfold eVar at e
  cases hs : ρ[i]? with
  | none => rw [hs] at e; cases e
  | some s =>
    rw [hs] at e
    cases s with
    | fz d' =>
      cases e
      obtain ⟨v, e1, r⟩ := S.sl i _ hs
      exact ⟨v, e1, q v F H (.refl S.gr.fh) r⟩
    | un => cases e
    | ow ds => cases e
    | br ds => cases e
theorem de_seq (i : Nat) {x : Str} (hN : X.N[i]? = some x := by rfl) (hv : Vis X.env.scope x := by first | exact Or.inl rfl | exact Or.inr (Or.inl rfl) | exact Or.inr (Or.inr rfl)) (hd : (x == ("__debug__" : Str)) = false := by decide)
    (hcd : (x == ("__classdict__" : Str)) = false := by decide) : DEw X (.Name x pos) (eSeq i) := by
  refine ⟨_, pe_var hN hv hd hcd, fun F0 H0 F ρ σ H Q d S e q => ?_⟩
  unfold eSeq at e
  cases hs : ρ[i]? with
  | none => rw [hs] at e; cases e
  | some s =>
    rw [hs] at e
    cases s with
    | fz d' =>
      cases e
      obtain ⟨v, e1, r⟩ := S.sl i _ hs
      exact ⟨v, e1, q v F H (.refl S.gr.fh) (.inl r)⟩
    | un => cases e
    | ow ds =>
      cases e
      obtain ⟨a, vs, e1, h1, _, _, r⟩ := S.sl i _ hs
      exact ⟨_, e1, q _ F H (.refl S.gr.fh) (.inr ⟨a, vs, ds, rfl, rfl, SqL.of h1, r⟩)⟩
    | br ds =>
      cases e
      obtain ⟨a, vs, e1, h1, r⟩ := S.sl i _ hs
      exact ⟨_, e1, q _ F H (.refl S.gr.fh) (.inr ⟨a, vs, ds, rfl, rfl, S.gr.hh.seq h1, r⟩)⟩
def eC (d : PyData) : EFn := fun _ => some d
theorem des_c {te : TE} {v : V} {d : PyData} (h : PE X e (tC v)) (r : ∀ F, Rp X.K F v d) : DEs X e (eC d) :=
  ⟨_, h, fun F0 H0 F ρ σ H Q d' S e q => by cases e; exact q v F H (.refl S.gr.fh) (r F)⟩
theorem de_int {i j} : DEs X (.Constant (.int i) j pos) (eC (.int i)) := des_c (te := tC (.int i)) pe_int fun _ => .int i
theorem de_bl {i j} : DEs X (.Constant (.bool i) j pos) (eC (.bool i)) := des_c (te := tC (.bl i)) pe_bl fun _ => .bl i
theorem de_non {j} : DEs X (.Constant .none j pos) (eC .none) := des_c (te := tC .non) pe_non fun _ => .non
theorem de_str {i j} : DEs X (.Constant (.str i) j pos) (eC (.str i)) := des_c (te := tC (.str i)) pe_str fun _ => .str i
/-- a module's constant: a text -/
theorem de_gstr {x : Str} {z : Str} {t : Tok} (hm : X.mg x = some (.str z t)) (hg : Gl X x := by rfl) (hd : (x == ("__debug__" : Str)) = false := by decide) : DEs X (.Name x pos) (eC (.str z)) := des_c (te := tC (.str z)) (pe_glob (v := .str z) hg hm ⟨_, rfl⟩ hd) fun _ => .str z
/-- a module's constant: a pair of ints -/
theorem de_gpair {x : Str} {c : Addr} {i j : Int} {o : Obj} {n : Nat} {t u : Tok} (hm : X.mg x = some (.ref c)) (hk : X.K.lookup c = some o) (hc : o.cls = .type "tuple") (ho : o.data = .seq #[.int i t, .int j u] n) (hg : Gl X x := by rfl) (hd : (x == ("__debug__" : Str)) = false := by decide) :
    DEs X (.Name x pos) (eC (.tuple [.int i, .int j])) :=
  des_c (te := tC (.ref c)) (pe_glob (v := .ref c) hg hm rfl hd) fun _ => .tup (xs := [.int i, .int j]) (.inr ⟨o, _, n, hk, hc, ho, by show 2 ≤ sizeLine; decide, .cons ⟨_, rfl⟩ (.cons ⟨_, rfl⟩ .nil)⟩) (.cons (.int i) (.cons (.int j) .nil))

/-! ### operators -/
def eBin (g : PyData → PyData → Option PyData) (fa fb : EFn) : EFn := fun ρ => (fa ρ).bind fun x => (fb ρ).bind fun y => g x y
theorem bind2 {g : PyData → PyData → Option PyData} {ρ : DEnv} {d : PyData} (e : eBin g fa fb ρ = some d) : ∃ x y, fa ρ = some x ∧ fb ρ = some y ∧ g x y = some d := by
  unfold eBin at e
  obtain ⟨x, e1, e⟩ := Option.bind_eq_some_iff.mp e
  obtain ⟨y, e2, e⟩ := Option.bind_eq_some_iff.mp e
  exact ⟨x, y, e1, e2, e⟩
def VOk2 (K : PySem.W.Frag) (r : R2) (g : PyData → PyData → Option PyData) : Prop :=
  ∀ F H x y d e z Q, Same F H → Rw K F H x d → Rw K F H y e → g d e = some z → (∀ v F' H', Grow F H F' H' → Rp K F' v z → Q v H') → r x y H Q
theorem es_bin {r : R2} {ta tb : TE} {g : PyData → PyData → Option PyData} (hg : VOk2 X.K r g) (ha : EwOk X.K ta fa) (hb : EwOk X.K tb fb) : EsOk X.K (tOp r ta tb) (eBin g fa fb) := by
  intro F0 H0 F ρ σ H Q d S e q
  obtain ⟨x, y, e1, e2, e3⟩ := bind2 e
  refine ha F0 H0 F ρ σ H _ x S e1 fun v F1 H1 g1 r1 => ?_
  refine hb F0 H0 F1 ρ σ H1 _ y (S.grow g1) e2 fun w F2 H2 g2 r2 => ?_
  exact hg F2 H2 v w x y d Q g2.fh (r1.grow g2) r2 e3 fun u F3 H3 g3 r3 => q u F3 H3 ((g1.trans g2).trans g3) r3
theorem de_bin {op : Operator} {r : R2} {g : PyData → PyData → Option PyData} (ho : OpR X (binaryOp op) r) (hg : VOk2 X.K r g) (ha : DEw X a fa) (hb : DEw X b fb) : DEs X (.BinOp a op b pos) (eBin g fa fb) := by
  obtain ⟨ta, pa, ha⟩ := ha.ex
  obtain ⟨tb, pb, hb⟩ := hb.ex
  exact ⟨_, pe_op ho pa pb, es_bin hg ha hb⟩
def mulOk (i j : Int) : Bool := decide (i.natAbs < 2 ^ 64) || decide (j.natAbs < 2 ^ 64)
def dAdd : PyData → PyData → Option PyData
  | .int i, .int j => some (.int (i + j))
  | .str i, .str j => if i.length + j.length ≤ sizeLine then some (.str (i ++ j)) else none
  | _, _ => none
def dSub : PyData → PyData → Option PyData
  | .int i, .int j => some (.int (i - j))
  | _, _ => none
def dMul : PyData → PyData → Option PyData
  | .int i, .int j => if mulOk i j = true then some (.int (i * j)) else none
  | _, _ => none
def dDiv : PyData → PyData → Option PyData
  | .int i, .int j => if 0 < j ∧ j < 1073741824 then some (.int (i / j)) else none
  | _, _ => none
def dMod : PyData → PyData → Option PyData
  | .int i, .int j => if 0 < j then some (.int (i % j)) else none
  | _, _ => none
def dPow : PyData → PyData → Option PyData
  | .int i, .int j => if 0 ≤ j ∧ j ≤ 1000000 ∧ i.natAbs < 2 ^ 64 then some (.int (i ^ j.toNat)) else none
  | _, _ => none
theorem vok_add {K : PySem.W.Frag} : VOk2 K (fun x y H Q => rI0 (fun i j => .int (i + j)) x y H Q ∨ ∃ i j, x = .str i ∧ y = .str j ∧ i.length + j.length ≤ sizeLine ∧ Q (.str (i ++ j)) H) dAdd := by
  intro F H x y d e z Q s rx ry hz q
  cases d <;> cases e <;> simp only [dAdd, reduceCtorEq, Option.ite_none_right_eq_some, Option.some.injEq] at hz
  · subst hz
    exact .inl ⟨_, _, rx.int, ry.int, q _ F H (.refl s) (.int _)⟩
  · obtain ⟨h1, h2⟩ := hz
    subst h2
    exact .inr ⟨_, _, rx.str, ry.str, h1, q _ F H (.refl s) (.str _)⟩
theorem vok_sub {K : PySem.W.Frag} : VOk2 K (rI0 fun i j => .int (i - j)) dSub := by
  intro F H x y d e z Q s rx ry hz q
  cases d <;> cases e <;> simp only [dSub, reduceCtorEq, Option.some.injEq] at hz
  subst hz
  exact ⟨_, _, rx.int, ry.int, q _ F H (.refl s) (.int _)⟩
theorem natAbs_lt {i : Int} (h : i.natAbs < 2 ^ 64) : -(2 ^ 64) < i ∧ i < 2 ^ 64 := by omega
theorem vok_mul {K : PySem.W.Frag} : VOk2 K (rI CMul fun i j => .int (i * j)) dMul := by
  intro F H x y d e z Q s rx ry hz q
  cases d <;> cases e <;> simp only [dMul, reduceCtorEq, Option.ite_none_right_eq_some, Option.some.injEq] at hz
  obtain ⟨h1, h2⟩ := hz
  subst h2
  refine ⟨_, _, rx.int, ry.int, ?_, q _ F H (.refl s) (.int _)⟩
  unfold mulOk at h1
  rw [Bool.or_eq_true] at h1
  rcases h1 with h1 | h1
  · exact .inl (natAbs_lt (of_decide_eq_true h1))
  · exact .inr (natAbs_lt (of_decide_eq_true h1))
theorem vok_div {K : PySem.W.Frag} : VOk2 K (rI CDiv fun i j => .int (i / j)) dDiv := by
  intro F H x y d e z Q s rx ry hz q
  cases d <;> cases e <;> simp only [dDiv, reduceCtorEq, Option.ite_none_right_eq_some, Option.some.injEq] at hz
  obtain ⟨h1, h2⟩ := hz
  subst h2
  exact ⟨_, _, rx.int, ry.int, h1, q _ F H (.refl s) (.int _)⟩
theorem vok_mod {K : PySem.W.Frag} : VOk2 K (rI (fun _ j => 0 < j) fun i j => .int (i % j)) dMod := by
  intro F H x y d e z Q s rx ry hz q
  cases d <;> cases e <;> simp only [dMod, reduceCtorEq, Option.ite_none_right_eq_some, Option.some.injEq] at hz
  obtain ⟨h1, h2⟩ := hz
  subst h2
  exact ⟨_, _, rx.int, ry.int, h1, q _ F H (.refl s) (.int _)⟩
theorem vok_pow {K : PySem.W.Frag} : VOk2 K (rI CPow fun i j => .int (i ^ j.toNat)) dPow := by
  intro F H x y d e z Q s rx ry hz q
  cases d <;> cases e <;> simp only [dPow, reduceCtorEq, Option.ite_none_right_eq_some, Option.some.injEq] at hz
  obtain ⟨h1, h2⟩ := hz
  subst h2
  exact ⟨_, _, rx.int, ry.int, h1, q _ F H (.refl s) (.int _)⟩
theorem de_add (ha : DEw X a fa) (hb : DEw X b fb) : DEs X (.BinOp a .Add b pos) (eBin dAdd fa fb) := de_bin (op_add.or op_add_str) vok_add ha hb
theorem de_sub (ha : DEw X a fa) (hb : DEw X b fb) : DEs X (.BinOp a .Sub b pos) (eBin dSub fa fb) := de_bin op_sub vok_sub ha hb
theorem de_mul (ha : DEw X a fa) (hb : DEw X b fb) : DEs X (.BinOp a .Mult b pos) (eBin dMul fa fb) := de_bin op_mul vok_mul ha hb
theorem de_div (ha : DEw X a fa) (hb : DEw X b fb) : DEs X (.BinOp a .FloorDiv b pos) (eBin dDiv fa fb) := de_bin op_fdiv vok_div ha hb
theorem de_mod (ha : DEw X a fa) (hb : DEw X b fb) : DEs X (.BinOp a .Mod b pos) (eBin dMod fa fb) := de_bin op_mod vok_mod ha hb
theorem de_pow (ha : DEw X a fa) (hb : DEw X b fb) : DEs X (.BinOp a .Pow b pos) (eBin dPow fa fb) := de_bin op_pow vok_pow ha hb
end
end L2.RC

namespace L2.RC
open PySem PySem.Spec PyProof.Rows
section
variable {X : Cx} {EX : EXX} {e a b c : Expr} {pos : Pos} {f fa fb : EFn}
/-! ### the one reading of a function of the slots -/
def cEs (K : PySem.W.Frag) (f : EFn) : TE := fun σ H Q => ∃ F0 H0 F ρ d, StF K F0 H0 F ρ σ H ∧ f ρ = some d ∧ ∀ v F' H', Grow F H F' H' → Rp K F' v d → Q v H'
def cET (K : PySem.W.Frag) (f : TFn) : TT := fun σ H Q => ∃ F0 H0 F ρ d, StF K F0 H0 F ρ σ H ∧ f ρ = some d ∧ ∀ F' H', Grow F H F' H' → Q d H'
theorem DEs.can (h : DEs X e f) : PE X e (cEs X.K f) := by
  obtain ⟨te, p, h⟩ := h.ex
  exact ⟨fun pins s σ H Q I ⟨F0, H0, F, ρ, d, S, e, q⟩ => p.run pins s σ H Q I (h F0 H0 F ρ σ H Q d S e q)⟩
theorem DT.can {ft : TFn} (h : DT X e ft) : PT X e (cET X.K ft) := by
  obtain ⟨te, p, h⟩ := h.ex
  exact ⟨fun pins s σ H Q I ⟨F0, H0, F, ρ, d, S, e, q⟩ => p.run pins s σ H Q I (h F0 H0 F ρ σ H Q d S e q)⟩

/-! ### comparisons -/
theorem de_cmp {op : CmpOp} {r : R2} {g : PyData → PyData → Option PyData} (ho : OpR X (compareOp op) r) (hg : VOk2 X.K r g) (ha : DEw X a fa) (hb : DEw X b fb) (hm : behindInMarks op b = false) : DEs X (.Compare a [op] [b] pos) (eBin g fa fb) := by
  obtain ⟨ta, pa, ha⟩ := ha.ex
  obtain ⟨tb, pb, hb⟩ := hb.ex
  exact ⟨_, pe_cmpR ho pa pb hm, es_bin hg ha hb⟩
/-- a bool's value as a test -/
def tOf (f : EFn) : TFn := fun ρ => match f ρ with | some (.bool b) => some b | _ => none
theorem tOf_some {ρ : DEnv} {k : Bool} (e : tOf f ρ = some k) : f ρ = some (.bool k) := by
  unfold tOf at e
  cases q : f ρ with
  | none => rw [q] at e; cases e
  | some d =>
    rw [q] at e
    cases d <;> first | (cases e; rfl) | cases e
theorem et_of {K : PySem.W.Frag} {te : TE} (h : EsOk K te f) : ETOk K (tTest te) (tOf f) := by
  intro F0 H0 F ρ σ H Q k S e q
  refine h F0 H0 F ρ σ H _ _ S (tOf_some e) fun v F' H' g r => ?_
  cases r
  exact ⟨k, rfl, q F' H' g⟩
theorem dt_cmp {op : CmpOp} {r : R2} {g : PyData → PyData → Option PyData} (ho : OpR X (compareOp op) r) (hg : VOk2 X.K r g) (ha : DEw X a fa) (hb : DEw X b fb) (hm : behindInMarks op b = false) : DT X (.Compare a [op] [b] pos) (tOf (eBin g fa fb)) := by
  obtain ⟨ta, pa, ha⟩ := ha.ex
  obtain ⟨tb, pb, hb⟩ := hb.ex
  exact ⟨_, pt_cmpR ho pa pb hm, et_of (es_bin hg ha hb)⟩
def dLt : PyData → PyData → Option PyData
  | .int i, .int j => some (.bool (decide (i < j)))
  | _, _ => none
def dLe : PyData → PyData → Option PyData
  | .int i, .int j => some (.bool (decide (i ≤ j)))
  | _, _ => none
def dGt : PyData → PyData → Option PyData
  | .int i, .int j => some (.bool (decide (j < i)))
  | _, _ => none
def dGe : PyData → PyData → Option PyData
  | .int i, .int j => some (.bool (decide (j ≤ i)))
  | _, _ => none
def dEq (x y : PyData) : Option PyData := if (SeqAt.shaped x && SeqAt.shaped y) = true then some (.bool (PyData.eqv x y)) else none
def dNe (x y : PyData) : Option PyData := if (SeqAt.shaped x && SeqAt.shaped y) = true then some (.bool (!PyData.eqv x y)) else none
def isN : PyData → Bool
  | .none => true
  | _ => false
def dIs (x y : PyData) : Option PyData := match y with
  | .none => some (.bool (isN x))
  | _ => none
def dIsNot (x y : PyData) : Option PyData := match y with
  | .none => some (.bool (!isN x))
  | _ => none
def dIn (x y : PyData) : Option PyData := match y with
  | .list ds => if (SeqAt.shaped x && SeqAt.shaped (.list ds)) = true then some (.bool (ds.any fun z => PyData.eqv z x)) else none
  | _ => none
def dNotIn (x y : PyData) : Option PyData := match y with
  | .list ds => if (SeqAt.shaped x && SeqAt.shaped (.list ds)) = true then some (.bool (!ds.any fun z => PyData.eqv z x)) else none
  | _ => none
section
variable {K : PySem.W.Frag}
theorem vok_lt : VOk2 K (rI0 fun i j => .bl (decide (i < j))) dLt := by
  intro F H x y d e z Q s rx ry hz q
  cases d <;> cases e <;> simp only [dLt, reduceCtorEq, Option.some.injEq] at hz
  subst hz
  exact ⟨_, _, rx.int, ry.int, q _ F H (.refl s) (.bl _)⟩
theorem vok_le : VOk2 K (rI0 fun i j => .bl (decide (i ≤ j))) dLe := by
  intro F H x y d e z Q s rx ry hz q
  cases d <;> cases e <;> simp only [dLe, reduceCtorEq, Option.some.injEq] at hz
  subst hz
  exact ⟨_, _, rx.int, ry.int, q _ F H (.refl s) (.bl _)⟩
theorem vok_gt : VOk2 K (rI0 fun i j => .bl (decide (j < i))) dGt := by
  intro F H x y d e z Q s rx ry hz q
  cases d <;> cases e <;> simp only [dGt, reduceCtorEq, Option.some.injEq] at hz
  subst hz
  exact ⟨_, _, rx.int, ry.int, q _ F H (.refl s) (.bl _)⟩
theorem vok_ge : VOk2 K (rI0 fun i j => .bl (decide (j ≤ i))) dGe := by
  intro F H x y d e z Q s rx ry hz q
  cases d <;> cases e <;> simp only [dGe, reduceCtorEq, Option.some.injEq] at hz
  subst hz
  exact ⟨_, _, rx.int, ry.int, q _ F H (.refl s) (.bl _)⟩
theorem vok_eq : VOk2 K (rEqD K) dEq := by
  intro F H x y d e z Q s rx ry hz q
  unfold dEq at hz
  rw [Option.ite_none_right_eq_some, Bool.and_eq_true] at hz
  obtain ⟨⟨h1, h2⟩, h3⟩ := hz
  cases h3
  exact ⟨d, e, rx.dp s, ry.dp s, h1, h2, q _ F H (.refl s) (.bl _)⟩
theorem vok_ne : VOk2 K (rNeD K) dNe := by
  intro F H x y d e z Q s rx ry hz q
  unfold dNe at hz
  rw [Option.ite_none_right_eq_some, Bool.and_eq_true] at hz
  obtain ⟨⟨h1, h2⟩, h3⟩ := hz
  cases h3
  exact ⟨d, e, rx.dp s, ry.dp s, h1, h2, q _ F H (.refl s) (.bl _)⟩
theorem rw_isN {F H : Hp} {v : V} {d : PyData} (h : Rw K F H v d) : decide (v = .non) = isN d := by
  rcases h with h | ⟨a, vs, ds', e1, e2, h1, h2⟩
  · cases h <;> simp [isN]
  · subst e1; subst e2; simp [isN]
theorem rw_none {F H : Hp} {v : V} (h : Rw K F H v .none) : v = .non := by
  rcases h with h | ⟨a, vs, ds', e1, e2, h1, h2⟩
  · cases h; rfl
  · cases e2
theorem vok_is : VOk2 K (fun x y H Q => y = .non ∧ Q (.bl (decide (x = .non))) H) dIs := by
  intro F H x y d e z Q s rx ry hz q
  cases e <;> simp only [dIs, reduceCtorEq, Option.some.injEq] at hz
  subst hz
  refine ⟨rw_none ry, ?_⟩
  rw [rw_isN rx]
  exact q _ F H (.refl s) (.bl _)
theorem vok_isnot : VOk2 K (fun x y H Q => y = .non ∧ Q (.bl (!decide (x = .non))) H) dIsNot := by
  intro F H x y d e z Q s rx ry hz q
  cases e <;> simp only [dIsNot, reduceCtorEq, Option.some.injEq] at hz
  subst hz
  refine ⟨rw_none ry, ?_⟩
  rw [rw_isN rx]
  exact q _ F H (.refl s) (.bl _)
theorem vok_in : VOk2 K (rInD K) dIn := by
  intro F H x y d e z Q s rx ry hz q
  cases e <;> simp only [dIn, reduceCtorEq] at hz
  rw [Option.ite_none_right_eq_some, Bool.and_eq_true] at hz
  obtain ⟨⟨h1, h2⟩, h3⟩ := hz
  cases h3
  exact ⟨d, _, rx.dp s, ry.dp s, h1, h2, q _ F H (.refl s) (.bl _)⟩
theorem vok_notin : VOk2 K (rNotInD K) dNotIn := by
  intro F H x y d e z Q s rx ry hz q
  cases e <;> simp only [dNotIn, reduceCtorEq] at hz
  rw [Option.ite_none_right_eq_some, Bool.and_eq_true] at hz
  obtain ⟨⟨h1, h2⟩, h3⟩ := hz
  cases h3
  exact ⟨d, _, rx.dp s, ry.dp s, h1, h2, q _ F H (.refl s) (.bl _)⟩
end
theorem hu65 {A : Around} {k : Nat} (hr : Room k A) : A.units + 65 < cLine := by have := hr.un; omega
theorem hu64 {A : Around} {k : Nat} (hr : Room k A) : A.units + 64 < cLine := hr.units

/-! ### and, or, not, if -/
def eAnd (fa fb : EFn) : EFn := fun ρ => match fa ρ with | some (.bool true) => fb ρ | some (.bool false) => some (.bool false) | _ => none
def eOr (fa fb : EFn) : EFn := fun ρ => match fa ρ with | some (.bool true) => some (.bool true) | some (.bool false) => fb ρ | _ => none
def eNot (fa : EFn) : EFn := fun ρ => match fa ρ with | some (.bool k) => some (.bool !k) | _ => none
def tAnd2 (fa fb : TFn) : TFn := fun ρ => match fa ρ with | some true => fb ρ | some false => some false | none => none
def tOr2 (fa fb : TFn) : TFn := fun ρ => match fa ρ with | some true => some true | some false => fb ρ | none => none
def tNot2 (fa : TFn) : TFn := fun ρ => (fa ρ).map (!·)
def eIf (ft : TFn) (fa fb : EFn) : EFn := fun ρ => match ft ρ with | some true => fa ρ | some false => fb ρ | none => none
variable {rest : List Expr} {ft fu : TFn}
theorem de_and (ha : DEs X a fa) (hb : DEs X (.BoolOp .And (b :: rest) pos) fb) : DEs X (.BoolOp .And (a :: b :: rest) pos) (eAnd fa fb) := by
  obtain ⟨ta, pa, ha⟩ := ha.ex
  obtain ⟨tb, pb, hb⟩ := hb.ex
  refine ⟨_, pe_and pa pb, fun F0 H0 F ρ σ H Q d S e q => ?_⟩
  unfold eAnd at e
  cases h : fa ρ with
  | none => rw [h] at e; cases e
  | some d' =>
    rw [h] at e
    refine ha F0 H0 F ρ σ H _ d' S h fun v F1 H1 g r => ?_
    cases d' <;> first | cases e | skip
    rename_i k
    cases r
    refine ⟨k, rfl, ?_⟩
    cases k with
    | true => exact iteT (hb F0 H0 F1 ρ σ H1 Q d (S.grow g) e fun v F2 H2 g2 r2 => q v F2 H2 (g.trans g2) r2)
    | false => cases e; exact iteF (q _ F1 H1 g (.bl _))
theorem de_or (ha : DEs X a fa) (hb : DEs X (.BoolOp .Or (b :: rest) pos) fb) : DEs X (.BoolOp .Or (a :: b :: rest) pos) (eOr fa fb) := by
  obtain ⟨ta, pa, ha⟩ := ha.ex
  obtain ⟨tb, pb, hb⟩ := hb.ex
  refine ⟨_, pe_or pa pb, fun F0 H0 F ρ σ H Q d S e q => ?_⟩
  unfold eOr at e
  cases h : fa ρ with
  | none => rw [h] at e; cases e
  | some d' =>
    rw [h] at e
    refine ha F0 H0 F ρ σ H _ d' S h fun v F1 H1 g r => ?_
    cases d' <;> first | cases e | skip
    rename_i k
    cases r
    refine ⟨k, rfl, ?_⟩
    cases k with
    | false => exact iteF (hb F0 H0 F1 ρ σ H1 Q d (S.grow g) e fun v F2 H2 g2 r2 => q v F2 H2 (g.trans g2) r2)
    | true => cases e; exact iteT (q _ F1 H1 g (.bl _))
theorem de_one {op} (ha : DEs X a fa) : DEs X (.BoolOp op [a] pos) fa := by
  obtain ⟨ta, pa, ha⟩ := ha.ex
  exact ⟨_, pe_one pa, ha⟩
theorem de_not (ha : DEs X a fa) : DEs X (.UnaryOp .Not a pos) (eNot fa) := by
  obtain ⟨ta, pa, ha⟩ := ha.ex
  refine ⟨_, pe_not pa, fun F0 H0 F ρ σ H Q d S e q => ?_⟩
  unfold eNot at e
  cases h : fa ρ with
  | none => rw [h] at e; cases e
  | some d' =>
    rw [h] at e
    refine ha F0 H0 F ρ σ H _ d' S h fun v F1 H1 g r => ?_
    cases d' <;> first | (cases e; done) | skip
    rename_i k
    cases e
    cases r
    exact ⟨k, rfl, q _ F1 H1 g (.bl _)⟩
theorem et_and {K : PySem.W.Frag} {tx ty : TT} (ha : ETOk K tx ft) (hb : ETOk K ty fu) : ETOk K (tAnd tx ty) (tAnd2 ft fu) := by
  intro F0 H0 F ρ σ H Q d S e q
  unfold tAnd2 at e
  cases h : ft ρ with
  | none => rw [h] at e; cases e
  | some k =>
    rw [h] at e
    refine ha F0 H0 F ρ σ H _ k S h fun F1 H1 g => ?_
    cases k with
    | true => exact iteT (hb F0 H0 F1 ρ σ H1 Q d (S.grow g) e fun F2 H2 g2 => q F2 H2 (g.trans g2))
    | false => cases e; exact iteF (q F1 H1 g)
theorem et_or {K : PySem.W.Frag} {tx ty : TT} (ha : ETOk K tx ft) (hb : ETOk K ty fu) : ETOk K (tOr tx ty) (tOr2 ft fu) := by
  intro F0 H0 F ρ σ H Q d S e q
  unfold tOr2 at e
  cases h : ft ρ with
  | none => rw [h] at e; cases e
  | some k =>
    rw [h] at e
    refine ha F0 H0 F ρ σ H _ k S h fun F1 H1 g => ?_
    cases k with
    | false => exact iteF (hb F0 H0 F1 ρ σ H1 Q d (S.grow g) e fun F2 H2 g2 => q F2 H2 (g.trans g2))
    | true => cases e; exact iteT (q F1 H1 g)
theorem dw_and1 (ha : DT X a ft) : DW X (.BoolOp .And [a] pos) ft := by
  obtain ⟨ta, pa, ha⟩ := ha.ex
  exact ⟨_, pw_and1 pa, ha⟩
theorem dw_or1 (ha : DT X a ft) : DW X (.BoolOp .Or [a] pos) ft := by
  obtain ⟨ta, pa, ha⟩ := ha.ex
  exact ⟨_, pw_or1 pa, ha⟩
theorem dw_and (ha : DT X a ft) (hb : DW X (.BoolOp .And (b :: rest) pos) fu) : DW X (.BoolOp .And (a :: b :: rest) pos) (tAnd2 ft fu) := by
  obtain ⟨ta, pa, ha⟩ := ha.ex
  obtain ⟨tb, pb, hb⟩ := hb.ex
  exact ⟨_, pw_and pa pb, et_and ha hb⟩
theorem dw_or (ha : DT X a ft) (hb : DW X (.BoolOp .Or (b :: rest) pos) fu) : DW X (.BoolOp .Or (a :: b :: rest) pos) (tOr2 ft fu) := by
  obtain ⟨ta, pa, ha⟩ := ha.ex
  obtain ⟨tb, pb, hb⟩ := hb.ex
  exact ⟨_, pw_or pa pb, et_or ha hb⟩
theorem dt_w (h : DW X e ft) : DT X e ft := by
  obtain ⟨ta, pa, ha⟩ := h.ex
  exact ⟨_, pa.pt, ha⟩
theorem dt_not (ha : DT X a ft) : DT X (.UnaryOp .Not a pos) (tNot2 ft) := by
  obtain ⟨ta, pa, ha⟩ := ha.ex
  refine ⟨_, pt_not pa, fun F0 H0 F ρ σ H Q d S e q => ?_⟩
  obtain ⟨k, e1, e2⟩ := Option.map_eq_some_iff.mp e
  subst e2
  exact ha F0 H0 F ρ σ H _ k S e1 q
theorem dt_val (h : DEs X e f) (he : ∀ whole, isTrue e X.env whole = (do let v ← whole; standAt e.pos; holding [v] (truthy v)) := by intro _; rfl) : DT X e (tOf f) := by
  obtain ⟨te, p, h⟩ := h.ex
  exact ⟨_, pt_val p he, et_of h⟩
theorem de_if (hc : DT X c ft) (ha : DEs X a fa) (hb : DEs X b fb) : DEs X (.IfExp c a b pos) (eIf ft fa fb) := by
  obtain ⟨tc, pc, hc⟩ := hc.ex
  obtain ⟨ta, pa, ha⟩ := ha.ex
  obtain ⟨tb, pb, hb⟩ := hb.ex
  refine ⟨_, pe_ifExp pc pa pb, fun F0 H0 F ρ σ H Q d S e q => ?_⟩
  unfold eIf at e
  cases h : ft ρ with
  | none => rw [h] at e; cases e
  | some k =>
    rw [h] at e
    refine hc F0 H0 F ρ σ H _ k S h fun F1 H1 g => ?_
    cases k with
    | true => exact iteT (ha F0 H0 F1 ρ σ H1 Q d (S.grow g) e fun v F2 H2 g2 r => q v F2 H2 (g.trans g2) r)
    | false => exact iteF (hb F0 H0 F1 ρ σ H1 Q d (S.grow g) e fun v F2 H2 g2 r => q v F2 H2 (g.trans g2) r)

/-! ### an item -/
theorem atI_rp {K : PySem.W.Frag} {F : Hp} {vs : List V} {ds : List PyData} {i : Int} {d : PyData} (r : RpAll K F vs ds) (e : atI ds i = some d) : ∃ v, atI vs i = some v ∧ Rp K F v d := by
  unfold atI at e ⊢
  rw [r.length]
  obtain ⟨j, e1, e2⟩ := Option.bind_eq_some_iff.mp e
  obtain ⟨v, h1, h2⟩ := r.get e2
  exact ⟨v, by rw [e1]; exact h1, h2⟩
def dIx (x y : PyData) : Option PyData := match x, y with
  | .list ds, .int i => atI ds i
  | .tuple ds, .int i => atI ds i
  | .str z, .int i => if z.length ≤ sizeLine then (atI z.cps.toList i).map fun c => .str ⟨#[c]⟩ else none
  | _, _ => none
theorem vok_ix {K : PySem.W.Frag} : VOk2 K (rIx K) dIx := by
  intro F H x y d e z Q s rx ry hz q
  cases d <;> cases e <;> simp only [dIx, reduceCtorEq] at hz
  · rename_i zs i
    rw [Option.ite_none_right_eq_some] at hz
    obtain ⟨h1, h2⟩ := hz
    obtain ⟨c, h3, h4⟩ := Option.map_eq_some_iff.mp h2
    subst h4
    exact .inr (.inr ⟨zs, i, c, rx.str, ry.int, h1, h3, q _ F H (.refl s) (.str _)⟩)
  · obtain ⟨p, vs, rfl, h1, h2⟩ := rx.list s
    obtain ⟨v, h3, h4⟩ := atI_rp h2 hz
    exact .inl ⟨p, vs, _, v, rfl, ry.int, h1, h3, q v F H (.refl s) h4⟩
  · obtain ⟨p, vs, rfl, h1, h2⟩ := rx.tuple s
    obtain ⟨v, h3, h4⟩ := atI_rp h2 hz
    exact .inr (.inl ⟨p, vs, _, v, rfl, ry.int, h1, h3, q v F H (.refl s) h4⟩)
theorem de_ix (ha : DEw X a fa) (hb : DEw X b fb) (hs : PlainIx b := by exact fun _ _ => rfl) : DEs X (.Subscript a b pos) (eBin dIx fa fb) := by
  obtain ⟨ta, pa, ha⟩ := ha.ex
  obtain ⟨tb, pb, hb⟩ := hb.ex
  exact ⟨_, pe_ix ix_seq pa pb hs, es_bin vok_ix ha hb⟩

/-! ### -x -/
def eNeg (fa : EFn) : EFn := fun ρ => match fa ρ with | some (.int i) => some (.int (-i)) | _ => none
theorem de_neg (ha : DEs X a fa) : DEs X (.UnaryOp .USub a pos) (eNeg fa) := by
  obtain ⟨ta, pa, ha⟩ := ha.ex
  refine ⟨_, pe_un un_neg pa, fun F0 H0 F ρ σ H Q d S e q => ?_⟩
  unfold eNeg at e
  cases h : fa ρ with
  | none => rw [h] at e; cases e
  | some d' =>
    rw [h] at e
    refine ha F0 H0 F ρ σ H _ d' S h fun v F1 H1 g r => ?_
    cases d' <;> first | (cases e; done) | skip
    cases e
    cases r
    exact ⟨_, rfl, q _ F1 H1 g (.int _)⟩

/-! ### displays -/
abbrev AFn := DEnv → Option (List PyData)
def evs : List EFn → AFn
  | [], _ => some []
  | f :: fs, ρ => (f ρ).bind fun d => (evs fs ρ).map (d :: ·)
def EaOk (K : PySem.W.Frag) (ta : TA) (n : Nat) (f : AFn) : Prop := ∀ F0 H0 F ρ σ H Q ds, StF K F0 H0 F ρ σ H → f ρ = some ds → (∀ vs F' H', Grow F H F' H' → RpAll K F' vs ds → vs.length = n → Q vs H') → ta σ H Q
structure DA (X : Cx) (es : List Expr) (f : AFn) : Prop where
  ex : ∃ ta, PA X es ta ∧ EaOk X.K ta es.length f
theorem da_nil : DA X [] (evs []) := ⟨_, pa_nil, fun F0 H0 F ρ σ H Q ds S e q => by cases e; exact q [] F H (.refl S.gr.fh) .nil rfl⟩
theorem da_cons {es : List Expr} {fs : List EFn} (ha : DEs X a fa) (hr : DA X es (evs fs)) (hs : starEach (a :: es) X.env = (false, eval a X.env) :: starEach es X.env := by rfl) : DA X (a :: es) (evs (fa :: fs)) := by
  obtain ⟨ta, pa, ha⟩ := ha.ex
  obtain ⟨tr, pr, hr⟩ := hr.ex
  refine ⟨_, pa_cons pa pr hs, fun F0 H0 F ρ σ H Q ds S e q => ?_⟩
  obtain ⟨d, e1, e2⟩ := Option.bind_eq_some_iff.mp (show (fa ρ).bind (fun d => (evs fs ρ).map (d :: ·)) = some ds from e)
  obtain ⟨es', e3, e4⟩ := Option.map_eq_some_iff.mp e2
  subst e4
  refine ha F0 H0 F ρ σ H _ d S e1 fun v F1 H1 g r => ?_
  refine hr F0 H0 F1 ρ σ H1 _ es' (S.grow g) e3 fun vs F2 H2 g2 r2 hl => ?_
  exact q (v :: vs) F2 H2 (g.trans g2) (.cons (Rp.mono g2.ff _ _ r) r2) (by rw [List.length_cons, hl, List.length_cons])
def eTup (f : AFn) : EFn := fun ρ => (f ρ).map .tuple
theorem small100 {n : Nat} (h : n ≤ 100) : n ≤ sizeLine := by rw [sizeLine_eq]; omega
theorem de_tup {es : List Expr} {x1} {fs : AFn} (h : DA X es fs) (hn : es.length ≤ 100 := by decide) : DEs X (.Tuple es x1 pos) (eTup fs) := by
  obtain ⟨ta, pa, h⟩ := h.ex
  refine ⟨_, pe_tup pa, fun F0 H0 F ρ σ H Q d S e q => ?_⟩
  obtain ⟨ds, e1, e2⟩ := Option.map_eq_some_iff.mp e
  subst e2
  refine h F0 H0 F ρ σ H _ ds S e1 fun vs F1 H1 g r hl => ⟨by rw [hl]; exact small100 hn, fun p hp => ?_⟩
  have g2 := Grow.froz (o := .tup vs) g.fh hp
  exact q _ _ _ (g.trans g2) (.tup (SqT.of upd_same) (RpAll.mono g2.ff _ _ r))
theorem de_lst {es : List Expr} {fs : AFn} (h : DA X es fs) (hn : es.length ≤ 100 := by decide) : DEo X (.List es pos) fs := by
  obtain ⟨ta, pa, h⟩ := h.ex
  refine ⟨_, pe_lst pa, fun F0 H0 F ρ σ H Q ds S e q => ?_⟩
  refine h F0 H0 F ρ σ H _ ds S e fun vs F1 H1 g r hl => ⟨by rw [hl]; exact small100 hn, fun p hp => ?_⟩
  have hp0 : H p = none := g.hh.free hp
  exact q p vs F1 _ (g.trans (Grow.own g.fh hp)) hp0 (none_of g.fh hp) upd_same r

/-! ### list + list, slices, list(..) -/
def rCatQ (K : PySem.W.Frag) : R2 := fun x y H Q => ∃ l b xs zs, x = .ref l ∧ y = .ref b ∧ SqL K H l xs ∧ SqL K H b zs ∧ xs.length + zs.length ≤ sizeLine ∧ ∀ p, H p = none → Q (.ref p) (upd H p (.lst (xs ++ zs)))
def oCat (fa fb : EFn) : OFn := fun ρ => match fa ρ with
  | some (.list xs) => (match fb ρ with | some (.list ys) => if xs.length + ys.length ≤ 1000000 then some (xs ++ ys) else none | _ => none)
  | _ => none
theorem small1m {n : Nat} (h : n ≤ 1000000) : n ≤ sizeLine := by rw [sizeLine_eq]; omega
theorem small1l {n : Nat} (h : n ≤ 1000000) : n < sizeLine := by rw [sizeLine_eq]; omega
theorem de_cat (ha : DEs X a fa) (hb : DEs X b fb) : DEo X (.BinOp a .Add b pos) (oCat fa fb) := by
  obtain ⟨ta, pa, ha⟩ := ha.ex
  obtain ⟨tb, pb, hb⟩ := hb.ex
  refine ⟨_, pe_op op_cat pa pb, fun F0 H0 F ρ σ H Q ds S e q => ?_⟩
  unfold oCat at e
  cases h1 : fa ρ with
  | none => rw [h1] at e; cases e
  | some x =>
    rw [h1] at e
    cases x <;> first | (cases e; done) | skip
    rename_i xs
    cases h2 : fb ρ with
    | none => rw [h2] at e; cases e
    | some y =>
      rw [h2] at e
      cases y <;> first | (cases e; done) | skip
      rename_i ys
      have e' : (if xs.length + ys.length ≤ 1000000 then some (xs ++ ys) else none) = some ds := e
      rw [Option.ite_none_right_eq_some] at e'
      obtain ⟨hl, e3⟩ := e'
      cases e3
      refine ha F0 H0 F ρ σ H _ _ S h1 fun v F1 H1 g1 r1 => ?_
      refine hb F0 H0 F1 ρ σ H1 _ _ (S.grow g1) h2 fun w F2 H2 g2 r2 => ?_
      cases r1 with
      | lst f1 a1 =>
        cases r2 with
        | lst f2 a2 =>
          refine ⟨_, _, _, _, rfl, rfl, g2.fh _ _ (g2.ff _ _ f1), g2.fh _ _ f2, by rw [a1.length, a2.length]; exact small1m hl, fun p hp => ?_⟩
          have g12 := g1.trans g2
          exact q p _ F2 _ (g12.trans (Grow.own g12.fh hp)) (g12.hh.free hp) (none_of g12.fh hp) upd_same ((RpAll.mono g2.ff _ _ a1).append a2)
/-- a slice's end -/
abbrev PFn := DEnv → Option (Option Int)
def EpOk (K : PySem.W.Frag) (to : TO) (f : PFn) : Prop := ∀ F0 H0 F ρ σ H Q o, StF K F0 H0 F ρ σ H → f ρ = some o → (∀ F' H', Grow F H F' H' → Q o H') → to σ H Q
structure DP (X : Cx) (e : Option Expr) (f : PFn) : Prop where
  ex : ∃ to, PO X e to ∧ EpOk X.K to f
def pNone : PFn := fun _ => some none
def pSome (f : EFn) : PFn := fun ρ => match f ρ with | some (.int i) => some (some i) | _ => none
theorem dp_none : DP X none pNone := ⟨_, po_none, fun F0 H0 F ρ σ H Q o S e q => by cases e; exact q F H (.refl S.gr.fh)⟩
theorem dp_some (h : DEs X e f) : DP X (some e) (pSome f) := by
  obtain ⟨te, p, h⟩ := h.ex
  refine ⟨_, po_some p, fun F0 H0 F ρ σ H Q o S e q => ?_⟩
  unfold pSome at e
  cases h1 : f ρ with
  | none => rw [h1] at e; cases e
  | some x =>
    rw [h1] at e
    cases x <;> first | (cases e; done) | skip
    cases e
    refine h F0 H0 F ρ σ H _ _ S h1 fun v F1 H1 g1 r1 => ?_
    cases r1
    exact ⟨_, rfl, q F1 H1 g1⟩
def cutD (xs : List PyData) (lo hi : Option Int) : List PyData := (xs.drop (HT.sIx xs.length 0 lo)).take (HT.sIx xs.length xs.length hi - HT.sIx xs.length 0 lo)
theorem cut_rp {K : PySem.W.Frag} {F : Hp} {vs : List V} {ds : List PyData} (r : RpAll K F vs ds) (lo hi : Option Int) : RpAll K F (cutV vs lo hi) (cutD ds lo hi) := by
  unfold cutV cutD
  rw [r.length]
  exact (r.drop _).take _
def oSl (fa : EFn) (fl fh : PFn) : OFn := fun ρ => match fa ρ with
  | some (.list xs) => (fl ρ).bind fun lo => (fh ρ).bind fun hi => some (cutD xs lo hi)
  | _ => none
def eSl (fa : EFn) (fl fh : PFn) : EFn := fun ρ => match fa ρ with
  | some (.str z) => (fl ρ).bind fun lo => (fh ρ).bind fun hi => if z.length ≤ 1000000 then some (.str (cutS z lo hi)) else none
  | _ => none
theorem de_slL {lo hi : Option Expr} {p2} {fl fh : PFn} (ha : DEw X a fa) (hl : DP X lo fl) (hh : DP X hi fh) : DEo X (.Subscript a (.Slice lo hi none p2) pos) (oSl fa fl fh) := by
  obtain ⟨ta, pa, ha⟩ := ha.ex
  obtain ⟨tl, pl, hl⟩ := hl.ex
  obtain ⟨th, ph, hh⟩ := hh.ex
  refine ⟨_, pe_slice sl_list pa pl ph, fun F0 H0 F ρ σ H Q ds S e q => ?_⟩
  unfold oSl at e
  cases h1 : fa ρ with
  | none => rw [h1] at e; cases e
  | some x =>
    rw [h1] at e
    cases x <;> first | (cases e; done) | skip
    rename_i xs
    obtain ⟨l, e1, e2⟩ := Option.bind_eq_some_iff.mp (show (fl ρ).bind (fun lo => (fh ρ).bind fun hi => some (cutD xs lo hi)) = some ds from e)
    obtain ⟨h, e3, e4⟩ := Option.bind_eq_some_iff.mp e2
    cases e4
    refine ha F0 H0 F ρ σ H _ _ S h1 fun v F1 H1 g1 r1 => ?_
    refine hl F0 H0 F1 ρ σ H1 _ l (S.grow g1) e1 fun F2 H2 g2 => ?_
    refine hh F0 H0 F2 ρ σ H2 _ h ((S.grow g1).grow g2) e3 fun F3 H3 g3 => ?_
    have g23 := g2.trans g3
    obtain ⟨a', vs, rfl, q1, q2⟩ := (r1.grow g23).list g3.fh
    refine ⟨a', vs, rfl, q1, fun p hp => ?_⟩
    have g := g1.trans g23
    exact q p _ F3 _ (g.trans (Grow.own g.fh hp)) (g.hh.free hp) (none_of g.fh hp) upd_same (cut_rp q2 l h)
theorem de_slS {lo hi : Option Expr} {p2} {fl fh : PFn} (ha : DEw X a fa) (hl : DP X lo fl) (hh : DP X hi fh) : DEs X (.Subscript a (.Slice lo hi none p2) pos) (eSl fa fl fh) := by
  obtain ⟨ta, pa, ha⟩ := ha.ex
  obtain ⟨tl, pl, hl⟩ := hl.ex
  obtain ⟨th, ph, hh⟩ := hh.ex
  refine ⟨_, pe_slice sl_str pa pl ph, fun F0 H0 F ρ σ H Q d S e q => ?_⟩
  unfold eSl at e
  cases h1 : fa ρ with
  | none => rw [h1] at e; cases e
  | some x =>
    rw [h1] at e
    cases x <;> first | (cases e; done) | skip
    rename_i z
    obtain ⟨l, e1, e2⟩ := Option.bind_eq_some_iff.mp (show (fl ρ).bind (fun lo => (fh ρ).bind fun hi => if z.length ≤ 1000000 then some (PyData.str (cutS z lo hi)) else none) = some d from e)
    obtain ⟨h, e3, e4⟩ := Option.bind_eq_some_iff.mp e2
    rw [Option.ite_none_right_eq_some] at e4
    obtain ⟨hz, e5⟩ := e4
    cases e5
    refine ha F0 H0 F ρ σ H _ _ S h1 fun v F1 H1 g1 r1 => ?_
    refine hl F0 H0 F1 ρ σ H1 _ l (S.grow g1) e1 fun F2 H2 g2 => ?_
    refine hh F0 H0 F2 ρ σ H2 _ h ((S.grow g1).grow g2) e3 fun F3 H3 g3 => ?_
    exact ⟨z, r1.str, small1m hz, q _ F3 H3 (g1.trans (g2.trans g3)) (.str _)⟩
end
end L2.RC

namespace L2.RC
open PySem PySem.Spec PyProof.Rows
section
variable {X : Cx} {EX : EXX} {e a b c : Expr} {pos p : Pos} {f fa fb : EFn}
/-! ### built-in functions of one argument -/
def eUn (g : PyData → Option PyData) (fa : EFn) : EFn := fun ρ => (fa ρ).bind g
def COk1 (K : PySem.W.Frag) (r : List V → Hp → VK → Prop) (g : PyData → Option PyData) : Prop :=
  ∀ F H x d z Q, Same F H → Rw K F H x d → g d = some z → (∀ v F' H', Grow F H F' H' → Rp K F' v z → Q v H') → r [x] H Q
theorem es_cb {K : PySem.W.Frag} {r : List V → Hp → VK → Prop} {g : PyData → Option PyData} {ta : TE} (hr : COk1 K r g) (ha : EwOk K ta fa) : EsOk K (tCB r (tCons ta tNil)) (eUn g fa) := by
  intro F0 H0 F ρ σ H Q d S e q
  obtain ⟨x, e1, e2⟩ := Option.bind_eq_some_iff.mp e
  refine ha F0 H0 F ρ σ H _ x S e1 fun v F1 H1 g1 r1 => ?_
  exact hr F1 H1 v x d Q g1.fh r1 e2 fun w F2 H2 g2 r2 => q w F2 H2 (g1.trans g2) r2
theorem de_b1 {x : Str} {id : String} {r : List V → Hp → VK → Prop} {g : PyData → Option PyData} (hc : CallR X (.builtin id) r) (hr : COk1 X.K r g) (hm : X.mg x = none) (hv : bootBuiltins x = some (.builtin id)) (ha : DEw X a fa)
    (hg : Gl X x := by rfl) (hn : x ≠ "__name__" := by decide) (hdb : (x == ("__debug__" : Str)) = false := by decide) (hs : starEach [a] X.env = [(false, eval a X.env)] := by rfl) : DEs X (.Call (.Name x p) [a] [] pos) (eUn g fa) := by
  obtain ⟨ta, pa, ha⟩ := ha.ex
  exact ⟨_, pe_callB hc hg hm hv (pa_cons pa pa_nil hs) hn hdb hs rfl, es_cb hr ha⟩
def dLen : PyData → Option PyData
  | .list ds => some (.int ds.length)
  | .tuple ds => some (.int ds.length)
  | .str z => if z.length ≤ 1000000 then some (.int z.length) else none
  | _ => none
theorem cok_len {K : PySem.W.Frag} : COk1 K (fun xs H Q => (∃ p ys, xs = [.ref p] ∧ (SqL K H p ys ∨ SqT K H p ys) ∧ Q (.int ys.length) H) ∨ ∃ z, xs = [.str z] ∧ z.length ≤ sizeLine ∧ Q (.int z.length) H) dLen := by
  intro F H x d z Q s rx hz q
  cases d <;> simp only [dLen, reduceCtorEq, Option.some.injEq] at hz
  · rw [Option.ite_none_right_eq_some] at hz
    obtain ⟨h1, h2⟩ := hz
    cases h2
    exact .inr ⟨_, by rw [rx.str], small1m h1, q _ F H (.refl s) (.int _)⟩
  · subst hz
    obtain ⟨p, vs, rfl, h1, h2⟩ := rx.list s
    exact .inl ⟨p, vs, rfl, .inl h1, by rw [h2.length]; exact q _ F H (.refl s) (.int _)⟩
  · subst hz
    obtain ⟨p, vs, rfl, h1, h2⟩ := rx.tuple s
    exact .inl ⟨p, vs, rfl, .inr h1, by rw [h2.length]; exact q _ F H (.refl s) (.int _)⟩
theorem de_len (hm : X.mg "len" = none) (ha : DEw X a fa) (hg : Gl X "len" := by rfl) (hs : starEach [a] X.env = [(false, eval a X.env)] := by rfl) : DEs X (.Call (.Name "len" p) [a] [] pos) (eUn dLen fa) :=
  de_b1 (call_len_seq.or call_len_str) cok_len hm PySem.boot_len ha hg (by decide) (by decide) hs
def dAbs : PyData → Option PyData
  | .int i => some (.int (if i < 0 then -i else i))
  | _ => none
theorem cok_abs {K : PySem.W.Frag} : COk1 K (fun xs H Q => ∃ i, xs = [.int i] ∧ Q (.int (if i < 0 then -i else i)) H) dAbs := by
  intro F H x d z Q s rx hz q
  cases d <;> simp only [dAbs, reduceCtorEq, Option.some.injEq] at hz
  subst hz
  exact ⟨_, by rw [rx.int], q _ F H (.refl s) (.int _)⟩
theorem de_abs (hm : X.mg "abs" = none) (ha : DEw X a fa) (hg : Gl X "abs" := by rfl) (hs : starEach [a] X.env = [(false, eval a X.env)] := by rfl) : DEs X (.Call (.Name "abs" p) [a] [] pos) (eUn dAbs fa) :=
  de_b1 call_abs cok_abs hm (by decide +kernel) ha hg (by decide) (by decide) hs
def intsOf : List PyData → Option (List Int)
  | [] => some []
  | .int i :: ds => (intsOf ds).map (i :: ·)
  | _ :: _ => none
theorem intsOf_eq : ∀ {ds : List PyData} {ns : List Int}, intsOf ds = some ns → ds = ns.map .int
  | [], ns, h => by cases h; rfl
  | .int i :: ds, ns, h => by
    obtain ⟨ms, h1, h2⟩ := Option.map_eq_some_iff.mp (show (intsOf ds).map (i :: ·) = some ns from h)
    subst h2
    rw [intsOf_eq h1] <;> rfl
  | .none :: _, _, h => by cases h
  | .bool _ :: _, _, h => by cases h
  | .str _ :: _, _, h => by cases h
  | .list _ :: _, _, h => by cases h
  | .tuple _ :: _, _, h => by cases h
  | .dict _ :: _, _, h => by cases h
theorem intsOf_map : ∀ (ns : List Int), intsOf (ns.map .int) = some ns
  | [] => rfl
  | n :: ns => by
    show (intsOf (ns.map .int)).map (n :: ·) = _
    rw [intsOf_map ns] <;> rfl
def maxL (n : Int) (ns : List Int) : Int := ns.foldl (fun a b => if a < b then b else a) n
theorem maxL_ge : ∀ (ns : List Int) (n : Int), n ≤ maxL n ns ∧ ∀ y ∈ ns, y ≤ maxL n ns
  | [], n => ⟨Int.le_refl _, fun _ h => by cases h⟩
  | m :: ns, n => by
    obtain ⟨h1, h2⟩ := maxL_ge ns (if n < m then m else n)
    have e : maxL n (m :: ns) = maxL (if n < m then m else n) ns := rfl
    rw [e]
    generalize maxL (if n < m then m else n) ns = z at h1 h2
    refine ⟨?_, fun y hy => ?_⟩
    · split at h1 <;> omega
    · rcases List.mem_cons.mp hy with hy | hy
      · rw [hy]; split at h1 <;> omega
      · exact h2 y hy
theorem maxL_mem : ∀ (ns : List Int) (n : Int), maxL n ns ∈ n :: ns
  | [], n => List.mem_singleton.mpr rfl
  | m :: ns, n => by
    have h := maxL_mem ns (if n < m then m else n)
    have e : maxL n (m :: ns) = maxL (if n < m then m else n) ns := rfl
    rw [e]
    rcases List.mem_cons.mp h with h | h
    · rw [h]
      split
      · exact List.mem_cons_of_mem _ List.mem_cons_self
      · exact List.mem_cons_self
    · exact List.mem_cons_of_mem _ (List.mem_cons_of_mem _ h)
def dMax : PyData → Option PyData
  | .list ds => match intsOf ds with
    | some (n :: ns) => some (.int (maxL n ns))
    | _ => none
  | _ => none
theorem cok_max {K : PySem.W.Frag} : COk1 K (rMax K) dMax := by
  intro F H x d z Q s rx hz q
  cases d <;> simp only [dMax, reduceCtorEq] at hz
  rename_i ds
  cases h : intsOf ds with
  | none => rw [h] at hz; cases hz
  | some l =>
    rw [h] at hz
    cases l with
    | nil => cases hz
    | cons n ns =>
      cases hz
      have hd := intsOf_eq h
      subst hd
      obtain ⟨p, vs, rfl, h1, h2⟩ := rx.list s
      rw [h2.ints] at h1
      refine ⟨p, n :: ns, rfl, h1, Nat.succ_pos _, fun m hm hall => ?_⟩
      have e : m = maxL n ns := by
        obtain ⟨g1, g2⟩ := maxL_ge ns n
        have a1 := hall _ (maxL_mem ns n)
        rcases List.mem_cons.mp hm with rfl | hm
        · omega
        · have := g2 m hm; omega
      rw [e]
      exact q _ F H (.refl s) (.int _)
theorem de_max (hm : X.mg "max" = none) (ha : DEw X a fa) (hc : X.calm = true := by rfl) (hg : Gl X "max" := by rfl) (hs : starEach [a] X.env = [(false, eval a X.env)] := by rfl) : DEs X (.Call (.Name "max" p) [a] [] pos) (eUn dMax fa) :=
  de_b1 (cr_max hc) cok_max hm (by decide +kernel) ha hg (by decide) (by decide) hs
def boolsOf : List PyData → Option (List Bool)
  | [] => some []
  | .bool i :: ds => (boolsOf ds).map (i :: ·)
  | _ :: _ => none
theorem boolsOf_eq : ∀ {ds : List PyData} {ns : List Bool}, boolsOf ds = some ns → ds = ns.map .bool
  | [], ns, h => by cases h; rfl
  | .bool i :: ds, ns, h => by
    obtain ⟨ms, h1, h2⟩ := Option.map_eq_some_iff.mp (show (boolsOf ds).map (i :: ·) = some ns from h)
    subst h2
    rw [boolsOf_eq h1] <;> rfl
  | .none :: _, _, h => by cases h
  | .int _ :: _, _, h => by cases h
  | .str _ :: _, _, h => by cases h
  | .list _ :: _, _, h => by cases h
  | .tuple _ :: _, _, h => by cases h
  | .dict _ :: _, _, h => by cases h
def dAll : PyData → Option PyData
  | .list ds => match boolsOf ds with
    | some bs => some (.bool (bs.all id))
    | _ => none
  | _ => none
theorem cok_all {K : PySem.W.Frag} : COk1 K (rAll K) dAll := by
  intro F H x d z Q s rx hz q
  cases d <;> simp only [dAll, reduceCtorEq] at hz
  rename_i ds
  cases h : boolsOf ds with
  | none => rw [h] at hz; cases hz
  | some l =>
    rw [h] at hz
    cases hz
    have hd := boolsOf_eq h
    subst hd
    obtain ⟨p, vs, rfl, h1, h2⟩ := rx.list s
    rw [h2.bls] at h1
    exact ⟨p, l, rfl, h1, q _ F H (.refl s) (.bl _)⟩
theorem de_all (hm : X.mg "all" = none) (ha : DEw X a fa) (hc : X.calm = true := by rfl) (hg : Gl X "all" := by rfl) (hs : starEach [a] X.env = [(false, eval a X.env)] := by rfl) : DEs X (.Call (.Name "all" p) [a] [] pos) (eUn dAll fa) :=
  de_b1 (cr_all hc) cok_all hm (by decide +kernel) ha hg (by decide) (by decide) hs
/-- list(xs): a new list -/
def oLst (fa : EFn) : OFn := fun ρ => match fa ρ with | some (.list ds) => some ds | some (.tuple ds) => some ds | _ => none
theorem de_list (hm : X.mg "list" = none) (ha : DEw X a fa) (hg : Gl X "list" := by rfl) (hs : starEach [a] X.env = [(false, eval a X.env)] := by rfl) : DEo X (.Call (.Name "list" p) [a] [] pos) (oLst fa) := by
  obtain ⟨ta, pa, ha⟩ := ha.ex
  refine ⟨_, pe_callTy call_list_of hg hm (by decide +kernel) (pa_cons pa pa_nil hs) (by decide) (by decide) hs rfl, fun F0 H0 F ρ σ H Q ds S e q => ?_⟩
  unfold oLst at e
  cases h1 : fa ρ with
  | none => rw [h1] at e; cases e
  | some x =>
    rw [h1] at e
    refine ha F0 H0 F ρ σ H _ x S h1 fun v F1 H1 g1 r1 => ?_
    cases x <;> first | (cases e; done) | skip
    · cases e
      obtain ⟨l, vs, rfl, h1, h2⟩ := r1.list g1.fh
      exact ⟨l, vs, rfl, .inl h1, fun t ht => q t _ F1 _ (g1.trans (Grow.own g1.fh ht)) (g1.hh.free ht) (none_of g1.fh ht) upd_same h2⟩
    · cases e
      obtain ⟨l, vs, rfl, h1, h2⟩ := r1.tuple g1.fh
      exact ⟨l, vs, rfl, .inr h1, fun t ht => q t _ F1 _ (g1.trans (Grow.own g1.fh ht)) (g1.hh.free ht) (none_of g1.fh ht) upd_same h2⟩

/-! ### isinstance(x, T) -/
def tyNm : PyData → String
  | .none => "NoneType"
  | .bool _ => "bool"
  | .int _ => "int"
  | .str _ => "str"
  | .list _ => "list"
  | .tuple _ => "tuple"
  | .dict _ => "dict"
def dIsi (T : String) (d : PyData) : Option PyData := (kitB (tyNm d) T).map .bool
theorem tyx_of {K : PySem.W.Frag} {F H : Hp} {v : V} {d : PyData} (s : Same F H) (r : Rw K F H v d) : TyX K H v (.type (tyNm d)) := by
  have lst : ∀ {a : Addr} {vs : List V}, SqL K H a vs → TyX K H (.ref a) (.type "list") := fun {a vs} h => by
    rcases h with (h | ⟨o, h⟩) | ⟨o, its, n, h1, h2, _⟩
    · exact .base (.lst h)
    · exact .base (.frz h)
    · exact .kList h1 h2
  have tup : ∀ {a : Addr} {vs : List V}, SqT K H a vs → TyX K H (.ref a) (.type "tuple") := fun {a vs} h => by
    rcases h with (h | ⟨o, h⟩) | ⟨o, its, n, h1, h2, _⟩
    · exact .base (.tup h)
    · exact .fTuple h
    · exact .kTuple h1 h2
  rcases r with r | ⟨a, vs, ds, rfl, rfl, h1, _⟩
  · cases r with
    | non => exact .base .non
    | bl b => exact .base (.bl b)
    | int i => exact .base (.int i)
    | str x => exact .base (.str x)
    | lst h1 h2 => exact lst (SqL.of (s _ _ h1))
    | tup h1 h2 => exact tup (seqT_same s h1)
  · exact lst h1
theorem de_isi {T : String} {y : Str} {q : Pos} (hm : X.mg "isinstance" = none) (hT : X.mg y = none) (hv : bootBuiltins y = some (.type T)) (ha : DEw X a fa) (hg : Gl X "isinstance" := by rfl) (hgT : Gl X y := by rfl)
    (hn : y ≠ "__name__" := by decide) (hdb : (y == ("__debug__" : Str)) = false := by decide)
    (hs : starEach [a, .Name y q] X.env = (false, eval a X.env) :: starEach [.Name y q] X.env := by rfl) (hs2 : starEach [.Name y q] X.env = [(false, eval (.Name y q) X.env)] := by rfl) (hpl : (backTo pos (starEach [.Name y q] X.env)).any (·.1) = false := by rfl) :
    DEs X (.Call (.Name "isinstance" p) [a, .Name y q] [] pos) (eUn (dIsi T) fa) := by
  obtain ⟨ta, pa, ha⟩ := ha.ex
  refine ⟨_, pe_callB call_isi hg hm (by decide +kernel) (pa_cons pa (pa_cons (pe_bltn (v := .ty T) hgT hT hv rfl hn hdb) pa_nil hs2) hs) (by decide) (by decide) hs hpl, fun F0 H0 F ρ σ H Q d S e q => ?_⟩
  obtain ⟨x, e1, e2⟩ := Option.bind_eq_some_iff.mp e
  obtain ⟨k, e3, e4⟩ := Option.map_eq_some_iff.mp (show (kitB (tyNm x) T).map PyData.bool = some d from e2)
  subst e4
  refine ha F0 H0 F ρ σ H _ x S e1 fun v F1 H1 g1 r1 => ?_
  exact ⟨v, .ty T, .type (tyNm x), .type T, k, rfl, .ty T, tyx_of g1.fh r1, kit_ty e3, q _ F1 H1 g1 (.bl _)⟩

/-! ### states -/
section
variable {K : PySem.W.Frag} {F0 H0 F H F1 H1 : Hp} {ρ : DEnv} {σ : St}
theorem getD_set {α : Type} {l : List α} {i j : Nat} {x y : α} (h : (l.set i x)[j]? = some y) : (j = i ∧ y = x) ∨ (j ≠ i ∧ l[j]? = some y) := by
  by_cases e : i = j
  · subst e
    by_cases hl : i < l.length
    · rw [List.getElem?_set_self hl] at h
      exact .inl ⟨rfl, (Option.some.inj h).symm⟩
    · rw [List.getElem?_eq_none (by rw [List.length_set]; omega)] at h
      cases h
  · rw [List.getElem?_set_ne e] at h
    exact .inr ⟨fun z => e z.symm, h⟩
theorem StF.setZ {i : Nat} {v : V} {d : PyData} (S : StF K F0 H0 F ρ σ H) (r : Rp K F v d) : StF K F0 H0 F (ρ.set i (.fz d)) (σ.set i (some v)) H := by
  refine ⟨S.gr, fun j s e => ?_, fun j k a ds es h1 h2 h3 h4 => ?_, by rw [List.length_set, List.length_set, S.len]⟩
  · rcases getD_set e with ⟨rfl, rfl⟩ | ⟨hj, e⟩
    · have hl : j < (ρ.set j (Sl.fz d)).length := (List.getElem?_eq_some_iff.mp e).1
      rw [List.length_set, S.len] at hl
      exact ⟨v, List.getElem?_set_self hl, r⟩
    · rw [List.getElem?_set_ne (Ne.symm hj)]
      exact S.sl j s e
  · rcases getD_set h1 with ⟨_, z⟩ | ⟨hj, h1⟩
    · cases z
    · rcases getD_set h2 with ⟨_, z⟩ | ⟨hk, h2⟩
      · cases z
      · rw [List.getElem?_set_ne (Ne.symm hj)] at h3
        rw [List.getElem?_set_ne (Ne.symm hk)] at h4
        exact S.sep j k a ds es h1 h2 h3 h4
theorem StF.setO {i : Nat} {p : Addr} {vs : List V} {ds : List PyData} (S : StF K F0 H0 F ρ σ H) (g : Grow F H F1 H1) (n1 : H p = none) (n2 : F1 p = none) (hp : H1 p = some (.lst vs)) (r : RpAll K F1 vs ds) :
    StF K F0 H0 F1 (ρ.set i (.ow ds)) (σ.set i (some (.ref p))) H1 := by
  have S1 := S.grow g
  have old : ∀ (j : Nat) es, ρ[j]? = some (Sl.ow es) → σ[j]? ≠ some (some (.ref p)) := fun j es h1 h2 => by
    obtain ⟨a, ws, e, h, _⟩ := S.sl j _ h1
    rw [h2] at e
    cases e
    rw [n1] at h; cases h
  refine ⟨S1.gr, fun j s e => ?_, fun j k a ds' es h1 h2 h3 h4 => ?_, by rw [List.length_set, List.length_set, S.len]⟩
  · rcases getD_set e with ⟨rfl, rfl⟩ | ⟨hj, e⟩
    · have hl : j < (ρ.set j (Sl.ow ds)).length := (List.getElem?_eq_some_iff.mp e).1
      rw [List.length_set, S.len] at hl
      exact ⟨p, vs, List.getElem?_set_self hl, hp, n2, S.gr.hh.free n1, r⟩
    · rw [List.getElem?_set_ne (Ne.symm hj)]
      exact S1.sl j s e
  · rcases getD_set h1 with ⟨rfl, _⟩ | ⟨hj, h1⟩
    · rcases getD_set h2 with ⟨rfl, _⟩ | ⟨hk, h2⟩
      · rfl
      · rw [List.getElem?_set_ne (Ne.symm hk)] at h4
        have hl : j < σ.length := by
          by_cases hl : j < σ.length
          · exact hl
          · rw [List.getElem?_eq_none (by rw [List.length_set]; omega)] at h3; cases h3
        rw [List.getElem?_set_self hl] at h3
        cases h3
        exact absurd h4 (old k es h2)
    · rw [List.getElem?_set_ne (Ne.symm hj)] at h3
      have h1' := h1
      clear h1
      rcases getD_set h2 with ⟨rfl, _⟩ | ⟨hk, h2⟩
      · have hl : k < σ.length := by
          by_cases hl : k < σ.length
          · exact hl
          · rw [List.getElem?_eq_none (by rw [List.length_set]; omega)] at h4; cases h4
        rw [List.getElem?_set_self hl] at h4
        cases h4
        exact absurd h3 (old j ds' h1')
      · rw [List.getElem?_set_ne (Ne.symm hk)] at h4
        exact S.sep j k a ds' es h1' h2 h3 h4
/-- an own list is changed -/
theorem StF.write {i : Nat} {a : Addr} {ds es : List PyData} {vs ws : List V} (S : StF K F0 H0 F ρ σ H) (h : ρ[i]? = some (.ow ds)) (hs : σ[i]? = some (some (.ref a))) (r : RpAll K F ws es) :
    StF K F0 H0 F (ρ.set i (.ow es)) σ (upd H a (.lst ws)) := by
  obtain ⟨a', vs', e, ha, fa, za, ra⟩ := S.sl i _ h
  rw [hs] at e
  cases e
  have n0 : ∀ b o, H0 b = some o → b ≠ a := fun b o q z => by rw [z, za] at q; cases q
  have nF : ∀ b o, F b = some o → b ≠ a := fun b o q z => by rw [z, fa] at q; cases q
  refine ⟨⟨fun b o q => ?_, S.gr.ff, fun b o q => ?_, S.gr.ag⟩, fun j s e => ?_, fun j k b ds' es' h1 h2 h3 h4 => ?_, by rw [List.length_set, S.len]⟩
  · rw [upd_ne (n0 b o q)]; exact S.gr.hh b o q
  · rw [upd_ne (nF b o q)]; exact S.gr.fh b o q
  · rcases getD_set e with ⟨rfl, rfl⟩ | ⟨hj, e⟩
    · exact ⟨a, ws, hs, upd_same, fa, za, r⟩
    · have q := S.sl j s e
      cases s with
      | un => trivial
      | fz d => exact q
      | br ds' => exact q
      | ow ds' =>
        obtain ⟨b, us, e1, hb, fb, zb, rb⟩ := q
        refine ⟨b, us, e1, ?_, fb, zb, rb⟩
        rw [upd_ne]
        · exact hb
        · rintro rfl
          exact hj (S.sep j i b ds' ds e h e1 hs)
  · have f1 : ∃ ds1, ρ[j]? = some (.ow ds1) := by
      rcases getD_set h1 with ⟨rfl, _⟩ | ⟨_, h1⟩
      · exact ⟨_, h⟩
      · exact ⟨_, h1⟩
    have f2 : ∃ ds1, ρ[k]? = some (.ow ds1) := by
      rcases getD_set h2 with ⟨rfl, _⟩ | ⟨_, h2⟩
      · exact ⟨_, h⟩
      · exact ⟨_, h2⟩
    obtain ⟨d1, f1⟩ := f1
    obtain ⟨d2, f2⟩ := f2
    exact S.sep j k b d1 d2 f1 f2 h3 h4
/-- an own list is handed over: it stays as it is from here on -/
def frz (i : Nat) (ρ : DEnv) : DEnv := match ρ[i]? with | some (.ow ds) => ρ.set i (.fz (.list ds)) | _ => ρ
theorem StF.frz (i : Nat) (S : StF K F0 H0 F ρ σ H) : ∃ F', StF K F0 H0 F' (frz i ρ) σ H := by
  unfold RC.frz
  split
  · rename_i ds h
    obtain ⟨a, vs, hs, ha, fa, za, ra⟩ := S.sl i _ h
    have up : Same F (upd F a (.lst vs)) := same_upd fa
    refine ⟨upd F a (.lst vs), ⟨S.gr.hh, S.gr.ff.trans up, fun b o q => ?_, fun b o q => ?_⟩, fun j s e => ?_, fun j k b ds' es' h1 h2 h3 h4 => ?_, by rw [List.length_set, S.len]⟩
    · by_cases hb : b = a
      · subst hb; rw [upd_same] at q; rw [ha]; exact q
      · rw [upd_ne hb] at q; exact S.gr.fh b o q
    · rw [upd_ne (fun z => by rw [z, za] at q; cases q)]
      exact S.gr.ag b o q
    · rcases getD_set e with ⟨rfl, rfl⟩ | ⟨hj, e⟩
      · exact ⟨_, hs, .lst upd_same (RpAll.mono up _ _ ra)⟩
      · have q := S.sl j s e
        cases s with
        | un => trivial
        | fz d => obtain ⟨v, e1, r⟩ := q; exact ⟨v, e1, Rp.mono up _ _ r⟩
        | br ds' => obtain ⟨b, us, e1, hb, r⟩ := q; exact ⟨b, us, e1, hb, RpAll.mono up _ _ r⟩
        | ow ds' =>
          obtain ⟨b, us, e1, hb, fb, zb, rb⟩ := q
          refine ⟨b, us, e1, hb, ?_, zb, RpAll.mono up _ _ rb⟩
          rw [upd_ne]
          · exact fb
          · rintro rfl
            exact hj (S.sep j i b ds' ds e h e1 hs)
    · rcases getD_set h1 with ⟨_, z⟩ | ⟨_, h1⟩
      · cases z
      · rcases getD_set h2 with ⟨_, z⟩ | ⟨_, h2⟩
        · cases z
        · exact S.sep j k b ds' es' h1 h2 h3 h4
  · exact ⟨F, S⟩
end

/-! ### statements -/
variable {st : Stmt} {sts : List Stmt} {fs gs : SFn} {ft : TFn} {i : Nat} {x : Str} {pos' : Pos}
/-- ahead of a statement an own list is handed over -/
theorem ds_frz (i : Nat) (h : DS X EX st fs) : DS X EX st (fun ρ => fs (frz i ρ)) := by
  obtain ⟨ts, ps, h⟩ := h.ex
  refine ⟨ts, ps, fun F0 H0 F ρ σ H D S q => ?_⟩
  obtain ⟨F', S'⟩ := S.frz i
  exact h F0 H0 F' _ σ H D S' q
theorem dss_frz (i : Nat) (h : DSs X EX sts fs) : DSs X EX sts (fun ρ => fs (frz i ρ)) := by
  obtain ⟨ts, ps, h⟩ := h.ex
  refine ⟨ts, ps, fun F0 H0 F ρ σ H D S q => ?_⟩
  obtain ⟨F', S'⟩ := S.frz i
  exact h F0 H0 F' _ σ H D S' q
def sFrz (i : Nat) (f : SFn) : SFn := fun ρ => f (frz i ρ)
def sNil : SFn := fun ρ => .nx ρ
def sSeq (f g : SFn) : SFn := fun ρ => match f ρ with | .nx ρ' => g ρ' | o => o
theorem dss_nil : DSs X EX [] sNil := ⟨_, pss_nil, fun F0 H0 F ρ σ H D S q => q F σ H S⟩
theorem dss_cons (h1 : DS X EX st fs) (h2 : DSs X EX sts gs) : DSs X EX (st :: sts) (sSeq fs gs) := by
  obtain ⟨t, p1, h1⟩ := h1.ex
  obtain ⟨u, p2, h2⟩ := h2.ex
  refine ⟨_, pss_cons p1 p2, fun F0 H0 F ρ σ H D S q => ?_⟩
  refine h1 F0 H0 F ρ σ H { D with nx := u D } S ?_
  unfold sSeq at q
  cases e : fs ρ with
  | nx ρ' =>
    rw [e] at q
    exact fun F' σ' H' S' => h2 F0 H0 F' ρ' σ' H' D S' q
  | _ => rw [e] at q; exact q
theorem dss_one (h1 : DS X EX st fs) : DSs X EX [st] fs := by
  obtain ⟨t, p1, h1⟩ := h1.ex
  exact ⟨t, pss_one p1, h1⟩
def sIf (ft : TFn) (f g : SFn) : SFn := fun ρ => match ft ρ with | some true => f ρ | some false => g ρ | none => .no
theorem ds_if {c : Expr} {xs ys : List Stmt} (hc : DT X c ft) (ha : DSs X EX xs fs) (hb : DSs X EX ys gs) : DS X EX (.If c xs ys pos) (sIf ft fs gs) := by
  obtain ⟨tc, pc, hc⟩ := hc.ex
  obtain ⟨t, p1, h1⟩ := ha.ex
  obtain ⟨u, p2, h2⟩ := hb.ex
  refine ⟨_, ps_if pc p1 p2, fun F0 H0 F ρ σ H D S q => ?_⟩
  unfold sIf at q
  cases e : ft ρ with
  | none => rw [e] at q; exact q.elim
  | some k =>
    rw [e] at q
    refine hc F0 H0 F ρ σ H _ k S e fun F1 H1 g => ?_
    cases k with
    | true => exact iteT (h1 F0 H0 F1 ρ σ H1 D (S.grow g) q)
    | false => exact iteF (h2 F0 H0 F1 ρ σ H1 D (S.grow g) q)
def sRet (f : EFn) : SFn := fun ρ => match f ρ with | some d => .rt d | none => .no
theorem ds_ret (h : DEs X e f) : DS X EX (.Return (some e) pos) (sRet f) := by
  obtain ⟨te, p, h⟩ := h.ex
  refine ⟨_, ps_ret p, fun F0 H0 F ρ σ H D S q => ?_⟩
  unfold sRet at q
  cases e1 : f ρ with
  | none => rw [e1] at q; exact q.elim
  | some d =>
    rw [e1] at q
    exact h F0 H0 F ρ σ H _ d S e1 fun v F1 H1 g r => q v F1 H1 (S.gr.trans g) r
def sSet (i : Nat) (f : EFn) : SFn := fun ρ => match f ρ with | some d => .nx (ρ.set i (.fz d)) | none => .no
theorem ds_set (i : Nat) (h : DEs X e f) (hN : X.N.Nodup) (hi : X.N[i]? = some x := by rfl) (hx : Loc X.env.scope x := by first | exact Or.inl rfl | exact Or.inr rfl) (hs : swapsWith e (some (.Name x pos')) pos.line X.env = pure false := by rfl)
    (hf : X.fn x = true ∨ X.env.scope.names.lookup x = some .local := by first | exact .inl rfl | exact .inr rfl) : DS X EX (.Assign [.Name x pos'] e pos) (sSet i f) := by
  obtain ⟨te, p, h⟩ := h.ex
  refine ⟨_, L2.ps_set hN hi hx p hs hf, fun F0 H0 F ρ σ H D S q => ?_⟩
  unfold sSet at q
  cases e1 : f ρ with
  | none => rw [e1] at q; exact q.elim
  | some d =>
    rw [e1] at q
    exact h F0 H0 F ρ σ H _ d S e1 fun v F1 H1 g r => q F1 _ H1 ((S.grow g).setZ r)
def sSetO (i : Nat) (f : OFn) : SFn := fun ρ => match f ρ with | some ds => .nx (ρ.set i (.ow ds)) | none => .no
theorem ds_setO (i : Nat) {fo : OFn} (h : DEo X e fo) (hN : X.N.Nodup) (hi : X.N[i]? = some x := by rfl) (hx : Loc X.env.scope x := by first | exact Or.inl rfl | exact Or.inr rfl) (hs : swapsWith e (some (.Name x pos')) pos.line X.env = pure false := by rfl)
    (hf : X.fn x = true ∨ X.env.scope.names.lookup x = some .local := by first | exact .inl rfl | exact .inr rfl) : DS X EX (.Assign [.Name x pos'] e pos) (sSetO i fo) := by
  obtain ⟨te, p, h⟩ := h.ex
  refine ⟨_, L2.ps_set hN hi hx p hs hf, fun F0 H0 F ρ σ H D S q => ?_⟩
  unfold sSetO at q
  cases e1 : fo ρ with
  | none => rw [e1] at q; exact q.elim
  | some ds =>
    rw [e1] at q
    exact h F0 H0 F ρ σ H _ ds S e1 fun t vs F1 H1 g n1 n2 hp r => q F1 _ H1 (S.setO g n1 n2 hp r)

/-! ### an own list's methods -/
def sMut (i : Nat) (fa : EFn) (g : List PyData → PyData → Option (List PyData)) : SFn := fun ρ => match ρ[i]? with
  | some (.ow ds) => (match fa ρ with | some d => (match g ds d with | some es => .nx (ρ.set i (.ow es)) | none => .no) | none => .no)
  | _ => .no
theorem sMut_ok {K : PySem.W.Frag} {F0 H0 : Hp} {D : Ends} {g : List PyData → PyData → Option (List PyData)} {ρ : DEnv} (q : OutOk K F0 H0 D EX (sMut i fa g ρ)) :
    ∃ ds d es, ρ[i]? = some (.ow ds) ∧ fa ρ = some d ∧ g ds d = some es ∧ ∀ F σ H, StF K F0 H0 F (ρ.set i (.ow es)) σ H → D.nx σ H := by
  unfold sMut at q
  cases e1 : ρ[i]? with
  | none => rw [e1] at q; exact q.elim
  | some s =>
    rw [e1] at q
    cases s with
    | ow ds =>
      cases e2 : fa ρ with
      | none => rw [e2] at q; exact q.elim
      | some d =>
        rw [e2] at q
        cases e3 : g ds d with
        | none => simp only [e3] at q; exact q.elim
        | some es => simp only [e3] at q; exact ⟨ds, d, es, rfl, rfl, e3, q⟩
    | _ => exact q.elim
def lAppend (ds : List PyData) (d : PyData) : Option (List PyData) := if ds.length < 1000000 then some (ds ++ [d]) else none
theorem ds_append (i : Nat) {apos cpos : Pos} (h : DEs X e f) (hN : X.N[i]? = some x := by rfl) (hv : Vis X.env.scope x := by first | exact Or.inl rfl | exact Or.inr (Or.inl rfl) | exact Or.inr (Or.inr rfl)) (hd : (x == ("__debug__" : Str)) = false := by decide)
    (hcd : (x == ("__classdict__" : Str)) = false := by decide)
    (hbase : attributeBase (.Name x p) "append" X.env (eval (.Name x p) X.env) = eval (.Name x p) X.env := by rfl)
    (hfew : ((backTo cpos (starEach [e] X.env)).all (fun x => !x.1) && (backToKw cpos (keywordEach [] X.env)).all (fun x => x.1.isSome)
      && decide ([e].length + ([] : List Keyword).length + (if ([] : List Keyword).isEmpty then 0 else 1) < 30)) = true := by rfl)
    (hline : (apos.endLine == cpos.line) = true := by rfl) (hs : starEach [e] X.env = [(false, eval e X.env)] := by rfl)
    (hsw : swapsWith (.Call (.Attribute (.Name x p) "append" apos) [e] [] cpos) none pos.line X.env = pure false := by rfl) :
    DS X EX (.Expr (.Call (.Attribute (.Name x p) "append" apos) [e] [] cpos) pos) (sMut i f lAppend) := by
  obtain ⟨te, pe, h⟩ := h.ex
  refine ⟨_, ps_expr (pe_bm PySem.F.plainAttrs_list PySem.F.slot_list_append PySem.F.type_list_append mt_append (pe_var hN hv hd hcd) (pa_cons pe pa_nil hs) hbase hfew hline hs rfl) hsw, fun F0 H0 F ρ σ H D S q => ?_⟩
  obtain ⟨ds, d, es, e1, e2, e3, q⟩ := sMut_ok q
  obtain ⟨a, vs, hsg, ha, fa', za, ra⟩ := S.sl i _ e1
  unfold lAppend at e3
  rw [Option.ite_none_right_eq_some] at e3
  obtain ⟨hl, e4⟩ := e3
  cases e4
  refine ⟨_, hsg, .inl ⟨rfl, _, SqL.of ha⟩, h F0 H0 F ρ σ H _ d S e2 fun v F1 H1 g r => ?_⟩
  refine ⟨a, vs, v, rfl, rfl, g.hh _ _ ha, by rw [ra.length]; exact small1l (Nat.le_of_lt hl), ?_⟩
  exact q F1 σ _ ((S.grow g).write (vs := vs) e1 hsg ((RpAll.mono g.ff _ _ ra).append (.cons r .nil)))
def lExtend (ds : List PyData) (d : PyData) : Option (List PyData) := match d with | .list es => if ds.length + es.length ≤ 1000000 then some (ds ++ es) else none | _ => none
theorem ds_extend (i : Nat) {apos cpos : Pos} (h : DEs X e f) (hN : X.N[i]? = some x := by rfl) (hv : Vis X.env.scope x := by first | exact Or.inl rfl | exact Or.inr (Or.inl rfl) | exact Or.inr (Or.inr rfl)) (hd : (x == ("__debug__" : Str)) = false := by decide)
    (hcd : (x == ("__classdict__" : Str)) = false := by decide)
    (hbase : attributeBase (.Name x p) "extend" X.env (eval (.Name x p) X.env) = eval (.Name x p) X.env := by rfl)
    (hfew : ((backTo cpos (starEach [e] X.env)).all (fun x => !x.1) && (backToKw cpos (keywordEach [] X.env)).all (fun x => x.1.isSome)
      && decide ([e].length + ([] : List Keyword).length + (if ([] : List Keyword).isEmpty then 0 else 1) < 30)) = true := by rfl)
    (hline : (apos.endLine == cpos.line) = true := by rfl) (hs : starEach [e] X.env = [(false, eval e X.env)] := by rfl)
    (hsw : swapsWith (.Call (.Attribute (.Name x p) "extend" apos) [e] [] cpos) none pos.line X.env = pure false := by rfl) :
    DS X EX (.Expr (.Call (.Attribute (.Name x p) "extend" apos) [e] [] cpos) pos) (sMut i f lExtend) := by
  obtain ⟨te, pe, h⟩ := h.ex
  refine ⟨_, ps_expr (pe_bm PySem.F.plainAttrs_list PySem.F.slot_list_extend PySem.F.type_list_extend mt_extend (pe_var hN hv hd hcd) (pa_cons pe pa_nil hs) hbase hfew hline hs rfl) hsw, fun F0 H0 F ρ σ H D S q => ?_⟩
  obtain ⟨ds, d, es, e1, e2, e3, q⟩ := sMut_ok q
  obtain ⟨a, vs, hsg, ha, fa', za, ra⟩ := S.sl i _ e1
  unfold lExtend at e3
  cases d <;> first | (cases e3; done) | skip
  rename_i ds2
  have e3' : (if ds.length + ds2.length ≤ 1000000 then some (ds ++ ds2) else none) = some es := e3
  rw [Option.ite_none_right_eq_some] at e3'
  obtain ⟨hl, e4⟩ := e3'
  cases e4
  refine ⟨_, hsg, .inl ⟨rfl, _, SqL.of ha⟩, h F0 H0 F ρ σ H _ _ S e2 fun v F1 H1 g r => ?_⟩
  cases r with
  | lst f1 a1 =>
    refine ⟨a, _, vs, _, rfl, rfl, g.hh _ _ ha, g.fh _ _ f1, by rw [ra.length, a1.length]; exact small1m hl, ?_⟩
    exact q F1 σ _ ((S.grow g).write (vs := vs) e1 hsg ((RpAll.mono g.ff _ _ ra).append a1))
/-- x.insert(k, e) -/
def sIns (i : Nat) (fk fa : EFn) : SFn := fun ρ => match ρ[i]? with
  | some (.ow ds) => (match fk ρ with | some (.int k) => (match fa ρ with | some d => if ds.length < 1000000 ∧ 0 ≤ k ∧ k < 1000000 then .nx (ρ.set i (.ow (ds.take k.toNat ++ [d] ++ ds.drop k.toNat))) else .no | none => .no) | _ => .no)
  | _ => .no
theorem ds_insert (i : Nat) {ek : Expr} {fk : EFn} {apos cpos : Pos} (hk : DEs X ek fk) (h : DEs X e f) (hN : X.N[i]? = some x := by rfl) (hv : Vis X.env.scope x := by first | exact Or.inl rfl | exact Or.inr (Or.inl rfl) | exact Or.inr (Or.inr rfl)) (hd : (x == ("__debug__" : Str)) = false := by decide)
    (hcd : (x == ("__classdict__" : Str)) = false := by decide)
    (hbase : attributeBase (.Name x p) "insert" X.env (eval (.Name x p) X.env) = eval (.Name x p) X.env := by rfl)
    (hfew : ((backTo cpos (starEach [ek, e] X.env)).all (fun x => !x.1) && (backToKw cpos (keywordEach [] X.env)).all (fun x => x.1.isSome)
      && decide ([ek, e].length + ([] : List Keyword).length + (if ([] : List Keyword).isEmpty then 0 else 1) < 30)) = true := by rfl)
    (hline : (apos.endLine == cpos.line) = true := by rfl) (hs : starEach [ek, e] X.env = (false, eval ek X.env) :: starEach [e] X.env := by rfl) (hs2 : starEach [e] X.env = [(false, eval e X.env)] := by rfl) (hpl : (backTo cpos (starEach [e] X.env)).any (·.1) = false := by rfl)
    (hsw : swapsWith (.Call (.Attribute (.Name x p) "insert" apos) [ek, e] [] cpos) none pos.line X.env = pure false := by rfl) :
    DS X EX (.Expr (.Call (.Attribute (.Name x p) "insert" apos) [ek, e] [] cpos) pos) (sIns i fk f) := by
  obtain ⟨te, pe, h⟩ := h.ex
  obtain ⟨tk, pk, hk⟩ := hk.ex
  refine ⟨_, ps_expr (pe_bm PySem.F.plainAttrs_list PySem.F.slot_list_insert PySem.F.type_list_insert mt_insert (pe_var hN hv hd hcd) (pa_cons pk (pa_cons pe pa_nil hs2) hs) hbase hfew hline hs hpl) hsw, fun F0 H0 F ρ σ H D S q => ?_⟩
  unfold sIns at q
  cases e1 : ρ[i]? with
  | none => rw [e1] at q; exact q.elim
  | some s =>
    rw [e1] at q
    cases s <;> first | (exact q.elim) | skip
    rename_i ds
    cases e2 : fk ρ with
    | none => simp only [e2] at q; exact q.elim
    | some dk =>
      simp only [e2] at q
      cases dk <;> first | (exact q.elim) | skip
      rename_i k
      cases e3 : f ρ with
      | none => simp only [e3] at q; exact q.elim
      | some d =>
        simp only [e3] at q
        by_cases hc : ds.length < 1000000 ∧ 0 ≤ k ∧ k < 1000000
        · rw [if_pos hc] at q
          obtain ⟨a, vs, hsg, ha, fa', za, ra⟩ := S.sl i _ e1
          refine ⟨_, hsg, .inl ⟨rfl, _, SqL.of ha⟩, hk F0 H0 F ρ σ H _ _ S e2 fun v F1 H1 g r => h F0 H0 F1 ρ σ H1 _ d (S.grow g) e3 fun v2 F2 H2 g2 r2 => ?_⟩
          cases r
          have g12 := g.trans g2
          refine ⟨a, vs, k, v2, rfl, rfl, g12.hh _ _ ha, by rw [ra.length]; exact small1l (Nat.le_of_lt hc.1), hc.2.1, by omega, ?_⟩
          have ra2 := RpAll.mono g12.ff _ _ ra
          exact q F2 σ _ ((S.grow g12).write (vs := vs) e1 hsg (((ra2.take k.toNat).append (.cons r2 .nil)).append (ra2.drop k.toNat)))
        · rw [if_neg hc] at q; exact q.elim
/-- x[k] = e -/
def sPut (i : Nat) (fk fa : EFn) : SFn := fun ρ => match ρ[i]? with
  | some (.ow ds) => (match fa ρ with | some d => (match fk ρ with | some (.int k) => (match ixN ds.length k with | some j => .nx (ρ.set i (.ow (ds.set j d))) | none => .no) | _ => .no) | none => .no)
  | _ => .no
theorem ds_put (i : Nat) {ek : Expr} {fk : EFn} {spos : Pos} (hk : DEs X ek fk) (h : DEs X e f) (hN : X.N[i]? = some x := by rfl) (hv : Vis X.env.scope x := by first | exact Or.inl rfl | exact Or.inr (Or.inl rfl) | exact Or.inr (Or.inr rfl)) (hd : (x == ("__debug__" : Str)) = false := by decide)
    (hcd : (x == ("__classdict__" : Str)) = false := by decide)
    (ha : ∀ v, assign (.Subscript (.Name x p) ek spos) X.env v = (do
      let ov ← holding [v] (eval (.Name x p) X.env)
      let iv ← holding [v, ov] (eval ek X.env)
      standAt spos
      holding [v, ov, iv] (setItem ov iv v)
      release [v, ov, iv] []) := by intro _; rfl)
    (hs : swapsWithSole [.Subscript (.Name x p) ek spos] e pos.line X.env = pure false := by rfl) (hw : swappedStores [.Subscript (.Name x p) ek spos] e X.env = pure none := by rfl)
    (h1 : (assignEach [.Subscript (.Name x p) ek spos] X.env).map (·.2) = [assign (.Subscript (.Name x p) ek spos) X.env] := by rfl) :
    DS X EX (.Assign [.Subscript (.Name x p) ek spos] e pos) (sPut i fk f) := by
  obtain ⟨te, pe, h⟩ := h.ex
  obtain ⟨tk, pk, hk⟩ := hk.ex
  refine ⟨_, ps_asg pe (pg_sub (pe_var hN hv hd hcd) pk set_list ha) hs hw h1, fun F0 H0 F ρ σ H D S q => ?_⟩
  unfold sPut at q
  cases e1 : ρ[i]? with
  | none => rw [e1] at q; exact q.elim
  | some s =>
    rw [e1] at q
    cases s <;> first | (exact q.elim) | skip
    rename_i ds
    cases e3 : f ρ with
    | none => simp only [e3] at q; exact q.elim
    | some d =>
      simp only [e3] at q
      cases e2 : fk ρ with
      | none => simp only [e2] at q; exact q.elim
      | some dk =>
        simp only [e2] at q
        cases dk <;> first | (exact q.elim) | skip
        rename_i k
        cases e4 : ixN ds.length k with
        | none => simp only [e4] at q; exact q.elim
        | some j =>
          simp only [e4] at q
          obtain ⟨a, vs, hsg, ha, fa', za, ra⟩ := S.sl i _ e1
          refine h F0 H0 F ρ σ H _ d S e3 fun v F1 H1 g r => ⟨_, hsg, hk F0 H0 F1 ρ σ H1 _ _ (S.grow g) e2 fun v2 F2 H2 g2 r2 => ?_⟩
          cases r2
          have g12 := g.trans g2
          refine ⟨a, vs, k, j, rfl, rfl, g12.hh _ _ ha, by rw [ra.length]; exact e4, ?_⟩
          exact q F2 σ _ ((S.grow g12).write (vs := vs) e1 hsg ((RpAll.mono g12.ff _ _ ra).set j (Rp.mono g2.ff _ _ r)))
end
end L2.RC

namespace L2.RC
open PySem PySem.Spec PyProof.Rows
section
variable {K : PySem.W.Frag} {F0 H0 F H F1 H1 : Hp} {ρ : DEnv} {σ : St} {D : Ends} {EX : EXX}
/-! ### another ground -/
theorem StF.low (S : StF K F1 H0 F ρ σ H) (s : Same F0 F1) (ag : ∀ a o, H0 a = some o → F1 a = F0 a) : StF K F0 H0 F ρ σ H :=
  ⟨⟨S.gr.hh, s.trans S.gr.ff, S.gr.fh, fun a o h => (S.gr.ag a o h).trans (ag a o h)⟩, S.sl, S.sep, S.len⟩
theorem StF.high (S : StF K F0 H0 F ρ σ H) : StF K F H0 F ρ σ H :=
  ⟨⟨S.gr.hh, .refl _, S.gr.fh, fun _ _ _ => rfl⟩, S.sl, S.sep, S.len⟩
theorem OutOk.high {o : Out} (q : OutOk K F0 H0 D EX o) (s : Same F0 F1) (ag : ∀ a o, H0 a = some o → F1 a = F0 a) : OutOk K F1 H0 D EX o := by
  cases o with
  | nx ρ => exact fun F σ H S => q F σ H (S.low s ag)
  | bk ρ => exact fun F σ H S => q F σ H (S.low s ag)
  | ct ρ => exact fun F σ H S => q F σ H (S.low s ag)
  | rt d => exact fun v F H g r => q v F H ⟨g.hh, s.trans g.ff, g.fh, fun a o h => (g.ag a o h).trans (ag a o h)⟩ r
  | rs x => exact q
  | no => exact q
end

section
variable {X : Cx} {EX : EXX} {e a b c : Expr} {pos p : Pos} {f fa fb : EFn} {sts : List Stmt} {fs : SFn} {ft : TFn} {x : Str}
/-! ### while -/
def sWhile (ft : TFn) (fb : SFn) : Nat → SFn
  | 0, _ => .no
  | n + 1, ρ => match ft ρ with
    | some true => (match fb ρ with
      | .nx ρ' => sWhile ft fb n ρ'
      | .ct ρ' => sWhile ft fb n ρ'
      | .bk ρ' => .nx ρ'
      | o => o)
    | some false => .nx ρ
    | none => .no
theorem ds_while (n : Nat) (hp : PassesOwn (model X.prog X.w) X.A X.env X.xe) (hc : DT X c ft) (hb : DSs X EX sts fs) : DS X EX (.While c sts [] pos) (sWhile ft fs n) := by
  obtain ⟨tc, pc, hc⟩ := hc.ex
  obtain ⟨tb, pb, hb⟩ := hb.ex
  refine ⟨_, ps_while hp pc pb, fun F0 H0 F ρ σ H D S q => ?_⟩
  refine ⟨fun m σ H => ∃ F ρ, StF X.K F0 H0 F ρ σ H ∧ OutOk X.K F0 H0 D EX (sWhile ft fs m ρ), ⟨n, F, ρ, S, q⟩, ?_⟩
  rintro m σ1 H1 ⟨F1, ρ1, S1, q1⟩
  cases m with
  | zero => exact q1.elim
  | succ k =>
    unfold sWhile at q1
    cases e : ft ρ1 with
    | none => rw [e] at q1; exact q1.elim
    | some t =>
      rw [e] at q1
      refine hc F0 H0 F1 ρ1 σ1 H1 _ t S1 e fun F2 H2 g => ?_
      cases t with
      | false => exact iteF (q1 F2 σ1 H2 (S1.grow g))
      | true =>
        refine iteT ⟨fun σ' H' => ∃ F ρ, StF X.K F0 H0 F ρ σ' H' ∧ OutOk X.K F0 H0 D EX (sWhile ft fs k ρ), fun σ' H' h => ⟨k, Nat.lt_succ_self k, h⟩, ?_⟩
        refine hb F0 H0 F2 ρ1 σ1 H2 _ (S1.grow g) ?_
        dsimp only at q1
        cases e2 : fs ρ1 with
        | nx ρ' => rw [e2] at q1; exact fun F σ H S => ⟨F, ρ', S, q1⟩
        | ct ρ' => rw [e2] at q1; exact fun F σ H S => ⟨F, ρ', S, q1⟩
        | bk ρ' => rw [e2] at q1; exact q1
        | rt d => rw [e2] at q1; exact q1
        | rs x => rw [e2] at q1; exact q1
        | no => rw [e2] at q1; exact q1

/-! ### what a loop walks -/
def ItOk (K : PySem.W.Frag) (J : It) (F1 B : Hp) (ds : List PyData) : Prop :=
  ∃ xs, RpAll K F1 xs ds ∧ (∀ (i : Nat) Hx, Same F1 Hx → Same B Hx → i < xs.length → J.go i Hx) ∧ (∀ (i : Nat) Hx x H', Same F1 Hx → Same B Hx → i < xs.length → J.yld i Hx x H' → H' = Hx ∧ xs[i]? = some x) ∧ (∀ (i : Nat) Hx, Same F1 Hx → Same B Hx → xs.length ≤ i → J.stop i Hx)
def EiOk (K : PySem.W.Frag) (wi : TI) (fi : OFn) : Prop := ∀ F0 H0 F ρ σ H R ds, StF K F0 H0 F ρ σ H → fi ρ = some ds → (∀ J F1 H1, Grow F H F1 H1 → ItOk K J F1 H0 ds → R J H1) → wi σ H R
/-- .. where nothing is changed while it is walked -/
def EjOk (K : PySem.W.Frag) (wi : TI) (fi : OFn) : Prop := ∀ F0 H0 F ρ σ H R ds, StF K F0 H0 F ρ σ H → fi ρ = some ds → (∀ J F1 H1, Grow F H F1 H1 → ItOk K J F1 H1 ds → R J H1) → wi σ H R
theorem ItOk.base {K : PySem.W.Frag} {J : It} {F1 B B' : Hp} {ds : List PyData} (h : ItOk K J F1 B ds) (s : Same B B') : ItOk K J F1 B' ds := by
  obtain ⟨xs, r, a, b, c⟩ := h
  exact ⟨xs, r, fun i Hx h1 h2 => a i Hx h1 (s.trans h2), fun i Hx x H' h1 h2 => b i Hx x H' h1 (s.trans h2), fun i Hx h1 h2 => c i Hx h1 (s.trans h2)⟩
theorem EiOk.j {K : PySem.W.Frag} {wi : TI} {fi : OFn} (h : EiOk K wi fi) : EjOk K wi fi := fun F0 H0 F ρ σ H R ds S e q => h F0 H0 F ρ σ H R ds S e fun J F1 H1 g r => q J F1 H1 g (r.base (S.gr.hh.trans g.hh))
structure DI (X : Cx) (tg e : Expr) (fi : OFn) : Prop where
  ex : ∃ wi, PI X tg e wi ∧ EiOk X.K wi fi
structure DJ (X : Cx) (tg e : Expr) (fi : OFn) : Prop where
  ex : ∃ wi, PI X tg e wi ∧ EjOk X.K wi fi
theorem DI.j {X : Cx} {tg e : Expr} {fi : OFn} (h : DI X tg e fi) : DJ X tg e fi := by
  obtain ⟨wi, p, h⟩ := h.ex
  exact ⟨wi, p, h.j⟩
def iLst (fa : EFn) : OFn := fun ρ => match fa ρ with | some (.list ds) => some ds | _ => none
def iTpl (fa : EFn) : OFn := fun ρ => match fa ρ with | some (.tuple ds) => some ds | _ => none
variable {tg : Expr} {fi : OFn}
theorem di_list (ha : DEs X a fa) : DI X tg a (iLst fa) := by
  obtain ⟨ta, pa, ha⟩ := ha.ex
  refine ⟨_, pi_list pa, fun F0 H0 F ρ σ H R ds S e q => ?_⟩
  unfold iLst at e
  cases h1 : fa ρ with
  | none => rw [h1] at e; cases e
  | some x =>
    rw [h1] at e
    cases x <;> first | (cases e; done) | skip
    cases e
    refine ha F0 H0 F ρ σ H _ _ S h1 fun v F1 H1 g r => ?_
    cases r with
    | lst f1 a1 =>
      rename_i l xs
      refine ⟨l, rfl, ⟨xs, SqL.of (g.fh _ _ f1)⟩, q _ F1 H1 g ⟨xs, a1, fun i Hx s _ hi => ⟨xs, xs[i], SqL.of (s _ _ f1), by simp [hi]⟩, fun i Hx x H' s _ hi y => ⟨y.1, y.2 xs (SqL.of (s _ _ f1))⟩, fun i Hx s _ hi => ⟨xs, SqL.of (s _ _ f1), hi⟩⟩⟩
theorem di_tup (ha : DEs X a fa) : DI X tg a (iTpl fa) := by
  obtain ⟨ta, pa, ha⟩ := ha.ex
  refine ⟨_, pi_tup pa, fun F0 H0 F ρ σ H R ds S e q => ?_⟩
  unfold iTpl at e
  cases h1 : fa ρ with
  | none => rw [h1] at e; cases e
  | some x =>
    rw [h1] at e
    cases x <;> first | (cases e; done) | skip
    cases e
    refine ha F0 H0 F ρ σ H _ _ S h1 fun v F1 H1 g r => ?_
    cases r with
    | tup f1 a1 =>
      rename_i l xs
      refine ⟨l, rfl, ⟨xs, seqT_same g.fh f1⟩, q _ F1 H1 g ⟨xs, a1, fun i Hx s _ hi => ⟨xs, xs[i], seqT_same s f1, by simp [hi]⟩, fun i Hx x H' s _ hi y => ⟨y.1, y.2 xs (seqT_same s f1)⟩, fun i Hx s _ hi => ⟨xs, seqT_same s f1, hi⟩⟩⟩
def rngD (lo : Int) (n : Nat) : List PyData := (List.range n).map fun i => .int (lo + (i : Nat))
def rngOk (i : Int) : Bool := decide (-1000000 ≤ i) && decide (i ≤ 1000000)
theorem rngOk_iff {i : Int} : rngOk i = true ↔ -1000000 ≤ i ∧ i ≤ 1000000 := by simp [rngOk]
theorem rng_rp {K : PySem.W.Frag} {F : Hp} {lo : Int} : ∀ (l : List Nat), RpAll K F (l.map fun i => V.int (lo + (i : Nat))) (l.map fun i => PyData.int (lo + (i : Nat)))
  | [] => .nil
  | i :: l => .cons (.int _) (rng_rp l)
theorem itr_ok {K : PySem.W.Frag} {F B : Hp} (lo : Int) (n : Nat) : ItOk K (Itr lo n) F B (rngD lo n) := by
  refine ⟨(List.range n).map fun i => V.int (lo + (i : Nat)), rng_rp _, fun i Hx s _ hi => ?_, fun i Hx x H' s _ hi y => ⟨y.1, ?_⟩, fun i Hx s _ hi => ?_⟩
  · show i < n
    simpa using hi
  · rw [List.length_map, List.length_range] at hi
    rw [List.getElem?_map, List.getElem?_range hi, y.2] <;> rfl
  · show n ≤ i
    simpa using hi
def iRg1 (fa : EFn) : OFn := fun ρ => match fa ρ with | some (.int j) => if rngOk j = true then some (rngD 0 j.toNat) else none | _ => none
def iRg2 (fa fb : EFn) : OFn := fun ρ => match fa ρ with | some (.int i) => (match fb ρ with | some (.int j) => if (rngOk i && rngOk j) = true then some (rngD i (j - i).toNat) else none | _ => none) | _ => none
theorem di_range1 (hm : X.mg "range" = none) (ha : DEs X a fa) (hg : Gl X "range" := by rfl) (hs : starEach [a] X.env = [(false, eval a X.env)] := by rfl) : DI X tg (.Call (.Name "range" p) [a] [] pos) (iRg1 fa) := by
  obtain ⟨ta, pa, ha⟩ := ha.ex
  refine ⟨_, pi_range1 hg hm (pa_cons pa pa_nil hs) hs, fun F0 H0 F ρ σ H R ds S e q => ?_⟩
  unfold iRg1 at e
  cases h1 : fa ρ with
  | none => rw [h1] at e; cases e
  | some x =>
    rw [h1] at e
    cases x <;> first | (cases e; done) | skip
    rename_i j
    have e' : (if rngOk j = true then some (rngD 0 j.toNat) else none) = some ds := e
    rw [Option.ite_none_right_eq_some, rngOk_iff] at e'
    obtain ⟨hj, e2⟩ := e'
    cases e2
    refine ha F0 H0 F ρ σ H _ _ S h1 fun v F1 H1 g r => ?_
    cases r
    exact ⟨j, rfl, by omega, by omega, q _ F1 H1 g (itr_ok 0 j.toNat)⟩
theorem di_range2 (hm : X.mg "range" = none) (ha : DEs X a fa) (hb : DEs X b fb) (hg : Gl X "range" := by rfl) (hs : starEach [a, b] X.env = [(false, eval a X.env), (false, eval b X.env)] := by rfl) (hs2 : starEach [b] X.env = [(false, eval b X.env)] := by rfl) : DI X tg (.Call (.Name "range" p) [a, b] [] pos) (iRg2 fa fb) := by
  obtain ⟨ta, pa, ha⟩ := ha.ex
  obtain ⟨tb, pb, hb⟩ := hb.ex
  refine ⟨_, pi_range2 hg hm (pa_cons pa (pa_cons pb pa_nil hs2) (by rw [hs, hs2])) hs hs2, fun F0 H0 F ρ σ H R ds S e q => ?_⟩
  unfold iRg2 at e
  cases h1 : fa ρ with
  | none => rw [h1] at e; cases e
  | some x =>
    rw [h1] at e
    cases x <;> first | (cases e; done) | skip
    rename_i i
    cases h2 : fb ρ with
    | none => simp only [h2] at e; cases e
    | some y =>
      simp only [h2] at e
      cases y <;> first | (cases e; done) | skip
      rename_i j
      have e' : (if (rngOk i && rngOk j) = true then some (rngD i (j - i).toNat) else none) = some ds := e
      rw [Option.ite_none_right_eq_some, Bool.and_eq_true, rngOk_iff, rngOk_iff] at e'
      obtain ⟨⟨hi, hj⟩, e2⟩ := e'
      cases e2
      refine ha F0 H0 F ρ σ H _ _ S h1 fun v F1 H1 g r => ?_
      cases r
      refine hb F0 H0 F1 ρ σ H1 _ _ (S.grow g) h2 fun v F2 H2 g2 r2 => ?_
      cases r2
      exact ⟨i, j, rfl, by omega, q _ F2 H2 (g.trans g2) (itr_ok i _)⟩

/-! ### for -/
def forL (i : Nat) (fb : SFn) : List PyData → SFn
  | [], ρ => .nx ρ
  | d :: ds, ρ => match fb (ρ.set i (.fz d)) with
    | .nx ρ' => forL i fb ds ρ'
    | .ct ρ' => forL i fb ds ρ'
    | .bk ρ' => .nx ρ'
    | o => o
def sFor (i : Nat) (fi : OFn) (fb : SFn) : SFn := fun ρ => match fi ρ with | some ds => forL i fb ds ρ | none => .no
theorem ds_for (i : Nat) {iter : Expr} {q : Pos} (hp : PassesOwn (model X.prog X.w) X.A X.env X.xe) (hI : DI X (.Name x q) iter fi) (hb : DSs X EX sts fs) (hN : X.N.Nodup) (hc : X.calm = true := by rfl) (hi : X.N[i]? = some x := by rfl)
    (hx : Loc X.env.scope x := by first | exact Or.inl rfl | exact Or.inr rfl) (hf : X.fn x = true ∨ X.env.scope.names.lookup x = some .local := by first | exact .inl rfl | exact .inr rfl)
    (hs : ∀ x, foldedSetIterable iter X.env x = pure x := by intro _; rfl) : DS X EX (.For (.Name x q) iter sts [] pos) (sFor i fi fs) := by
  obtain ⟨wi, pi, hwi⟩ := hI.ex
  obtain ⟨tb, pb, hb⟩ := hb.ex
  refine ⟨_, ps_for hp hc pi (pg_name (i := i) hN hi hx hf) pb hs, fun F0 H0 F ρ σ H D S q => ?_⟩
  unfold sFor at q
  cases e : fi ρ with
  | none => rw [e] at q; exact q.elim
  | some ds =>
    rw [e] at q
    refine hwi F0 H0 F ρ σ H _ ds S e fun J F1 H1 g ⟨xs, r, go, yld, stop⟩ => ?_
    have S1 := S.grow g
    have sF : Same F0 F1 := S1.gr.ff
    have agF := S1.gr.ag
    have hlen : xs.length = ds.length := r.length
    refine ⟨fun k m σ H => m = xs.length - k ∧ k ≤ xs.length ∧ ∃ F ρ, StF X.K F1 H0 F ρ σ H ∧ OutOk X.K F1 H0 D EX (forL i fs (ds.drop k) ρ), ⟨xs.length, rfl, Nat.zero_le _, F1, ρ, S1.high, q.high sF agF⟩, ?_⟩
    rintro k m σ2 H2 ⟨rfl, hk, F2, ρ2, S2, q2⟩
    have s2 : Same F1 H2 := S2.gr.ff.trans S2.gr.fh
    have b2 : Same H0 H2 := S2.gr.hh
    by_cases hlt : k < xs.length
    · refine .inr ⟨go k H2 s2 b2 hlt, fun σ' H' => ∃ F ρ, StF X.K F1 H0 F ρ σ' H' ∧ OutOk X.K F1 H0 D EX (forL i fs (ds.drop (k + 1)) ρ), fun σ' H' h => ⟨xs.length - (k + 1), by omega, rfl, hlt, h⟩, fun y H' hy => ?_⟩
      obtain ⟨rfl, hy'⟩ := yld k H2 y H' s2 b2 hlt hy
      obtain ⟨d, hd, rd⟩ := r.getV hy'
      have hdr : ds.drop k = d :: ds.drop (k + 1) := by
        obtain ⟨h1, h2⟩ := List.getElem?_eq_some_iff.mp hd
        rw [← h2, List.drop_eq_getElem_cons h1]
      rw [hdr] at q2
      unfold forL at q2
      refine hb F1 H0 F2 _ _ _ _ (S2.setZ (i := i) (Rp.mono S2.gr.ff _ _ rd)) ?_
      cases e2 : fs (ρ2.set i (.fz d)) with
      | nx ρ' => rw [e2] at q2; exact fun F σ H S => ⟨F, ρ', S, q2⟩
      | ct ρ' => rw [e2] at q2; exact fun F σ H S => ⟨F, ρ', S, q2⟩
      | bk ρ' => rw [e2] at q2; exact fun F σ H S => (q2 F σ H S)
      | rt d => rw [e2] at q2; exact q2
      | rs x => rw [e2] at q2; exact q2
      | no => rw [e2] at q2; exact q2
    · have ek : k = xs.length := by omega
      refine .inl ⟨stop k H2 s2 b2 (by omega), ?_⟩
      rw [List.drop_of_length_le (by omega)] at q2
      exact q2 F2 σ2 H2 S2

/-! ### comprehensions -/
def compL (i : Nat) (ft : TFn) (fe : EFn) (ρ : DEnv) : List PyData → Option (List PyData)
  | [] => some []
  | d :: ds => match ft (ρ.set i (.fz d)) with
    | some true => (fe (ρ.set i (.fz d))).bind fun y => (compL i ft fe ρ ds).map (y :: ·)
    | some false => compL i ft fe ρ ds
    | none => none
def oComp (i : Nat) (fi : OFn) (ft : TFn) (fe : EFn) : OFn := fun ρ => (fi ρ).bind fun ds => if ds.length ≤ 1000000 then compL i ft fe ρ ds else none
def tTrue : TFn := fun _ => some true
theorem wipe1 (σ : St) (i : Nat) : wipe σ [i] = σ.set i none := rfl
theorem eo_lc {K : PySem.W.Frag} {wi : TI} {tt : TT} {te : TE} {fe : EFn} (i : Nat) (hwi : EjOk K wi fi) (ht : ETOk K tt ft) (he : EsOk K te fe) : EoOk K (tLc wi (gName i) tt te [i]) (oComp i fi ft fe) := by
  intro F0 H0 F ρ σ H Q ds S e q
  obtain ⟨its, e1, e2⟩ := Option.bind_eq_some_iff.mp e
  rw [Option.ite_none_right_eq_some] at e2
  obtain ⟨hsz, e3⟩ := e2
  refine hwi F0 H0 F ρ σ H _ its S e1 fun J F1 H1 g ⟨xs, r, go, yld, stop⟩ => fun D hD => ?_
  have hlen : xs.length = its.length := r.length
  have S1 := S.grow g
  refine ⟨fun k m Hx => m = xs.length - k ∧ k ≤ xs.length ∧ ∃ Fx acc eacc rest, Grow F1 H1 Fx Hx ∧ Fx D = none ∧ Hx D = some (.lst acc) ∧ RpAll K Fx acc eacc ∧ eacc.length ≤ k ∧ compL i ft fe ρ (its.drop k) = some rest ∧ eacc ++ rest = ds,
    ⟨xs.length, rfl, Nat.zero_le _, F1, [], [], ds, Grow.own g.fh hD, none_of g.fh hD, upd_same, .nil, Nat.le_refl _, e3, rfl⟩, ?_⟩
  rintro k m Hx ⟨rfl, hk, Fx, acc, eacc, rest, gx, fD, hDx, ra, hl, ec, ed⟩
  have sx : Same F1 Hx := gx.ff.trans gx.fh
  have bx : Same H1 Hx := gx.hh
  by_cases hlt : k < xs.length
  · refine .inr ⟨go k Hx sx bx hlt, fun H' => ∃ Fx acc eacc rest, Grow F1 H1 Fx H' ∧ Fx D = none ∧ H' D = some (.lst acc) ∧ RpAll K Fx acc eacc ∧ eacc.length ≤ k + 1 ∧ compL i ft fe ρ (its.drop (k + 1)) = some rest ∧ eacc ++ rest = ds, fun H' h => ⟨xs.length - (k + 1), by omega, rfl, hlt, h⟩, fun y H' hy => ?_⟩
    obtain ⟨rfl, hy'⟩ := yld k Hx y H' sx bx hlt hy
    obtain ⟨d, hd, rd⟩ := r.getV hy'
    have hdr : its.drop k = d :: its.drop (k + 1) := by
      obtain ⟨h1, h2⟩ := List.getElem?_eq_some_iff.mp hd
      rw [← h2, List.drop_eq_getElem_cons h1]
    rw [hdr] at ec
    unfold compL at ec
    have Sx := (S1.grow gx).setZ (i := i) (Rp.mono gx.ff _ _ rd)
    refine ⟨by show ((σ.set i none).set i (some y)).set i none = σ.set i none; rw [List.set_set, List.set_set], ?_⟩
    have es2 : (wipe σ [i]).set i (some y) = σ.set i (some y) := by rw [wipe1, List.set_set]
    rw [es2]
    cases h1 : ft (ρ.set i (.fz d)) with
    | none => rw [h1] at ec; cases ec
    | some t =>
      rw [h1] at ec
      refine ht F0 H0 Fx _ _ _ _ t Sx h1 fun F2 H2 g2 => ?_
      have fD2 : F2 D = none := (g2.ag _ _ hDx).trans fD
      cases t with
      | false => exact iteF ⟨F2, acc, eacc, rest, gx.trans g2, fD2, g2.hh _ _ hDx, RpAll.mono g2.ff _ _ ra, by omega, ec, ed⟩
      | true =>
        refine iteT ?_
        obtain ⟨w, h2, h3⟩ := Option.bind_eq_some_iff.mp (show (fe (ρ.set i (.fz d))).bind (fun y => (compL i ft fe ρ (its.drop (k + 1))).map (y :: ·)) = some rest from ec)
        obtain ⟨rest', h4, h5⟩ := Option.map_eq_some_iff.mp h3
        refine he F0 H0 F2 _ _ _ _ w (Sx.grow g2) h2 fun v F3 H3 g3 r3 => ?_
        have fD3 : F3 D = none := (g3.ag _ _ (g2.hh _ _ hDx)).trans fD2
        have gall := (gx.trans g2).trans g3
        refine ⟨acc, g3.hh _ _ (g2.hh _ _ hDx), by rw [ra.length]; exact small1l (by omega), F3, acc ++ [v], eacc ++ [w], rest', ⟨fun b o z => ?_, gall.ff, fun b o z => ?_, gall.ag⟩, fD3, upd_same, (RpAll.mono (g2.trans g3).ff _ _ ra).append (.cons r3 .nil), by rw [List.length_append, List.length_singleton]; omega, h4, by rw [List.append_assoc]; subst h5; exact ed⟩
        · rw [upd_ne (ne_of_none z hD)]; exact gall.hh b o z
        · rw [upd_ne (ne_of_none z fD3)]; exact gall.fh b o z
  · have ek : k = xs.length := by omega
    refine .inl ⟨stop k Hx sx bx (by omega), ?_⟩
    rw [List.drop_of_length_le (by omega)] at ec
    cases ec
    rw [List.append_nil] at ed
    subst ed
    exact q D acc Fx Hx (g.trans gx) (g.hh.free hD) fD hDx ra
section
variable {elt iter : Expr} {q : Pos} {scope : Scope} {fe : EFn} {spos : Pos}
theorem de_lc0 (i : Nat) (hI : DJ X (.Name x q) iter fi) (ok : BlkOk X.N X.env.scope scope [(x, i)]) (hN : X.N.Nodup)
    (he : ∀ (s : Shared) (H : Hp) (C : Addr) (cl : List (Str × Addr)) (fp : List Addr), DEs (X.blk s H scope (compEnvC scope cl C X.env) fp) elt fe)
    (hg : ∀ (s : Shared) (H : Hp) (C : Addr) (cl : List (Str × Addr)) (fp : List Addr), PG (X.blk s H scope (compEnvC scope cl C X.env) fp) (.Name x q) (gName i))
    (hc : X.calm = true := by rfl) (hs : ∀ x, foldedSetIterable iter X.env x = pure x := by intro _; rfl) : DEo X (.ListComp elt [⟨.Name x q, iter, [], 0⟩] scope pos) (oComp i fi tTrue fe) := by
  obtain ⟨wi, pi, hwi⟩ := hI.ex
  refine ⟨_, pe_lc (te := cEs X.K fe) hc hN pi ok hg (fun _ _ _ _ _ => pts_nil) (fun s H C cl fp => (he s H C cl fp).can) hs, eo_lc i hwi (fun F0 H0 F ρ σ H Q b S e q => ?_) fun F0 H0 F ρ σ H Q d S e q => ⟨F0, H0, F, ρ, d, S, e, q⟩⟩
  cases e
  exact q F H (.refl S.gr.fh)
theorem de_lc1 (i : Nat) {c : Expr} (hI : DJ X (.Name x q) iter fi) (ok : BlkOk X.N X.env.scope scope [(x, i)]) (hN : X.N.Nodup)
    (ht : ∀ (s : Shared) (H : Hp) (C : Addr) (cl : List (Str × Addr)) (fp : List Addr), DT (X.blk s H scope (compEnvC scope cl C X.env) fp) c ft)
    (he : ∀ (s : Shared) (H : Hp) (C : Addr) (cl : List (Str × Addr)) (fp : List Addr), DEs (X.blk s H scope (compEnvC scope cl C X.env) fp) elt fe)
    (hg : ∀ (s : Shared) (H : Hp) (C : Addr) (cl : List (Str × Addr)) (fp : List Addr), PG (X.blk s H scope (compEnvC scope cl C X.env) fp) (.Name x q) (gName i))
    (hc : X.calm = true := by rfl) (hs : ∀ x, foldedSetIterable iter X.env x = pure x := by intro _; rfl) : DEo X (.ListComp elt [⟨.Name x q, iter, [c], 0⟩] scope pos) (oComp i fi ft fe) := by
  obtain ⟨wi, pi, hwi⟩ := hI.ex
  refine ⟨_, pe_lc (te := cEs X.K fe) (tt := cET X.K ft) hc hN pi ok hg (fun s H C cl fp => pts_one (ht s H C cl fp).can) (fun s H C cl fp => (he s H C cl fp).can) hs, eo_lc i hwi (fun F0 H0 F ρ σ H Q d S e q => ⟨F0, H0, F, ρ, d, S, e, q⟩) fun F0 H0 F ρ σ H Q d S e q => ⟨F0, H0, F, ρ, d, S, e, q⟩⟩
/-- y = [..] -/
theorem ds_setLc0 (i j : Nat) {y : Str} {py : Pos} (hI : DJ X (.Name x q) iter fi) (ok : BlkOk X.N X.env.scope scope [(x, i)]) (hN : X.N.Nodup)
    (he : ∀ (s : Shared) (H : Hp) (C : Addr) (cl : List (Str × Addr)) (fp : List Addr), DEs (X.blk s H scope (compEnvC scope cl C X.env) fp) elt fe)
    (hg : ∀ (s : Shared) (H : Hp) (C : Addr) (cl : List (Str × Addr)) (fp : List Addr), PG (X.blk s H scope (compEnvC scope cl C X.env) fp) (.Name x q) (gName i))
    (hsw : swapsWith (.ListComp elt [⟨.Name x q, iter, [], 0⟩] scope pos) (some (.Name y py)) spos.line X.env = pure true)
    (hy : X.N[j]? = some y := by rfl) (hyl : X.env.scope.names.lookup y = some .local := by rfl) (hc : X.calm = true := by rfl) (hs : ∀ x, foldedSetIterable iter X.env x = pure x := by intro _; rfl) :
    DS X EX (.Assign [.Name y py] (.ListComp elt [⟨.Name x q, iter, [], 0⟩] scope pos) spos) (sSetO j (oComp i fi tTrue fe)) := by
  obtain ⟨wi, pi, hwi⟩ := hI.ex
  refine ⟨_, ps_setLc (te := cEs X.K fe) hc hN hy hyl hsw pi ok hg (fun _ _ _ _ _ => pts_nil) (fun s H C cl fp => (he s H C cl fp).can) hs, fun F0 H0 F ρ σ H D S q => ?_⟩
  unfold sSetO at q
  cases e1 : oComp i fi tTrue fe ρ with
  | none => rw [e1] at q; exact q.elim
  | some ds =>
    rw [e1] at q
    refine eo_lc i hwi (fun F0 H0 F ρ σ H Q b S e q => ?_) (fun F0 H0 F ρ σ H Q d S e q => ⟨F0, H0, F, ρ, d, S, e, q⟩) F0 H0 F ρ σ H _ ds S e1 fun t vs F1 H1 g n1 n2 hp r => q F1 _ H1 (S.setO g n1 n2 hp r)
    cases e
    exact q F H (.refl S.gr.fh)
theorem ds_setLc1 (i j : Nat) {c : Expr} {y : Str} {py : Pos} (hI : DJ X (.Name x q) iter fi) (ok : BlkOk X.N X.env.scope scope [(x, i)]) (hN : X.N.Nodup)
    (ht : ∀ (s : Shared) (H : Hp) (C : Addr) (cl : List (Str × Addr)) (fp : List Addr), DT (X.blk s H scope (compEnvC scope cl C X.env) fp) c ft)
    (he : ∀ (s : Shared) (H : Hp) (C : Addr) (cl : List (Str × Addr)) (fp : List Addr), DEs (X.blk s H scope (compEnvC scope cl C X.env) fp) elt fe)
    (hg : ∀ (s : Shared) (H : Hp) (C : Addr) (cl : List (Str × Addr)) (fp : List Addr), PG (X.blk s H scope (compEnvC scope cl C X.env) fp) (.Name x q) (gName i))
    (hsw : swapsWith (.ListComp elt [⟨.Name x q, iter, [c], 0⟩] scope pos) (some (.Name y py)) spos.line X.env = pure true)
    (hy : X.N[j]? = some y := by rfl) (hyl : X.env.scope.names.lookup y = some .local := by rfl) (hc : X.calm = true := by rfl) (hs : ∀ x, foldedSetIterable iter X.env x = pure x := by intro _; rfl) :
    DS X EX (.Assign [.Name y py] (.ListComp elt [⟨.Name x q, iter, [c], 0⟩] scope pos) spos) (sSetO j (oComp i fi ft fe)) := by
  obtain ⟨wi, pi, hwi⟩ := hI.ex
  refine ⟨_, ps_setLc (te := cEs X.K fe) (tt := cET X.K ft) hc hN hy hyl hsw pi ok hg (fun s H C cl fp => pts_one (ht s H C cl fp).can) (fun s H C cl fp => (he s H C cl fp).can) hs, fun F0 H0 F ρ σ H D S q => ?_⟩
  unfold sSetO at q
  cases e1 : oComp i fi ft fe ρ with
  | none => rw [e1] at q; exact q.elim
  | some ds =>
    rw [e1] at q
    exact eo_lc i hwi (fun F0 H0 F ρ σ H Q d S e q => ⟨F0, H0, F, ρ, d, S, e, q⟩) (fun F0 H0 F ρ σ H Q d S e q => ⟨F0, H0, F, ρ, d, S, e, q⟩) F0 H0 F ρ σ H _ ds S e1 fun t vs F1 H1 g n1 n2 hp r => q F1 _ H1 (S.setO g n1 n2 hp r)
end

/-! ### calls of the text's defs -/
def ArgOk (K : PySem.W.Frag) (F H : Hp) (v : V) : Sl → Prop
  | .fz d => Rp K F v d
  | .br ds => ∃ a vs, v = .ref a ∧ SqL K H a vs ∧ RpAll K F vs ds
  | _ => False
inductive ArgsOk (K : PySem.W.Frag) (F H : Hp) : List V → List Sl → Prop
  | nil : ArgsOk K F H [] []
  | cons {v : V} {vs : List V} {s : Sl} {ss : List Sl} : ArgOk K F H v s → ArgsOk K F H vs ss → ArgsOk K F H (v :: vs) (s :: ss)
theorem ArgOk.grow {K : PySem.W.Frag} {F H F' H' : Hp} {v : V} {s : Sl} (h : ArgOk K F H v s) (g : Grow F H F' H') : ArgOk K F' H' v s := by
  cases s with
  | fz d => exact Rp.mono g.ff _ _ h
  | br ds => obtain ⟨a, vs, e, h1, h2⟩ := h; exact ⟨a, vs, e, g.hh.seq h1, RpAll.mono g.ff _ _ h2⟩
  | un => exact h
  | ow ds => exact h
theorem ArgsOk.length {K : PySem.W.Frag} {F H : Hp} : ∀ {vs : List V} {ss : List Sl}, ArgsOk K F H vs ss → vs.length = ss.length
  | _, _, .nil => rfl
  | _, _, .cons _ t => congrArg (· + 1) (ArgsOk.length t)
theorem ArgsOk.get {K : PySem.W.Frag} {F H : Hp} : ∀ {vs : List V} {ss : List Sl} {i : Nat} {s : Sl}, ArgsOk K F H vs ss → ss[i]? = some s → ∃ v, vs[i]? = some v ∧ ArgOk K F H v s
  | _, _, _, _, .nil, e => by simp at e
  | _, _, 0, _, .cons r _, e => by simp at e; subst e; exact ⟨_, rfl, r⟩
  | _, _, i + 1, d, .cons _ t, e => by
    obtain ⟨v, h1, h2⟩ := ArgsOk.get (i := i) (s := d) t (by simpa using e)
    exact ⟨v, by simpa using h1, h2⟩
abbrev LFn := DEnv → Option (List Sl)
def EgOk (K : PySem.W.Frag) (ta : TA) (n : Nat) (f : LFn) : Prop := ∀ F0 H0 F ρ σ H Q ss, StF K F0 H0 F ρ σ H → f ρ = some ss → (∀ vs F' H', Grow F H F' H' → ArgsOk K F' H' vs ss → vs.length = n → Q vs H') → ta σ H Q
structure DG (X : Cx) (es : List Expr) (f : LFn) : Prop where
  ex : ∃ ta, PA X es ta ∧ EgOk X.K ta es.length f
def gNil : LFn := fun _ => some []
def gS (f : EFn) (r : LFn) : LFn := fun ρ => (f ρ).bind fun d => (r ρ).map (Sl.fz d :: ·)
def gW (f : EFn) (r : LFn) : LFn := fun ρ => match f ρ with | some (.list ds) => (r ρ).map (Sl.br ds :: ·) | _ => none
theorem dg_nil : DG X [] gNil := ⟨_, pa_nil, fun F0 H0 F ρ σ H Q ss S e q => by cases e; exact q [] F H (.refl S.gr.fh) .nil rfl⟩
theorem dg_s {es : List Expr} {fr : LFn} (ha : DEs X a fa) (hr : DG X es fr) (hs : starEach (a :: es) X.env = (false, eval a X.env) :: starEach es X.env := by rfl) : DG X (a :: es) (gS fa fr) := by
  obtain ⟨ta, pa, ha⟩ := ha.ex
  obtain ⟨tr, pr, hr⟩ := hr.ex
  refine ⟨_, pa_cons pa pr hs, fun F0 H0 F ρ σ H Q ss S e q => ?_⟩
  obtain ⟨d, e1, e2⟩ := Option.bind_eq_some_iff.mp e
  obtain ⟨ss', e3, e4⟩ := Option.map_eq_some_iff.mp e2
  subst e4
  refine ha F0 H0 F ρ σ H _ d S e1 fun v F1 H1 g r => ?_
  refine hr F0 H0 F1 ρ σ H1 _ ss' (S.grow g) e3 fun vs F2 H2 g2 r2 hl => ?_
  exact q (v :: vs) F2 H2 (g.trans g2) (.cons (ArgOk.grow (s := .fz d) r g2) r2) (congrArg (· + 1) hl)
theorem dg_w {es : List Expr} {fr : LFn} (ha : DEw X a fa) (hr : DG X es fr) (hs : starEach (a :: es) X.env = (false, eval a X.env) :: starEach es X.env := by rfl) : DG X (a :: es) (gW fa fr) := by
  obtain ⟨ta, pa, ha⟩ := ha.ex
  obtain ⟨tr, pr, hr⟩ := hr.ex
  refine ⟨_, pa_cons pa pr hs, fun F0 H0 F ρ σ H Q ss S e q => ?_⟩
  unfold gW at e
  cases h1 : fa ρ with
  | none => rw [h1] at e; cases e
  | some x =>
    rw [h1] at e
    cases x <;> first | (cases e; done) | skip
    rename_i ds
    obtain ⟨ss', e3, e4⟩ := Option.map_eq_some_iff.mp (show (fr ρ).map (Sl.br ds :: ·) = some ss from e)
    subst e4
    refine ha F0 H0 F ρ σ H _ _ S h1 fun v F1 H1 g r => ?_
    refine hr F0 H0 F1 ρ σ H1 _ ss' (S.grow g) e3 fun vs F2 H2 g2 r2 hl => ?_
    exact q (v :: vs) F2 H2 (g.trans g2) (.cons (ArgOk.grow (s := .br ds) (r.list g.fh) g2) r2) (congrArg (· + 1) hl)
/-- what a def with the body b (m names beside its parameters) comes to -/
def FinOk (K : PySem.W.Frag) (F H : Hp) (Q : VK) (EX : EXX) : Out → Prop
  | .rt d => ∀ v F' H', Grow F H F' H' → Rp K F' v d → Q v H'
  | .nx _ => ∀ F' H', Grow F H F' H' → Q .non H'
  | .rs x => EX x H
  | _ => False
/-- the two errors of the text -/
def exx (CL CN : Addr) (E : XK) : EXX := fun x H => match x with
  | .late k => ∀ d H', Same H H' → H d = none → H' d = some (.xd [(("rope" : Str), .int k)]) → E (.ref CL) (some d) H'
  | .noplan => ∀ H', Same H H' → E (.ref CN) none H'
def spD (K : PySem.W.Frag) (CL CN : Addr) (n m : Nat) (b : Nat → SFn) : Sp := fun vs H Q E => vs.length = n ∧ ∃ F ss fuel, Same F H ∧ ArgsOk K F H vs ss ∧ FinOk K F H Q (exx CL CN E) (b fuel (ss ++ List.replicate m .un))
def eCall (b : SFn) (m : Nat) (fg : LFn) : EFn := fun ρ => (fg ρ).bind fun ss => match b (ss ++ List.replicate m .un) with
  | .rt d => some d
  | .nx _ => some .none
  | _ => none
theorem eCall_some {b : SFn} {m : Nat} {fg : LFn} {ρ : DEnv} {d : PyData} (e : eCall b m fg ρ = some d) : ∃ ss, fg ρ = some ss ∧ ((b (ss ++ List.replicate m .un) = .rt d) ∨ ∃ ρ', b (ss ++ List.replicate m .un) = .nx ρ' ∧ d = .none) := by
  obtain ⟨ss, e1, e2⟩ := Option.bind_eq_some_iff.mp e
  refine ⟨ss, e1, ?_⟩
  cases h : b (ss ++ List.replicate m .un) with
  | rt d' => simp only [h] at e2; cases e2; exact .inl rfl
  | nx ρ' => simp only [h] at e2; cases e2; exact .inr ⟨ρ', rfl, rfl⟩
  | _ => simp only [h] at e2; cases e2
section
variable {CX : CXT} {k : Nat} {g : Addr} {fd : FuncData} {ps : List Str} {CL CN : Addr} {n m : Nat} {bd : Nat → SFn} {fg : LFn} {es : List Expr}
/-- a call that raises nothing -/
theorem de_call (fuel : Nat) (G : FnOk X.prog X.w X.K X.mg X.base CX k g fd ps (spD X.K CL CN n m bd)) (hr : Room k X.A) (hm : X.mg x = some (.ref g)) (hk : PySem.W.keepIn X.K (.ref g) = true) (hb : Binds X.K fd ps []) (hx : Passes CX X E0)
    (ha : DG X (a :: es) fg) (hn : (a :: es).length = n := by rfl) (hg : Gl X x := by rfl) (hdb : (x == ("__debug__" : Str)) = false := by decide)
    (he : starEach (a :: es) X.env = (false, eval a X.env) :: starEach es X.env := by rfl) (hpl : (backTo pos (starEach es X.env)).any (·.1) = false := by rfl) :
    DEs X (.Call (.Name x p) (a :: es) [] pos) (eCall (bd fuel) m fg) := by
  obtain ⟨ta, pa, ha⟩ := ha.ex
  refine ⟨_, pe_call G hr hg hm hk hb .nil hx pa hdb he hpl, fun F0 H0 F ρ σ H Q d S e q => ?_⟩
  obtain ⟨ss, e1, e2⟩ := eCall_some e
  refine ha F0 H0 F ρ σ H _ ss S e1 fun vs F1 H1 g1 r1 hl => ?_
  show spD X.K CL CN n m bd (vs ++ []) H1 Q E0
  rw [List.append_nil]
  refine ⟨hl.trans hn, F1, ss, fuel, g1.fh, r1, ?_⟩
  rcases e2 with e2 | ⟨ρ', e2, rfl⟩
  · rw [e2]; exact fun v F' H' g2 r2 => q v F' H' (g1.trans g2) r2
  · rw [e2]; exact fun F' H' g2 => q _ F' H' (g1.trans g2) .non
end
end
end L2.RC

namespace L2.RC
open PySem PySem.Spec PyProof.Rows
/-! ### a def keeps its promise -/
theorem start_ok {K : PySem.W.Frag} {F H : Hp} {N : List Str} {vs : List V} {ss : List Sl} {n : Nat} (s : Same F H) (r : ArgsOk K F H vs ss) (hl : vs.length = n) (hn : n ≤ N.length) :
    StF K F H F (ss ++ List.replicate (N.length - n) .un) (start N vs) H := by
  have hls := r.length
  refine ⟨.refl s, fun i x e => ?_, fun i j a ds es h1 _ _ _ => ?_, ?_⟩
  · by_cases hi : i < ss.length
    · rw [List.getElem?_append_left hi] at e
      obtain ⟨v, h1, h2⟩ := r.get e
      have hs : (start N vs)[i]? = some (some v) := by
        unfold start
        rw [List.getElem?_append_left (by rw [List.length_map]; omega), List.getElem?_map, h1]
        rfl
      rw [hs]
      cases x with
      | un => trivial
      | fz d => exact ⟨v, rfl, h2⟩
      | ow ds => exact h2.elim
      | br ds => obtain ⟨a, ws, rfl, h3, h4⟩ := h2; exact ⟨a, ws, rfl, h3, h4⟩
    · rw [List.getElem?_append_right (by omega), List.getElem?_replicate] at e
      split at e
      · cases e; trivial
      · cases e
  · by_cases hi : i < ss.length
    · rw [List.getElem?_append_left hi] at h1
      obtain ⟨v, _, h2⟩ := r.get h1
      exact h2.elim
    · rw [List.getElem?_append_right (by omega), List.getElem?_replicate] at h1
      split at h1 <;> cases h1
  · unfold start
    rw [List.length_append, List.length_append, List.length_map, List.length_replicate, List.length_replicate]
    omega
theorem fin_out {K : PySem.W.Frag} {F H : Hp} {Q : VK} {EX : EXX} {o : Out} (h : FinOk K F H Q EX o) : OutOk K F H { nx := fun _ H' => Q .non H', rt := Q } EX o := by
  cases o with
  | nx ρ => exact fun F' σ' H' S => h F' H' S.gr
  | rt d => exact h
  | rs x => exact h
  | bk ρ => exact h.elim
  | ct ρ => exact h.elim
  | no => exact h.elim
structure DefAt (K : PySem.W.Frag) (mg : Str → Option Value) (x : Str) (st : Stmt) (f : Addr) (fd : FuncData) : Prop where
  F : Fun K x x st f fd
  g : mg x = some (.ref f)
section
variable {P : Program} {w : World} {K : PySem.W.Frag} {mg : Str → Option Value} {base : Heap} {CL CN : Addr}
theorem scope_le {N ps : List Str} {sc : Scope} (S : FnScope N ps sc) : ps.length ≤ N.length := by
  have := congrArg List.length S.pre
  rw [List.length_take] at this
  omega
theorem mk_ok {x qual : Str} {st : Stmt} {f : Addr} {fd : FuncData} {N ps : List Str} {k : Nat} {b : Nat → SFn} (F : Fun K x qual st f fd) (S : FnScope N ps (defScope st))
    (hb : ∀ (cdv : Value) (A : Around) (outer : List Env) (s : Shared) (H : Hp) (E : XK), Room k (A.deeper (envOfC qual (defScope st) s.heap.objs.size f cdv)) → ∀ n, DSs (cxOf CX0 P w K mg base N qual (defScope st) f cdv A outer s H E).nox (exx CL CN E) (defBody st) (b n)) :
    FnOk P w K mg base CX0 (k + 1) f fd ps (spD K CL CN ps.length (N.length - ps.length) b) := by
  refine F.ok S (fun vs H Q E h => h.1) fun cdv A outer s H vs Q E hr h => ?_
  obtain ⟨hl, F, ss, fuel, sF, ra, fin⟩ := h
  obtain ⟨t, pt, ht⟩ := (hb cdv A outer s H E hr fuel).ex
  exact ⟨t, pt, ht F H F _ _ H _ (start_ok sF ra hl (scope_le S)) (fin_out fin)⟩
/-- .. that may raise -/
theorem mk_okX {x qual : Str} {st : Stmt} {f : Addr} {fd : FuncData} {N ps : List Str} {k : Nat} {b : Nat → SFn} (F : Fun K x qual st f fd) (S : FnScope N ps (defScope st))
    (hb : ∀ (cdv : Value) (A : Around) (outer : List Env) (s : Shared) (H : Hp) (E : XK), Room k (A.deeper (envOfC qual (defScope st) s.heap.objs.size f cdv)) → ∀ n, DSs (cxOf (L2.CX P w) P w K mg base N qual (defScope st) f cdv A outer s H E) (exx CL CN E) (defBody st) (b n)) :
    FnOk P w K mg base (L2.CX P w) (k + 1) f fd ps (spD K CL CN ps.length (N.length - ps.length) b) := by
  refine F.okX S (fun vs H Q E h => h.1) fun cdv A outer s H vs Q E hr h => ?_
  obtain ⟨hl, F, ss, fuel, sF, ra, fin⟩ := h
  obtain ⟨t, pt, ht⟩ := (hb cdv A outer s H E hr fuel).ex
  exact ⟨t, pt, ht F H F _ _ H _ (start_ok sF ra hl (scope_le S)) (fin_out fin)⟩
end
/-- the law's own promise, where its body comes to True at every script -/
theorem law_sp {K : PySem.W.Frag} {CL CN : Addr} {m : Nat} {b : Nat → SFn} {H : Hp} {a : Addr} {ns : List Int} {Q : VK} {E : XK} (hS : SqL K H a (ns.map V.int)) (h : ∃ n, b n (Sl.br (ns.map .int) :: List.replicate m .un) = .rt (.bool true)) (q : ∀ H', Q (.bl true) H') :
    spD K CL CN 1 m b [.ref a] H Q E := by
  obtain ⟨n, h⟩ := h
  refine ⟨rfl, fun _ => none, [Sl.br (ns.map .int)], n, fun _ _ z => (by cases z), .cons ⟨a, _, rfl, hS, rpAll_ints ns⟩ .nil, ?_⟩
  show FinOk _ _ _ _ _ (b n (Sl.br (ns.map .int) :: List.replicate m .un))
  rw [h]
  intro v F' H' g r
  cases r
  exact q H'
end L2.RC

namespace PySem
namespace LateX
open PySem.W PySem.Calls PyProof.Rows PySem.HandSPX
/-! ### the text of __init__ -/
def iA (p1 p2 : Pos) : Arguments := { posonlyargs := [], args := [{ arg := "self", annotation := none, pos := p1 }, { arg := "rope", annotation := none, pos := p2 }], vararg := none, kwonlyargs := [], kw_defaults := [], kwarg := none, defaults := [] }
def iB (q1 q2 q3 q4 : Pos) : List Stmt := [.Assign [.Attribute (.Name "self" q1) "rope" q2] (.Name "rope" q3) q4]
def iS : Scope := { kind := .function, names := [(PySem.Str.ofString "self", .local), (PySem.Str.ofString "rope", .local)], isGenerator := false, isCoroutine := false, more := [] }
/-- what the written part says of Low, at C, and of its __init__, at fI -/
structure LateTxt (K : Frag) (mg : Str → Option Value) (C fI : Addr) : Prop where
  gC : mg "Late" = some (.ref C)
  cls : ∃ nm q N bs bm sn sub ab col dd k0 k1 k2 k3 k5, K.lookup C = some (excClassObj nm q C N bs bm true sn sub ab col dd k0 k1 k2 k3 k5 "ValueError.__new__") ∧ refsVE bm = true
  sa : findIn K (.ref C) "__setattr__" = some (some (.builtin "object.__setattr__"))
  ga : findIn K (.ref C) "__getattribute__" = some (some (.builtin "BaseException.__getattribute__"))
  gg : findIn K (.ref C) "__getattr__" = some none
  noN : findIn K (.ref C) "rope" = some none
  iC : findIn K (.ref C) "__init__" = some (some (.ref fI))
  tC : typeIn K (.ref fI) = some (.type "function")
  kC : keepIn K (.ref C) = true
  exC : subIn K (.ref C) (.type "BaseException") = some true
  tyC : typeIn K (.ref C) = some (.type "type")
  hdC : hasDictIn K C = true
  te : exmOne K (.ref C) (.ref C) = some true
  fn : ∃ (oc : Value) (od : Option Addr) (doc pm : Value) (an : Option Addr) (cdv ct : Value) (osl : Array (Option Value)) (p1 p2 q1 q2 q3 q4 : Pos),
    K.lookup fI = some ⟨oc, od, .func (fnOf "__init__" "Late.__init__" (iA p1 p2) (iB q1 q2 q3 q4) iS .none .none doc pm an cdv ct), osl⟩ ∧ codeIn K cdv "Late.__init__" = true
theorem one_size (v : Value) : [v].length ≤ sizeLine := by
  rw [sizeLine_eq]
  exact (by decide : 1 ≤ 16777216)
theorem kept_but {K : Frag} {h h' : Heap} {x : Addr} (X : K.In h) (hx : K.lookup x = none) (k : ∀ b o, b ≠ x → h.get? b = some o → h'.get? b = some o) : K.In h' := fun a o e =>
  k a o (fun z => by rw [z, hx] at e; cases e) (X a o e)
theorem ldC {M : Model} {s : Shared} {name : Str} {scope : Scope} {L a : Addr} {cd : Value} {m : Str → Option Value} {x : Str} {pos : Pos} {v : Value} {Q : Value → Shared → Prop} {A : Around} {E : Value → Shared → Prop} (hn : s.heap.Ns L m) (hv : m x = some v) (h : Q v s)
    (hk : scope.kind = .function := by rfl) (hl : (envOfC name scope L a cd).kindOf x = some .local := by rfl) (hd : (x == ("__debug__" : Str)) = false := by decide) :
    wpAny M A (eval (.Name x pos) (envOfC name scope L a cd)) Q E s := wpAny_Name (wpAny_loadName_local hk hl hn hv h) hd
/-- what __init__ leaves of a fresh exception at x -/
structure InitEnd (h h' : Heap) (x C dx t1 : Addr) (v : Value) : Prop where
  keep : ∀ b o, b ≠ x → h.get? b = some o → h'.get? b = some o
  obj : h'.get? x = some { cls := .ref C, dict := some dx, data := .fields #[.ref t1, .none, .none, .none, .bool false, .none] }
  dbig : h.objs.size ≤ dx
  dne : dx ≠ x
  ns : h'.Ns1 dx (fun y => if y = "rope" then some v else none)
/-- a made Low -/
structure OwnMade (h h' : Heap) (e C d : Addr) (v : Value) : Prop where
  keep : ∀ b o, h.get? b = some o → h'.get? b = some o
  new : h.objs.size ≤ e
  obj : ∃ oe vs, h'.get? e = some oe ∧ oe.cls = .ref C ∧ oe.dict = some d ∧ oe.data = .fields vs ∧ vs[1]? = some .none
  dbig : h.objs.size ≤ d
  dne : d ≠ e
  ns : h'.Ns1 d (fun y => if y = "rope" then some v else none)
section
variable {prog : Program} {w : World} {A : Around} {E : Value → Shared → Prop} {R : Result → Shared → Prop} {s : Shared} {K : Frag} {mg : Str → Option Value} {C fI : Addr}
theorem late_init (T : LateTxt K mg C fI) {x t0 : Addr} {v : Value} (X : K.In s.heap) (hlim : s.heap.NoLimit) (hx : s.heap.get? x = some (excO C t0)) (hnx : K.lookup x = none) (hroom : A.depth < recursionLimit)
    (hq : ∀ h' tk dx, InitEnd s.heap h' x C dx t0 v → R (.ok (.ret .none)) { s with heap := h', toks := tk }) :
    codeAny (model prog w) A (.call (.ref fI) ⟨[.ref x, v], []⟩) R s := by
  obtain ⟨oc, od, doc, pm, an, cdv, ct, osl, p1, p2, q1, q2, q3, q4, ho, hcd⟩ := T.fn
  obtain ⟨nm, q, N, bs, bm, sn, sub, ab, col, dd, k0, k1, k2, k3, k5, hC, hbm⟩ := T.cls
  have hcl : clsIn K C = some { name := nm, bases := bs, mro := .ref C :: bm, ns := N, qualname := q, hasDict := true, slotNames := sn, subclasses := sub, abstract := ab, collection := col, hasDel := false } := by unfold clsIn; rw [hC] <;> rfl
  refine Att.call_fn (binds := [("self", .ref x), ("rope", v)]) X hlim ho hcd hroom (BindsTo.of_eq (by first | rfl | with_unfolding_all rfl)) (by first | rfl | decide | with_unfolding_all rfl) (fun s₁ IC => ?_) rfl rfl rfl
  obtain ⟨h₁, tk₁, rfl⟩ := IC.toInCall.same
  have k : ∀ b o, s.heap.get? b = some o → h₁.get? b = some o := IC.toInCall.keep
  have hn := IC.toInCall.ns
  have hxL : s.heap.objs.size ≠ x := Nat.ne_of_gt (Heap.lt_size hx)
  have X₁ : K.In h₁ := X.keeps k
  have hx₁ := k _ _ hx
  -- self.by = by
  show wpAny _ _ (execs _ _) _ _ _
  refine wpAny_execs_cons (plainObj_wpAny_Assign_Attribute ?_)
  refine ldC (v := v) hn (by first | rfl | with_unfolding_all rfl | kernel_rfl) (ldC (v := .ref x) hn (by first | rfl | with_unfolding_all rfl | kernel_rfl) ?_)
  refine set_plain X₁ (ox := excO C t0) (od := none) ⟨hx₁, rfl, rfl, trivial⟩ T.sa ?_
  refine exc_osa X₁ hx₁ hcl (show refsVE (.ref C :: bm) = true from hbm) rfl T.noN (fun h₃ tk₃ dx k₃ dn dne hx₃ hn₃ => ?_)
  show wpAny _ _ (execs _ _) _ _ _
  have z : s.heap.objs.size < h₁.objs.size := hn.lt
  exact wpAny_execs_nil (hq h₃ tk₃ dx ⟨fun b o hb e => k₃ b o hb (k b o e), hx₃, Nat.le_of_lt (Nat.lt_of_lt_of_le z dn), dne, hn₃⟩)
theorem late_made (T : LateTxt K mg C fI) {v : Value} (X : K.In s.heap) (hlim : s.heap.NoLimit) (hroom : A.depth + 1 < recursionLimit)
    (hq : ∀ h' tk e d, OwnMade s.heap h' e C d v → R (.ok (.ret (.ref e))) { s with heap := h', toks := tk }) :
    codeAny (model prog w) A (.call (.ref C) ⟨[v], []⟩) R s := by
  obtain ⟨nm, q, N, bs, bm, sn, sub, ab, col, dd, k0, k1, k2, k3, k5, hC, hbm⟩ := T.cls
  obtain ⟨hp, g, dr, tk, os⟩ := s
  have k : ∀ b o, hp.get? b = some o → ((hp.push (kdv_tup [v])).push (excO C hp.objs.size)).get? b = some o := fun b o e => Heap.get?_push_of_some _ (Heap.get?_push_of_some _ e)
  have hget : ((hp.push (kdv_tup [v])).push (excO C hp.objs.size)).get? (hp.objs.size + 1) = some (excO C hp.objs.size) := by heap_get
  have hnx : K.lookup (hp.objs.size + 1) = none := by
    cases e : K.lookup (hp.objs.size + 1) with
    | none => rfl
    | some o =>
      have z : hp.get? (hp.objs.size + 1) = some o := X _ _ e
      exact absurd (Nat.lt_of_succ_lt (Heap.lt_size z)) (Nat.lt_irrefl _)
  refine call_own F.excBase_ValueError (fun X => refsVE_contains X bm hbm) (X _ _ hC) (looks_findIn X T.iC) (fun self => bind_fn X self T.tC) (one_size v) ?_
  refine late_init (s := ⟨(hp.push (kdv_tup [v])).push (excO C hp.objs.size), g, dr, tk, os⟩) T (X.keeps k) (hlim.keeps k) hget hnx ?_ fun h' tk' dx ⟨k', hx, dn, dne, hns⟩ => ?_
  · show A.depth + 1 < recursionLimit
    exact hroom
  · have old : ∀ b o, hp.get? b = some o → h'.get? b = some o := fun b o e => k' b o (Nat.ne_of_lt (Nat.lt_succ_of_lt (Heap.lt_size e))) (k b o e)
    have z : hp.objs.size + 1 + 1 ≤ dx := by
      first
        | (simpa only [Heap.size_push] using dn)
        | exact dn
        | (have q := dn; rw [Heap.size_push, Heap.size_push] at q; exact q)
    exact ⟨rfl, hq h' tk' (hp.objs.size + 1) dx ⟨old, Nat.le_succ _, ⟨_, _, hx, rfl, rfl, rfl, rfl⟩, Nat.le_trans (Nat.le_trans (Nat.le_succ _) (Nat.le_succ _)) z, dne, hns⟩⟩
end
end LateX
end PySem
namespace L2
open PySem PySem.Spec PyProof.Rows
theorem relO_late {v : V} {v' : Value} (r : RelV v v') (f : Str) : RelO (List.lookup f [(("rope" : Str), v)]) (if f = "rope" then some v' else none) := by
  by_cases hw : f = "rope"
  · subst hw
    rw [if_pos rfl]
    have q : List.lookup ("rope" : Str) [(("rope" : Str), v)] = some v := by simp [List.lookup]
    rw [q]
    exact r
  · rw [if_neg hw]
    have qw : (f == ("rope" : Str)) = false := by simpa using hw
    have q2 : List.lookup f [(("rope" : Str), v)] = none := by simp [List.lookup, qw]
    rw [q2]
    trivial
section
variable {X : Cx} {C fI : Addr}
/-- Late(e) -/
def tMkLate (C : Addr) (ta : TA) : St → Hp → XK → Prop := fun σ H Q => ta σ H fun vs H1 => ∃ v, vs = [v] ∧ ∀ d, H1 d = none → Q (.ref C) (some d) (upd H1 d (.xd [(("rope" : Str), v)]))
theorem pmk_late {a : Expr} {ta : TA} {p pos : Pos} {k : Nat} (T : PySem.LateX.LateTxt X.K X.mg C fI) (hr : Room k X.A) (ha : PA X [a] ta) (hg : Gl X "Late" := by rfl)
    (he : starEach (a :: []) X.env = (false, eval a X.env) :: starEach [] X.env := by rfl) (hpl : (backTo pos (starEach [] X.env)).any (·.1) = false := by rfl) :
    PMk X (.Call (.Name "Late" p) [a] [] pos) (tMkLate C ta) := by
  intro pins s σ H Q I h
  refine wpAny_Call_Name_kw (ld_glob I hg T.gC ?_)
  refine PySem.W.callWith_K (h₀ := X.base) I.ok.mod.kin T.kC (thn (ha.run pos pins s σ H _ I h) fun us s1 hh => ?_) he hpl
  obtain ⟨vs, H1, I1, r1, v, ev, q1⟩ := hh
  subst ev
  refine ⟨I1.kIn, ?_⟩
  cases r1 with
  | cons rv rn =>
    rename_i v' us'
    cases rn
    show wpAny _ _ (call (.ref C) [v']) _ _ _
    have hlim := I1.nolimit
    obtain ⟨hp, g, dr, tk, os⟩ := s1
    refine wpAny_call (PySem.LateX.late_made T I1.kIn hlim (by have := hr.dp; omega) fun h' tk' e d M => ?_)
    show MkP X pins σ Q (.ref e) ⟨h', g, dr, tk', os⟩
    obtain ⟨oe, fv, hoe, hc, hd, hdat, h1⟩ := M.obj
    have hns := M.ns
    obtain ⟨G', g1, g2⟩ := restrict h' fun b => decide (b ≠ e)
    have gk : ∀ b, b ≠ e → G'.get? b = h'.get? b := fun b hb => g1 b (decide_eq_true hb)
    have ge : G'.get? e = none := g2 e (by simp)
    have old : ∀ b o, hp.get? b = some o → G'.get? b = some o := fun b o q => (gk b (Nat.ne_of_lt (Nat.lt_of_lt_of_le (Heap.lt_size q) M.new))).trans (M.keep b o q)
    have ob : ObjOk X.prog X.w (upd H1 d (.xd [(("rope" : Str), v)])) G' d (.xd [(("rope" : Str), v)]) :=
      ⟨_, hns.at (fun o q => (gk d M.dne).trans q), fun f => relO_late rv f⟩
    have J : Inv X pins σ (upd H1 d (.xd [(("rope" : Str), v)])) ⟨G', g, dr, tk', os⟩ := I1.laid (t' := tk') old M.dbig ob
    refine ⟨e, oe, fv, ⟨G', g, dr, tk', os⟩, _, .ref C, some d, rfl, J, fun b o q => ?_, ge, hoe, ⟨hc, hd⟩, hdat, h1, ?_, rfl, I1.bare, raises_own T.exC T.tyC, q1 d (I1.hok.fresh M.dbig)⟩
    · by_cases hb : b = e
      · have q' : G'.get? b = some o := q
        rw [hb, ge] at q'; cases q'
      · exact (gk b hb).symm.trans q
    · rw [upd_ne (Ne.symm M.dne)]
      exact I1.hok.fresh M.new
/-- raise Late(e) -/
def tRaiseLate (C : Addr) (W : WX) (ta : TA) : TS := fun _ σ H => tMkLate C ta σ H fun cls d H' => W cls d σ H'
theorem ps_raiseLate {a : Expr} {ta : TA} {W : WX} {p pos pos2 : Pos} {k : Nat} (hc : X.calm = true) (T : PySem.LateX.LateTxt X.K X.mg C fI) (hr : Room k X.A) (tk : Takes X W) (ha : PA X [a] ta) (hg : Gl X "Late" := by rfl)
    (he : starEach (a :: []) X.env = (false, eval a X.env) :: starEach [] X.env := by rfl) (hpl : (backTo pos (starEach [] X.env)).any (·.1) = false := by rfl) :
    PS X (.Raise (some (.Call (.Name "Late" p) [a] [] pos)) none pos2) (tRaiseLate C W ta) := ps_raise hc tk (pmk_late T hr ha hg he hpl)
/-- low.by, low the exception that the suite holds (at a; its class cls, its dict d) -/
def tByLate (C : Addr) (a : Addr) (cls : Value) (d : Option Addr) (te : TE) : TE := fun σ H Q => te σ H fun x H1 => x = .ref a ∧ cls = .ref C ∧ ∃ (dd : Addr) (v : V), d = some dd ∧ H1 dd = some (.xd [(("rope" : Str), v)]) ∧ Q v H1
theorem pe_byLate {a : Addr} {oe : Obj} {cls : Value} {d : Option Addr} {pn : List (Addr × Obj)} {e : Expr} {te : TE} {pos : Pos} (T : PySem.LateX.LateTxt X.K X.mg C fI) (hz : Zc cls d oe) (hf : ∃ vs, oe.data = .fields vs) (he : PE (X.suite a ((a, oe) :: pn)) e te)
    (hb : attributeBase e "rope" X.env (eval e X.env) = eval e X.env := by rfl) :
    PE (X.suite a ((a, oe) :: pn)) (.Attribute e "rope" pos) (tByLate C a cls d te) := by
  refine ⟨fun pins s σ H Q I h => ?_⟩
  refine attr_of hb (thn (he.run pins s σ H _ I h) fun u s1 hh => ?_)
  obtain ⟨x, H1, I1, rx, ex, ec, dd, v, ed, ea, q⟩ := hh
  subst ex
  obtain rfl : u = Value.ref a := rx
  subst ec
  subst ed
  obtain ⟨ha, _⟩ := I1.pin (a, oe) (List.mem_append_left _ List.mem_cons_self)
  obtain ⟨vs, hd⟩ := hf
  have hx : ObjOk X.prog X.w H1 s1.heap dd (.xd [(("rope" : Str), v)]) := I1.hok dd _ ea
  obtain ⟨mA, hns, hr⟩ := hx
  obtain ⟨od, ho, hl⟩ := lookIn_ns hns
  have l : List.lookup ("rope" : Str) [(("rope" : Str), v)] = some v := by simp [List.lookup]
  obtain ⟨u, hu, ru⟩ := RelO.some_of (v := v) (o := mA "rope") (by rw [← l]; exact hr "rope")
  have J : PySem.W.InstAt s1.heap a oe C (some od) := ⟨ha, hz.1, by unfold PySem.W.notCls; rw [hd] <;> rfl, by rw [hz.2]; exact ho⟩
  exact HandSPX.exc_get I1.kIn J T.ga T.gg T.exC (PySem.W.findObj_own T.hdC T.noN rfl (by rw [hl, hu])) (handed_of ru) ⟨v, H1, I1.tok _, ru, q⟩
end
end L2

namespace L2.RC
open PySem PySem.Spec PyProof.Rows
section
variable {X : Cx} {E : XK} {e a : Expr} {pos pos2 p : Pos} {f fa : EFn} {CL CN fI : Addr} {k : Nat} {x : Str}
/-! ### errors raised -/
abbrev toE (E : XK) : WX := fun cls d _ H => E cls d H
theorem exx_mono {H H1 : Hp} {y : Ex} (h : exx CL CN E y H) (s : Same H H1) : exx CL CN E y H1 := by
  cases y with
  | late j => exact fun d H' s' n e => h d H' (s.trans s') (s.free n) e
  | noplan => exact fun H' s' => h H' (s.trans s')
def sLate (f : EFn) : SFn := fun ρ => match f ρ with | some (.int j) => .rs (.late j) | _ => .no
theorem ds_late (T : PySem.LateX.LateTxt X.K X.mg CL fI) (hr : Room k X.A) (tk : Takes X (toE E)) (h : DEs X a f) (hc : X.calm = true := by rfl) (hg : Gl X "Late" := by rfl)
    (he : starEach (a :: []) X.env = (false, eval a X.env) :: starEach [] X.env := by rfl) (hpl : (backTo pos (starEach [] X.env)).any (·.1) = false := by rfl) :
    DS X (exx CL CN E) (.Raise (some (.Call (.Name "Late" p) [a] [] pos)) none pos2) (sLate f) := by
  obtain ⟨te, pe, h⟩ := h.ex
  refine ⟨_, ps_raiseLate hc T hr tk (pa_cons pe pa_nil he) hg he hpl, fun F0 H0 F ρ σ H D S q => ?_⟩
  unfold sLate at q
  cases e1 : f ρ with
  | none => rw [e1] at q; exact q.elim
  | some d =>
    rw [e1] at q
    cases d <;> first | (exact q.elim) | skip
    rename_i j
    refine h F0 H0 F ρ σ H _ _ S e1 fun v F1 H1 g r => ?_
    cases r
    have g0 := S.gr.trans g
    exact ⟨_, rfl, fun d hd => q d _ (g0.hh.trans (same_upd hd)) (g0.hh.free hd) upd_same⟩
/-- what the written part says of an own error class without an __init__ of its own -/
structure NoPl (K : PySem.W.Frag) (mg : Str → Option Value) (x : Str) (C : Addr) : Prop where
  g : mg x = some (.ref C)
  x : PySem.W.excIn K C [.type "ValueError", .type "Exception", .type "BaseException", .type "object"] "ValueError.__new__" = true
  k : PySem.W.keepIn K (.ref C) = true
  b : PySem.W.subIn K (.ref C) (.type "BaseException") = some true
  t : PySem.W.typeIn K (.ref C) = some (.type "type")
def sNoPlan : SFn := fun _ => .rs .noplan
theorem ds_noplan {m : Str} {j : Nat} {p2 : Pos} (T : NoPl X.K X.mg x CN) (tk : Takes X (toE E)) (hc : X.calm = true := by rfl) (hg : Gl X x := by rfl) (hdb : (x == ("__debug__" : Str)) = false := by decide) :
    DS X (exx CL CN E) (.Raise (some (.Call (.Name x p) [.Constant (.str m) j p2] [] pos)) none pos2) sNoPlan := by
  refine ⟨_, ps_raise hc tk (pmk_own PySem.F.excBase_ValueError T.x T.g T.k (raises_own T.b T.t) hg hdb), fun F0 H0 F ρ σ H D S q => ?_⟩
  exact q H S.gr.hh
/-- x = f(..), where f may raise -/
def sSetX (i : Nat) (b : SFn) (m : Nat) (fg : LFn) : SFn := fun ρ => match fg ρ with
  | some ss => (match b (ss ++ List.replicate m .un) with
    | .rt d => .nx (ρ.set i (.fz d))
    | .nx _ => .nx (ρ.set i (.fz .none))
    | .rs y => .rs y
    | _ => .no)
  | none => .no
theorem ds_setX (i : Nat) {g : Addr} {fd : FuncData} {ps : List Str} {n m : Nat} {bd : Nat → SFn} {fg : LFn} {es : List Expr} {y : Str} {pos' : Pos} (fuel : Nat) (G : FnOk X.prog X.w X.K X.mg X.base (L2.CX X.prog X.w) k g fd ps (spD X.K CL CN n m bd)) (hr : Room k X.A) (hm : X.mg x = some (.ref g))
    (hk : PySem.W.keepIn X.K (.ref g) = true) (hb : Binds X.K fd ps []) (tk : Takes X (toE E)) (ha : DG X (a :: es) fg) (hN : X.N.Nodup) (hn : (a :: es).length = n := by rfl) (hg : Gl X x := by rfl) (hdb : (x == ("__debug__" : Str)) = false := by decide)
    (he : starEach (a :: es) X.env = (false, eval a X.env) :: starEach es X.env := by rfl) (hpl : (backTo pos (starEach es X.env)).any (·.1) = false := by rfl)
    (hi : X.N[i]? = some y := by rfl) (hx : Loc X.env.scope y := by first | exact Or.inl rfl | exact Or.inr rfl) (hs : swapsWith (.Call (.Name x p) (a :: es) [] pos) (some (.Name y pos')) pos2.line X.env = pure false := by rfl)
    (hf : X.fn y = true ∨ X.env.scope.names.lookup y = some .local := by first | exact .inl rfl | exact .inr rfl) :
    DS X (exx CL CN E) (.Assign [.Name y pos'] (.Call (.Name x p) (a :: es) [] pos) pos2) (sSetX i (bd fuel) m fg) := by
  obtain ⟨ta, pa, ha⟩ := ha.ex
  refine ⟨_, L2.ps_set hN hi hx (pe_call G hr hg hm hk hb .nil (passes_call tk (E := E) fun _ _ _ _ h => h) pa hdb he hpl) hs hf, fun F0 H0 F ρ σ H D S q => ?_⟩
  unfold sSetX at q
  cases e1 : fg ρ with
  | none => rw [e1] at q; exact q.elim
  | some ss =>
    simp only [e1] at q
    refine ha F0 H0 F ρ σ H _ ss S e1 fun vs F1 H1 g1 r1 hl => ?_
    show spD X.K CL CN n m bd (vs ++ []) H1 _ E
    rw [List.append_nil]
    refine ⟨hl.trans hn, F1, ss, fuel, g1.fh, r1, ?_⟩
    cases e2 : bd fuel (ss ++ List.replicate m .un) with
    | rt d => rw [e2] at q; exact fun v F' H' g2 r2 => q F' _ H' ((S.grow (g1.trans g2)).setZ r2)
    | nx ρ' => rw [e2] at q; exact fun F' H' g2 => q F' _ H' ((S.grow (g1.trans g2)).setZ .non)
    | rs y => rw [e2] at q; exact exx_mono q (S.gr.trans g1).hh
    | bk ρ' => rw [e2] at q; exact q.elim
    | ct ρ' => rw [e2] at q; exact q.elim
    | no => rw [e2] at q; exact q.elim
end
end L2.RC

namespace L2.RC
open PySem PySem.Spec PyProof.Rows
section
variable {K : PySem.W.Frag} {F0 H0 F H F1 H1 : Hp} {ρ : DEnv} {σ : St}
/-- a slot that nothing is known of may hold anything -/
theorem StF.any {j : Nat} {o : Option V} (S : StF K F0 H0 F ρ σ H) (h : ρ[j]? = some .un) : StF K F0 H0 F ρ (σ.set j o) H := by
  refine ⟨S.gr, fun i s e => ?_, fun i k a ds es h1 h2 h3 h4 => ?_, by rw [List.length_set, S.len]⟩
  · by_cases hij : j = i
    · subst hij
      rw [h] at e
      cases e
      trivial
    · rw [List.getElem?_set_ne hij]
      exact S.sl i s e
  · have n1 : j ≠ i := fun z => by rw [z, h1] at h; cases h
    have n2 : j ≠ k := fun z => by rw [z, h2] at h; cases h
    rw [List.getElem?_set_ne n1] at h3
    rw [List.getElem?_set_ne n2] at h4
    exact S.sep i k a ds es h1 h2 h3 h4
theorem Grow.more {F H H' : Hp} (s : Same F H) (g : Same H H') : Grow F H F H' := ⟨g, .refl _, s.trans g, fun _ _ _ => rfl⟩
end
section
variable {X : Cx} {EX : EXX} {E : XK} {e a : Expr} {pos pos2 pos3 pos4 p : Pos} {f fa : EFn} {CL CN fI : Addr} {k : Nat} {x : Str}
variable {g : Addr} {fd : FuncData} {ps : List Str} {n m : Nat} {bd : Nat → SFn} {fg : LFn} {es : List Expr} {y : Str} {pos' : Pos}
/-- what the call of a def that may raise asks, the error's way told by W -/
theorem callS_ok {K : PySem.W.Frag} {ta : TA} {W : WX} {F0 H0 F H : Hp} {ρ : DEnv} {σ : St} {Q : VK} {ss : List Sl} {b : SFn} (fuel : Nat) (hl : EgOk K ta n fg) (S : StF K F0 H0 F ρ σ H) (e1 : fg ρ = some ss) (hb : b = bd fuel)
    (h1 : ∀ d, b (ss ++ List.replicate m .un) = .rt d → ∀ v F' H', Grow F H F' H' → Rp K F' v d → Q v H')
    (h2 : ∀ ρ', b (ss ++ List.replicate m .un) = .nx ρ' → ∀ F' H', Grow F H F' H' → Q .non H')
    (h3 : ∀ j, b (ss ++ List.replicate m .un) = .rs (.late j) → ∀ d F' H', Grow F H F' H' → H' d = some (.xd [(("rope" : Str), .int j)]) → W (.ref CL) (some d) σ H')
    (h4 : b (ss ++ List.replicate m .un) = .rs .noplan → ∀ F' H', Grow F H F' H' → W (.ref CN) none σ H')
    (h5 : (∃ d, b (ss ++ List.replicate m .un) = .rt d) ∨ (∃ ρ', b (ss ++ List.replicate m .un) = .nx ρ') ∨ ∃ y, b (ss ++ List.replicate m .un) = .rs y) :
    tCallS (spD K CL CN n m bd) (WE W) ta σ H Q := by
  refine hl F0 H0 F ρ σ H _ ss S e1 fun vs F1 H1 g1 r1 hln => ?_
  refine ⟨hln, F1, ss, fuel, g1.fh, r1, ?_⟩
  rw [← hb]
  rcases h5 with ⟨d, h⟩ | ⟨ρ', h⟩ | ⟨y, h⟩
  · rw [h]; exact fun v F' H' g2 r2 => h1 d h v F' H' (g1.trans g2) r2
  · rw [h]; exact fun F' H' g2 => h2 ρ' h F' H' (g1.trans g2)
  · rw [h]
    cases y with
    | late j => exact fun d H' s' n' e' => h3 j h d F1 H' (g1.trans (.more g1.fh s')) e'
    | noplan => exact fun H' s' => h4 h F1 H' (g1.trans (.more g1.fh s'))
/-! ### try: x = f(..) except Late: return None -/
def sTryN (i : Nat) (b : SFn) (m : Nat) (fg : LFn) : SFn := fun ρ => match fg ρ with
  | some ss => (match b (ss ++ List.replicate m .un) with
    | .rt d => .nx (ρ.set i (.fz d))
    | .rs (.late _) => .rt .none
    | _ => .no)
  | none => .no
theorem ds_tryN (i : Nat) {np q : Pos} {j : Nat} (fuel : Nat) (T : PySem.LateX.LateTxt X.K X.mg CL fI) (G : FnOk X.prog X.w X.K X.mg X.base (L2.CX X.prog X.w) k g fd ps (spD X.K CL CN n m bd)) (hr : Room k X.A) (hm : X.mg x = some (.ref g))
    (hk : PySem.W.keepIn X.K (.ref g) = true) (hb : Binds X.K fd ps [])
    (ha : ∀ (pn : List (Addr × Obj)) (xe : Value → Shared → Prop), DG (X.tr pn xe) (a :: es) fg) (hN : X.N.Nodup) (hs0 : X.stack = X.env :: X.outer := by rfl) (hf0 : X.env.frame = some X.env.locals := by rfl) (hn : (a :: es).length = n := by rfl) (hg : Gl X x := by rfl) (hgL : Gl X "Late" := by rfl) (hdb : (x == ("__debug__" : Str)) = false := by decide)
    (he : starEach (a :: es) X.env = (false, eval a X.env) :: starEach es X.env := by rfl) (hpl : (backTo pos (starEach es X.env)).any (·.1) = false := by rfl)
    (hi : X.N[i]? = some y := by rfl) (hx : Loc X.env.scope y := by first | exact Or.inl rfl | exact Or.inr rfl) (hs : swapsWith (.Call (.Name x p) (a :: es) [] pos) (some (.Name y pos')) pos2.line X.env = pure false := by rfl)
    (hf : X.fn y = true ∨ X.env.scope.names.lookup y = some .local := by first | exact .inl rfl | exact .inr rfl) :
    DS X EX (.Try [.Assign [.Name y pos'] (.Call (.Name x p) (a :: es) [] pos) pos2] [.ExceptHandler (some (.Name "Late" np)) none [.Return (some (.Constant .none j q)) pos3] pos4] [] [] pos') (sTryN i (bd fuel) m fg) := by
  have hA : ∃ ta, (∀ (pn : List (Addr × Obj)) (xe : Value → Shared → Prop), PA (X.tr pn xe) (a :: es) ta) ∧ EgOk X.K ta (a :: es).length fg := by
    refine ⟨fun σ H Q => ∃ F0 H0 F ρ ss, StF X.K F0 H0 F ρ σ H ∧ fg ρ = some ss ∧ ∀ vs F' H', Grow F H F' H' → ArgsOk X.K F' H' vs ss → vs.length = (a :: es).length → Q vs H', fun pn xe => ?_, fun F0 H0 F ρ σ H Q ss S e q => ⟨F0, H0, F, ρ, ss, S, e, q⟩⟩
    obtain ⟨ta, pa, hta⟩ := (ha pn xe).ex
    exact ⟨fun pos pins s σ H Q I ⟨F0, H0, F, ρ, ss, S, e, q⟩ => pa.run pos pins s σ H Q I (hta F0 H0 F ρ σ H Q ss S e q)⟩
  obtain ⟨ta, pa, hta⟩ := hA
  rw [hn] at hta
  refine ⟨_, ps_try_only (tb := fun W => tAsg (tCallS (spD X.K CL CN n m bd) (WE W) ta) (gName i)) (ts := fun _ _ _ => tRet (tC .non)) (Wout := fun _ _ _ _ => False) (c := .ref CL) hs0 hf0 ⟨hgL, by decide, .inl T.gC⟩ takes0
    (fun W pn xe tk _ => pss_one (L2.ps_set (X := X.tr pn xe) hN hi hx (pe_callS (X := X.tr pn xe) G hr hg hm hk hb (fun σ => passAt tk σ) (pa pn xe) hdb he hpl) hs hf)) (fun a oe cls d pn _ _ => pss_one (ps_ret pe_non)), fun F0 H0 F ρ σ H D S q => ?_⟩
  unfold sTryN at q
  cases e1 : fg ρ with
  | none => rw [e1] at q; exact q.elim
  | some ss =>
    simp only [e1] at q
    refine callS_ok (F0 := F0) (H0 := H0) fuel hta S e1 rfl (fun d h v F' H' g r => ?_) (fun ρ' h => ?_) (fun j h d F' H' g e => ?_) (fun h => ?_) ?_
    · rw [h] at q; exact q F' _ H' ((S.grow g).setZ r)
    · rw [h] at q; exact q.elim
    · rw [h] at q
      exact ⟨true, T.te, fun _ b _ => q .non F' H' (S.gr.trans g) .non, fun z => nomatch z⟩
    · rw [h] at q; exact q.elim
    · cases h : bd fuel (ss ++ List.replicate m .un) with
      | rt d => exact .inl ⟨d, rfl⟩
      | rs y => exact .inr (.inr ⟨y, rfl⟩)
      | nx ρ' => exact .inr (.inl ⟨ρ', rfl⟩)
      | bk ρ' => rw [h] at q; exact q.elim
      | ct ρ' => rw [h] at q; exact q.elim
      | no => rw [h] at q; exact q.elim
/-! ### try: x = ('s', f(..)) except Late as e: x = ('t', e.rope) -/
def sTryL (i j : Nat) (s1 s2 : Str) (b : SFn) (m : Nat) (fg : LFn) : SFn := fun ρ => match fg ρ, ρ[j]? with
  | some ss, some .un => (match b (ss ++ List.replicate m .un) with
    | .rt d => .nx (ρ.set i (.fz (.tuple [.str s1, d])))
    | .rs (.late r) => .nx (ρ.set i (.fz (.tuple [.str s2, .int r])))
    | _ => .no)
  | _, _ => .no
theorem two_line {α : Type} (x z : α) : [x, z].length ≤ sizeLine := by show 2 ≤ sizeLine; rw [sizeLine_eq]; decide
theorem ds_tryL (i j : Nat) {s1 s2 nm : Str} {c1 c2 k1 k2 : Nat} {py q1 q2 q3 q4 q5 q6 q7 q8 q9 np np2 pp : Pos} (fuel : Nat) (T : PySem.LateX.LateTxt X.K X.mg CL fI) (G : FnOk X.prog X.w X.K X.mg X.base (L2.CX X.prog X.w) k g fd ps (spD X.K CL CN n m bd)) (hr : Room k X.A) (hm : X.mg x = some (.ref g))
    (hk : PySem.W.keepIn X.K (.ref g) = true) (hb : Binds X.K fd ps [])
    (ha : ∀ (pn : List (Addr × Obj)) (xe : Value → Shared → Prop), DG (X.tr pn xe) (a :: es) fg) (hN : X.N.Nodup) (hij : i ≠ j := by decide) (hs0 : X.stack = X.env :: X.outer := by rfl) (hf0 : X.env.frame = some X.env.locals := by rfl) (hn : (a :: es).length = n := by rfl) (hg : Gl X x := by rfl) (hgL : Gl X "Late" := by rfl) (hdb : (x == ("__debug__" : Str)) = false := by decide)
    (he : starEach (a :: es) X.env = (false, eval a X.env) :: starEach es X.env := by rfl) (hpl : (backTo pos (starEach es X.env)).any (·.1) = false := by rfl)
    (het : starEach [.Constant (.str s1) c1 q1, .Call (.Name x p) (a :: es) [] pos] X.env = (false, eval (.Constant (.str s1) c1 q1) X.env) :: starEach [.Call (.Name x p) (a :: es) [] pos] X.env := by rfl) (het2 : starEach [.Call (.Name x p) (a :: es) [] pos] X.env = [(false, eval (.Call (.Name x p) (a :: es) [] pos) X.env)] := by rfl)
    (hi : X.N[i]? = some y := by rfl) (hjn : X.N[j]? = some nm := by rfl) (hlj : X.env.kindOf nm = some .local := by rfl) (hx : Loc X.env.scope y := by first | exact Or.inl rfl | exact Or.inr rfl)
    (hs : swapsWith (.Tuple [.Constant (.str s1) c1 q1, .Call (.Name x p) (a :: es) [] pos] k1 q2) (some (.Name y py)) q3.line X.env = pure false := by rfl)
    (hs2 : swapsWith (.Tuple [.Constant (.str s2) c2 q4, .Attribute (.Name nm q5) "rope" q6] k2 q7) (some (.Name y q8)) q9.line X.env = pure false := by rfl)
    (het3 : starEach [.Constant (.str s2) c2 q4, .Attribute (.Name nm q5) "rope" q6] X.env = (false, eval (.Constant (.str s2) c2 q4) X.env) :: starEach [.Attribute (.Name nm q5) "rope" q6] X.env := by rfl) (het4 : starEach [.Attribute (.Name nm q5) "rope" q6] X.env = [(false, eval (.Attribute (.Name nm q5) "rope" q6) X.env)] := by rfl)
    (hbse : attributeBase (.Name nm q5) "rope" X.env (eval (.Name nm q5) X.env) = eval (.Name nm q5) X.env := by rfl)
    (hv : Vis X.env.scope nm := by first | exact Or.inl rfl | exact Or.inr (Or.inl rfl) | exact Or.inr (Or.inr rfl)) (hdn : (nm == ("__debug__" : Str)) = false := by decide) (hcdn : (nm == ("__classdict__" : Str)) = false := by decide)
    (hf : X.fn y = true ∨ X.env.scope.names.lookup y = some .local := by first | exact .inl rfl | exact .inr rfl) :
    DS X EX (.Try [.Assign [.Name y py] (.Tuple [.Constant (.str s1) c1 q1, .Call (.Name x p) (a :: es) [] pos] k1 q2) q3]
      [.ExceptHandler (some (.Name "Late" np)) (some nm) [.Assign [.Name y q8] (.Tuple [.Constant (.str s2) c2 q4, .Attribute (.Name nm q5) "rope" q6] k2 q7) q9] np2] [] [] pp) (sTryL i j s1 s2 (bd fuel) m fg) := by
  have hA : ∃ ta, (∀ (pn : List (Addr × Obj)) (xe : Value → Shared → Prop), PA (X.tr pn xe) (a :: es) ta) ∧ EgOk X.K ta (a :: es).length fg := by
    refine ⟨fun σ H Q => ∃ F0 H0 F ρ ss, StF X.K F0 H0 F ρ σ H ∧ fg ρ = some ss ∧ ∀ vs F' H', Grow F H F' H' → ArgsOk X.K F' H' vs ss → vs.length = (a :: es).length → Q vs H', fun pn xe => ?_, fun F0 H0 F ρ σ H Q ss S e q => ⟨F0, H0, F, ρ, ss, S, e, q⟩⟩
    obtain ⟨ta, pa, hta⟩ := (ha pn xe).ex
    exact ⟨fun pos pins s σ H Q I ⟨F0, H0, F, ρ, ss, S, e, q⟩ => pa.run pos pins s σ H Q I (hta F0 H0 F ρ σ H Q ss S e q)⟩
  obtain ⟨ta, pa, hta⟩ := hA
  rw [hn] at hta
  refine ⟨_, ps_try_as (i := j) (tb := fun W => tAsg (tTup (tCons (tC (.str s1)) (tCons (tCallS (spD X.K CL CN n m bd) (WE W) ta) tNil))) (gName i)) (ts := fun a cls d => tAsg (tTup (tCons (tC (.str s2)) (tCons (tByLate CL a cls d (tVar j)) tNil))) (gName i)) (Wout := fun _ _ _ _ => False) (c := .ref CL)
    hs0 hf0 hN hjn hlj ⟨hgL, by decide, .inl T.gC⟩ takes0
    (fun W pn xe tk _ => pss_one (L2.ps_set (X := X.tr pn xe) hN hi hx (pe_tup (pa_cons pe_str (pa_cons (pe_callS (X := X.tr pn xe) G hr hg hm hk hb (fun σ => passAt tk σ) (pa pn xe) hdb he hpl) pa_nil het2) het)) hs hf))
    (fun b oe cls d pn hz hfl => pss_one (L2.ps_set (X := X.suite b ((b, oe) :: pn)) hN hi hx (pe_tup (pa_cons pe_str (pa_cons (pe_byLate T hz hfl (pe_var (X := X.suite b ((b, oe) :: pn)) hjn hv hdn hcdn) hbse) pa_nil het4) het3)) hs2 hf)), fun F0 H0 F ρ σ H D S q => ?_⟩
  unfold sTryL at q
  cases e1 : fg ρ with
  | none => rw [e1] at q; exact q.elim
  | some ss =>
    cases e2 : ρ[j]? with
    | none => rw [e1, e2] at q; exact q.elim
    | some sl =>
      cases sl with
      | un =>
        simp only [e1, e2] at q
        have hj : j < σ.length := by
          have := (List.getElem?_eq_some_iff.mp e2).1
          rw [S.len] at this
          exact this
        refine callS_ok (F0 := F0) (H0 := H0) fuel hta S e1 rfl (fun d h v F' H' g r => ?_) (fun ρ' h => ?_) (fun r h d F' H' g e => ?_) (fun h => ?_) ?_
        · rw [h] at q
          refine ⟨two_line _ _, fun t ht => ?_⟩
          have g2 := Grow.froz (o := .tup [.str s1, v]) g.fh ht
          exact q _ _ _ ((S.grow (g.trans g2)).setZ (.tup (SqT.of upd_same) (.cons (.str _) (.cons (Rp.mono g2.ff _ _ r) .nil))))
        · rw [h] at q; exact q.elim
        · rw [h] at q
          refine ⟨true, T.te, fun _ b hbn => ?_, fun z => nomatch z⟩
          refine ⟨.ref b, List.getElem?_set_self hj, rfl, rfl, d, .int r, rfl, e, two_line _ _, fun t ht => ?_⟩
          have g2 := Grow.froz (o := .tup [.str s2, .int r]) g.fh ht
          have S2 := ((S.grow (g.trans g2)).any (o := some (.ref b)) e2).setZ (i := i) (v := .ref t) (d := .tuple [.str s2, .int r]) (.tup (SqT.of upd_same) (.cons (.str _) (.cons (.int _) .nil)))
          exact q _ _ _ (S2.any (j := j) (o := none) (by rw [List.getElem?_set_ne hij]; exact e2))
        · rw [h] at q; exact q.elim
        · cases h : bd fuel (ss ++ List.replicate m .un) with
          | rt d => exact .inl ⟨d, rfl⟩
          | rs y => exact .inr (.inr ⟨y, rfl⟩)
          | nx ρ' => exact .inr (.inl ⟨ρ', rfl⟩)
          | bk ρ' => rw [h] at q; exact q.elim
          | ct ρ' => rw [h] at q; exact q.elim
          | no => rw [h] at q; exact q.elim
      | _ => rw [e1, e2] at q; exact q.elim
end
end L2.RC

namespace L2.RC
open PySem PySem.Spec PyProof.Rows
/-- what isinstance asks of an error's class -/
structure ExcI (K : PySem.W.Frag) (C : Addr) : Prop where
  cl : PySem.W.isClsIn K C = true
  ga : PySem.W.findIn K (.ref C) "__getattribute__" = some (some (.builtin "BaseException.__getattribute__"))
  gt : PySem.W.findIn K (.ref C) "__getattr__" = some none
  sb : PySem.W.subIn K (.ref C) (.type "BaseException") = some true
  ca : PySem.W.findIn K (.ref C) "__class__" = some (some (.builtin "object.__class__"))
  hn : PySem.W.specialIn K (.builtin "object.__class__") "__get__" = some (some (.builtin "getset_descriptor.__get__"))
  tk : PySem.W.takesIn K (.builtin "object.__class__") = some true
  mr : PySem.W.mroIn K C (.type "object") = some true
/-- isinstance(e, c), e the error that the suite holds, its own dict at dd (or none) -/
def rIsX (K : PySem.W.Frag) (a : Addr) (cls : Value) (d : Option Addr) : List V → Hp → VK → Prop := fun xs H Q => ∃ (D : Addr) (c : V) (cv : Value) (b : Bool), cls = .ref D ∧ ExcI K D ∧ xs = [.ref a, c] ∧ (∀ u, RelV c u → u = cv) ∧
  (d = none ∨ ∃ dd fs, d = some dd ∧ H dd = some (.xd fs)) ∧ PySem.W.kitOne K (.ref D) cv = some b ∧ Q (.bl b) H
theorem call_isX {X : Cx} {a : Addr} {oe : Obj} {cls : Value} {d : Option Addr} {pn : List (Addr × Obj)} (hz : Zc cls d oe) (hf : ∃ vs, oe.data = .fields vs) : CallR (X.suite a ((a, oe) :: pn)) (.builtin "isinstance") (rIsX X.K a cls d) := by
  intro pins s σ H xs us Q I r h
  obtain ⟨D, c, cv, b, ec, T, rfl, hcv, hd, e, q⟩ := h
  subst ec
  cases r with
  | cons rx rr =>
    cases rr with
    | cons rt rr =>
      cases rr
      cases rx
      have ec := hcv _ rt
      subst ec
      obtain ⟨hget, _⟩ := I.pin (a, oe) (List.mem_append.mpr (.inl List.mem_cons_self))
      obtain ⟨vs, hv⟩ := hf
      have J : ∃ od, PySem.W.InstAt s.heap a oe D od := by
        rcases hd with hd | ⟨dd, fs, hd, hx⟩
        · refine ⟨none, hget, hz.1, by unfold PySem.W.notCls; rw [hv] <;> rfl, ?_⟩
          rw [hz.2, hd]
          trivial
        · have hx' : ObjOk X.prog X.w H s.heap dd (.xd fs) := I.hok dd _ hx
          obtain ⟨mA, hns, _⟩ := hx'
          obtain ⟨od, ho, _⟩ := lookIn_ns hns
          exact ⟨some od, hget, hz.1, by unfold PySem.W.notCls; rw [hv] <;> rfl, by rw [hz.2, hd]; exact ho⟩
      obtain ⟨od, J⟩ := J
      exact PySem.W.kia_one (PySem.W.kitx_exc T.cl T.ga T.gt T.sb T.ca T.hn T.tk T.mr) I.kIn J e (fun z => nomatch z) fun tk => ⟨.bl b, H, I.kept (t' := tk) fun _ _ z => z, rfl, q⟩
section
variable {K : PySem.W.Frag} {C D : Addr}
theorem kit_self : PySem.W.kitOne K (.ref C) (.ref C) = some true := by
  unfold PySem.W.kitOne
  rw [if_pos (beq_self_eq_true _)]
theorem kit_ty2 (h : PySem.W.subIn K (.ref C) (.type "ValueError") = some true) : PySem.W.kitOne K (.ref C) (.type "ValueError") = some true := by
  unfold PySem.W.kitOne PySem.W.kitCls
  rw [if_neg (by simp)]
  show (if PySem.W.kitMeta "ValueError" = true then PySem.W.subIn K (.ref C) (.type "ValueError") else none) = some true
  rw [if_pos (by decide +kernel)]
  exact h
theorem kit_not (h1 : PySem.W.isClsIn K D = true) (h2 : PySem.W.typeIn K (.ref D) = some (.type "type")) (h3 : PySem.W.subIn K (.ref C) (.ref D) = some false) (h4 : PySem.W.subIn K (.ref C) (.ref C) = some true) : PySem.W.kitOne K (.ref C) (.ref D) = some false := by
  have hne : ¬ ((Value.ref C == Value.ref D) = true) := fun z => by
    have e : C = D := Value.ref.inj (beq_iff_eq.mp z)
    subst e
    rw [h4] at h3
    cases h3
  have h1' : (PySem.W.clsIn K D).isSome = true := h1
  unfold PySem.W.kitOne PySem.W.kitCls
  rw [if_neg hne]
  show (if ((PySem.W.clsIn K D).isSome && PySem.W.typeIn K (.ref D) == some (.type "type")) = true then PySem.W.subIn K (.ref C) (.ref D) else none) = some false
  rw [if_pos (by rw [h1', h2] <;> rfl)]
  exact h3
end
section
variable {X : Cx} {EX : EXX} {e a : Expr} {pos pos2 pos3 pos4 p : Pos} {f fa : EFn} {CL CN CR fI : Addr} {k : Nat} {x : Str}
variable {g : Addr} {fd : FuncData} {ps : List Str} {n m : Nat} {bd : Nat → SFn} {fg : LFn} {es : List Expr} {y : Str} {pos' : Pos}
/-! ### try: x = (s1, f(..)) except RopeError as e: x = (s0, None); if isinstance(e, Late) and isinstance(e, ValueError) and not isinstance(e, NoPlan): x = (s2, e.rope) -/
theorem ds_tryR (i j : Nat) {s1 s0 s2 nm : Str} {c1 c2 c0 c9 k1 k2 k0 : Nat} {py q1 q2 q3 q4 q5 q6 q7 q8 q9 np np2 pp u1 u2 u3 u4 u5 v1 v2 v3 v4 v5 v6 v7 v8 v9 v10 v11 v12 v13 v14 : Pos} (fuel : Nat) (T : PySem.LateX.LateTxt X.K X.mg CL fI) (TI : ExcI X.K CL) (gN : X.mg "NoPlan" = some (.ref CN)) (gR : X.mg "RopeError" = some (.ref CR))
    (tR : PySem.W.exmOne X.K (.ref CL) (.ref CR) = some true) (oL : PySem.W.kitOne X.K (.ref CL) (.ref CL) = some true) (oV : PySem.W.kitOne X.K (.ref CL) (.type "ValueError") = some true) (oN : PySem.W.kitOne X.K (.ref CL) (.ref CN) = some false)
    (mI : X.mg "isinstance" = none) (mV : X.mg "ValueError" = none)
    (G : FnOk X.prog X.w X.K X.mg X.base (L2.CX X.prog X.w) k g fd ps (spD X.K CL CN n m bd)) (hr : Room k X.A) (hm : X.mg x = some (.ref g))
    (hk : PySem.W.keepIn X.K (.ref g) = true) (hb : Binds X.K fd ps [])
    (ha : ∀ (pn : List (Addr × Obj)) (xe : Value → Shared → Prop), DG (X.tr pn xe) (a :: es) fg) (hN : X.N.Nodup) (hij : i ≠ j := by decide) (hs0 : X.stack = X.env :: X.outer := by rfl) (hf0 : X.env.frame = some X.env.locals := by rfl) (hn : (a :: es).length = n := by rfl) (hg : Gl X x := by rfl) (hgL : Gl X "Late" := by rfl)
    (hgR : Gl X "RopeError" := by rfl) (hgN : Gl X "NoPlan" := by rfl) (hgI : Gl X "isinstance" := by rfl) (hgV : Gl X "ValueError" := by rfl) (hdb : (x == ("__debug__" : Str)) = false := by decide)
    (he : starEach (a :: es) X.env = (false, eval a X.env) :: starEach es X.env := by rfl) (hpl : (backTo pos (starEach es X.env)).any (·.1) = false := by rfl)
    (hi : X.N[i]? = some y := by rfl) (hjn : X.N[j]? = some nm := by rfl) (hlj : X.env.kindOf nm = some .local := by rfl) (hx : Loc X.env.scope y := by first | exact Or.inl rfl | exact Or.inr rfl)
    (hs : swapsWith (.Tuple [.Constant (.str s1) c1 q1, .Call (.Name x p) (a :: es) [] pos] k1 q2) (some (.Name y py)) q3.line X.env = pure false := by rfl)
    (hs2 : swapsWith (.Tuple [.Constant (.str s2) c2 q4, .Attribute (.Name nm q5) "rope" q6] k2 q7) (some (.Name y q8)) q9.line X.env = pure false := by rfl)
    (hs3 : swapsWith (.Tuple [.Constant (.str s0) c0 u1, .Constant .none c9 u2] k0 u3) (some (.Name y u4)) u5.line X.env = pure false := by rfl)
    (hbse : attributeBase (.Name nm q5) "rope" X.env (eval (.Name nm q5) X.env) = eval (.Name nm q5) X.env := by rfl)
    (hv : Vis X.env.scope nm := by first | exact Or.inl rfl | exact Or.inr (Or.inl rfl) | exact Or.inr (Or.inr rfl)) (hdn : (nm == ("__debug__" : Str)) = false := by decide) (hcdn : (nm == ("__classdict__" : Str)) = false := by decide)
    (hf : X.fn y = true ∨ X.env.scope.names.lookup y = some .local := by first | exact .inl rfl | exact .inr rfl) :
    DS X EX (.Try [.Assign [.Name y py] (.Tuple [.Constant (.str s1) c1 q1, .Call (.Name x p) (a :: es) [] pos] k1 q2) q3]
      [.ExceptHandler (some (.Name "RopeError" np)) (some nm) [.Assign [.Name y u4] (.Tuple [.Constant (.str s0) c0 u1, .Constant .none c9 u2] k0 u3) u5,
        .If (.BoolOp .And [.Call (.Name "isinstance" v1) [.Name nm v2, .Name "Late" v3] [] v4, .Call (.Name "isinstance" v5) [.Name nm v6, .Name "ValueError" v7] [] v8, .UnaryOp .Not (.Call (.Name "isinstance" v9) [.Name nm v10, .Name "NoPlan" v11] [] v12) v13] v14)
          [.Assign [.Name y q8] (.Tuple [.Constant (.str s2) c2 q4, .Attribute (.Name nm q5) "rope" q6] k2 q7) q9] [] pos3] np2] [] [] pp) (sTryL i j s1 s2 (bd fuel) m fg) := by
  have hA : ∃ ta, (∀ (pn : List (Addr × Obj)) (xe : Value → Shared → Prop), PA (X.tr pn xe) (a :: es) ta) ∧ EgOk X.K ta (a :: es).length fg := by
    refine ⟨fun σ H Q => ∃ F0 H0 F ρ ss, StF X.K F0 H0 F ρ σ H ∧ fg ρ = some ss ∧ ∀ vs F' H', Grow F H F' H' → ArgsOk X.K F' H' vs ss → vs.length = (a :: es).length → Q vs H', fun pn xe => ?_, fun F0 H0 F ρ σ H Q ss S e q => ⟨F0, H0, F, ρ, ss, S, e, q⟩⟩
    obtain ⟨ta, pa, hta⟩ := (ha pn xe).ex
    exact ⟨fun pos pins s σ H Q I ⟨F0, H0, F, ρ, ss, S, e, q⟩ => pa.run pos pins s σ H Q I (hta F0 H0 F ρ σ H Q ss S e q)⟩
  obtain ⟨ta, pa, hta⟩ := hA
  rw [hn] at hta
  refine ⟨_, ps_try_as (i := j) (tb := fun W => tAsg (tTup (tCons (tC (.str s1)) (tCons (tCallS (spD X.K CL CN n m bd) (WE W) ta) tNil))) (gName i))
    (ts := fun a cls d => tSeq (tAsg (tTup (tCons (tC (.str s0)) (tCons (tC .non) tNil))) (gName i))
      (tIfS (tAnd (tB (tCB (rIsX X.K a cls d) (tCons (tVar j) (tCons (tC (.ref CL)) tNil)))) (tAnd (tB (tCB (rIsX X.K a cls d) (tCons (tVar j) (tCons (tC (.ty "ValueError")) tNil)))) (tNot (tB (tCB (rIsX X.K a cls d) (tCons (tVar j) (tCons (tC (.ref CN)) tNil)))))))
        (tAsg (tTup (tCons (tC (.str s2)) (tCons (tByLate CL a cls d (tVar j)) tNil))) (gName i)) tNext))
    (Wout := fun _ _ _ _ => False) (c := .ref CR)
    hs0 hf0 hN hjn hlj ⟨hgR, by decide, .inl gR⟩ takes0
    (fun W pn xe tk _ => pss_one (L2.ps_set (X := X.tr pn xe) hN hi hx (pe_tup (pa_cons pe_str (pa_cons (pe_callS (X := X.tr pn xe) G hr hg hm hk hb (fun σ => passAt tk σ) (pa pn xe) hdb he hpl) pa_nil))) hs hf))
    (fun b oe cls d pn hz hfl => pss_cons (L2.ps_set (X := X.suite b ((b, oe) :: pn)) hN hi hx (pe_tup (pa_cons pe_str (pa_cons pe_non pa_nil))) hs3 hf)
      (pss_one (ps_if (PW.pt (pw_and (pt_val (pe_callB (call_isX hz hfl) hgI mI (by decide +kernel) (pa_cons (pe_var (X := X.suite b ((b, oe) :: pn)) hjn hv hdn hcdn) (pa_cons (pe_glob hgL T.gC rfl) pa_nil))))
          (pw_and (pt_val (pe_callB (call_isX hz hfl) hgI mI (by decide +kernel) (pa_cons (pe_var (X := X.suite b ((b, oe) :: pn)) hjn hv hdn hcdn) (pa_cons (pe_bltn (v := .ty "ValueError") (u := .type "ValueError") hgV mV (by decide +kernel) rfl) pa_nil))))
          (pw_and1 (pt_not (pt_val (pe_callB (call_isX hz hfl) hgI mI (by decide +kernel) (pa_cons (pe_var (X := X.suite b ((b, oe) :: pn)) hjn hv hdn hcdn) (pa_cons (pe_glob hgN gN rfl) pa_nil)))))))))
        (pss_one (L2.ps_set (X := X.suite b ((b, oe) :: pn)) hN hi hx (pe_tup (pa_cons pe_str (pa_cons (pe_byLate T hz hfl (pe_var (X := X.suite b ((b, oe) :: pn)) hjn hv hdn hcdn) hbse) pa_nil))) hs2 hf)) pss_nil))), fun F0 H0 F ρ σ H D S q => ?_⟩
  unfold sTryL at q
  cases e1 : fg ρ with
  | none => rw [e1] at q; exact q.elim
  | some ss =>
    cases e2 : ρ[j]? with
    | none => rw [e1, e2] at q; exact q.elim
    | some sl =>
      cases sl with
      | un =>
        simp only [e1, e2] at q
        have hj : j < σ.length := by
          have := (List.getElem?_eq_some_iff.mp e2).1
          rw [S.len] at this
          exact this
        refine callS_ok (F0 := F0) (H0 := H0) fuel hta S e1 rfl (fun d h v F' H' g r => ?_) (fun ρ' h => ?_) (fun r h d F' H' g e => ?_) (fun h => ?_) ?_
        · rw [h] at q
          refine ⟨two_line _ _, fun t ht => ?_⟩
          have g2 := Grow.froz (o := .tup [.str s1, v]) g.fh ht
          exact q _ _ _ ((S.grow (g.trans g2)).setZ (.tup (SqT.of upd_same) (.cons (.str _) (.cons (Rp.mono g2.ff _ _ r) .nil))))
        · rw [h] at q; exact q.elim
        · rw [h] at q
          refine ⟨true, tR, fun _ b hbn => ?_, fun z => nomatch z⟩
          refine ⟨two_line _ _, fun t0 ht0 => ?_⟩
          have g1 := Grow.froz (o := .tup [.str s0, .non]) g.fh ht0
          have e' := g1.hh _ _ e
          have hslot : ((σ.set j (some (V.ref b))).set i (some (V.ref t0)))[j]? = some (some (V.ref b)) := by
            rw [List.getElem?_set_ne hij, List.getElem?_set_self hj]
          refine ⟨.ref b, hslot, CL, .ref CL, .ref CL, true, rfl, TI, rfl, fun u hu => hu, .inr ⟨d, _, rfl, e'⟩, oL, true, rfl, iteT ?_⟩
          refine ⟨.ref b, hslot, CL, .ty "ValueError", .type "ValueError", true, rfl, TI, rfl, fun u hu => hu, .inr ⟨d, _, rfl, e'⟩, oV, true, rfl, iteT ?_⟩
          refine ⟨.ref b, hslot, CL, .ref CN, .ref CN, false, rfl, TI, rfl, fun u hu => hu, .inr ⟨d, _, rfl, e'⟩, oN, false, rfl, iteT ?_⟩
          refine ⟨.ref b, hslot, rfl, rfl, d, .int r, rfl, e', two_line _ _, fun t ht => ?_⟩
          have g2 := Grow.froz (o := .tup [.str s2, .int r]) g1.fh ht
          have S2 := ((((S.grow (g.trans (g1.trans g2))).any (o := some (.ref b)) e2).setZ (i := i) (v := .ref t) (d := .tuple [.str s2, .int r]) (.tup (SqT.of upd_same) (.cons (.str _) (.cons (.int _) .nil)))))
          have S3 := S2.any (j := j) (o := none) (by rw [List.getElem?_set_ne hij]; exact e2)
          rw [← List.set_set (l := σ.set j (some (V.ref b))) (i := i) (some (V.ref t0))] at S3
          exact q _ _ _ S3
        · rw [h] at q; exact q.elim
        · cases h : bd fuel (ss ++ List.replicate m .un) with
          | rt d => exact .inl ⟨d, rfl⟩
          | rs y => exact .inr (.inr ⟨y, rfl⟩)
          | nx ρ' => exact .inr (.inl ⟨ρ', rfl⟩)
          | bk ρ' => rw [h] at q; exact q.elim
          | ct ρ' => rw [h] at q; exact q.elim
          | no => rw [h] at q; exact q.elim
      | _ => rw [e1, e2] at q; exact q.elim
end
end L2.RC

namespace L2.RC
open PySem PySem.Spec PyProof.Rows
/-! ### data without lists -/
mutual
def noL : PyData → Bool
  | .list _ => false
  | .dict _ => false
  | .tuple ds => noLs ds
  | _ => true
def noLs : List PyData → Bool
  | [] => true
  | d :: ds => noL d && noLs ds
end
/-- a frame without its lists -/
def tupO (F : Hp) : Hp := fun a => match F a with
  | some (.lst _) => none
  | o => o
theorem tupO_same (F : Hp) : Same (tupO F) F := fun a o e => by
  unfold tupO at e
  split at e
  · cases e
  · exact e
theorem tupO_lst {F : Hp} {a : Addr} {xs : List V} (e : tupO F a = some (.lst xs)) : False := by
  unfold tupO at e
  split at e
  · cases e
  · rename_i h
    exact h xs e
theorem tupO_keep {F : Hp} {a : Addr} {o : HO} (e : F a = some o) (h : ∀ xs, o ≠ .lst xs) : tupO F a = some o := by
  unfold tupO
  rw [e]
  split
  · rename_i xs z
    cases z
    exact absurd rfl (h xs)
  · rfl
section
variable {K : PySem.W.Frag} {F : Hp}
theorem seqT_tupO {a : Addr} {xs : List V} (h : SqT K F a xs) : SqT K (tupO F) a xs := by
  rcases h with (h | ⟨o, h⟩) | h
  · exact .inl (.inl (tupO_keep h fun _ z => nomatch z))
  · exact .inl (.inr ⟨o, tupO_keep h fun _ z => nomatch z⟩)
  · exact .inr h
mutual
theorem Rp.tupF : ∀ (d : PyData) (v : V), Rp K F v d → noL d = true → Rp K (tupO F) v d
  | .none, _, h, _ => by cases h; exact .non
  | .bool b, _, h, _ => by cases h; exact .bl b
  | .int i, _, h, _ => by cases h; exact .int i
  | .str x, _, h, _ => by cases h; exact .str x
  | .list ds, _, _, n => by simp [noL] at n
  | .tuple ds, _, h, n => by
    cases h with
    | tup h1 h2 => exact .tup (seqT_tupO h1) (RpAll.tupF ds _ h2 (by simpa [noL] using n))
  | .dict _, _, h, _ => by cases h
theorem RpAll.tupF : ∀ (ds : List PyData) (vs : List V), RpAll K F vs ds → noLs ds = true → RpAll K (tupO F) vs ds
  | [], _, h, _ => by cases h; exact .nil
  | d :: ds, _, h, n => by
    cases h with
    | cons h1 h2 =>
      have n' : noL d = true ∧ noLs ds = true := by simpa [noLs] using n
      exact .cons (Rp.tupF d _ h1 n'.1) (RpAll.tupF ds _ h2 n'.2)
end
end
def slFree : Sl → Bool
  | .fz d => noL d
  | .br ds => noLs ds
  | _ => false
theorem ArgsOk.tup {K : PySem.W.Frag} {F H : Hp} : ∀ {vs : List V} {ss : List Sl}, ArgsOk K F H vs ss → ss.all slFree = true → ArgsOk K (tupO F) H vs ss
  | _, _, .nil, _ => .nil
  | _, _, .cons (s := s) r t, n => by
    rw [List.all_cons, Bool.and_eq_true] at n
    have n' := n
    refine .cons ?_ (ArgsOk.tup t n.2)
    cases s with
    | fz d => exact Rp.tupF d _ r n'.1
    | br ds => obtain ⟨a, us, e, h1, h2⟩ := r; exact ⟨a, us, e, h1, RpAll.tupF ds _ h2 n'.1⟩
    | un => exact r.elim
    | ow ds => exact r.elim
/-- the frame F at H, joined with what is new in G -/
def joinF (F H G : Hp) : Hp := fun a => match H a with | some _ => F a | none => G a
/-- G grew out of F's tuples; the joined frame, where G's own part leaves the lists out -/
theorem join_grow {F H G H2 : Hp} (s : Same F H) (g : Grow (tupO F) H G H2) : Grow F H (joinF F H (tupO G)) H2 ∧ Same (tupO G) (joinF F H (tupO G)) := by
  refine ⟨⟨g.hh, fun a o e => ?_, fun a o e => ?_, fun a o e => ?_⟩, fun a o e => ?_⟩
  · unfold joinF; rw [s a o e]; exact e
  · unfold joinF at e
    cases h : H a with
    | none => rw [h] at e; exact g.fh a o (tupO_same G a o e)
    | some x => rw [h] at e; exact g.hh a o (s a o e)
  · unfold joinF; rw [e]
  · unfold joinF
    cases h : H a with
    | none => exact e
    | some x =>
      have e1 : tupO F a = some o := (g.ag a x h).symm.trans (tupO_same G a o e)
      exact tupO_same F a o e1
section
variable {X : Cx} {EX : EXX} {E : XK} {e a : Expr} {pos pos2 p : Pos} {f fa : EFn} {CL CN fI : Addr} {k : Nat} {x : Str}
variable {g : Addr} {fd : FuncData} {ps : List Str} {n m : Nat} {bd : Nat → SFn} {fg : LFn} {es : List Expr} {y : Str} {pos' : Pos} {CX : CXT}
/-- a call whose result is a new list of data without lists -/
def oCallT (b : SFn) (m : Nat) (fg : LFn) : OFn := fun ρ => match fg ρ with
  | some ss => if ss.all slFree = true then (match b (ss ++ List.replicate m .un) with | .rt (.list ds) => if noLs ds = true then some ds else none | _ => none) else none
  | none => none
theorem de_callT (fuel : Nat) (G : FnOk X.prog X.w X.K X.mg X.base CX k g fd ps (spD X.K CL CN n m bd)) (hr : Room k X.A) (hm : X.mg x = some (.ref g)) (hk : PySem.W.keepIn X.K (.ref g) = true) (hb : Binds X.K fd ps []) (hx : Passes CX X E0)
    (ha : DG X (a :: es) fg) (hn : (a :: es).length = n := by rfl) (hg : Gl X x := by rfl) (hdb : (x == ("__debug__" : Str)) = false := by decide)
    (he : starEach (a :: es) X.env = (false, eval a X.env) :: starEach es X.env := by rfl) (hpl : (backTo pos (starEach es X.env)).any (·.1) = false := by rfl) :
    DEo X (.Call (.Name x p) (a :: es) [] pos) (oCallT (bd fuel) m fg) := by
  obtain ⟨ta, pa, ha⟩ := ha.ex
  refine ⟨_, pe_call G hr hg hm hk hb .nil hx pa hdb he hpl, fun F0 H0 F ρ σ H Q ds S e q => ?_⟩
  unfold oCallT at e
  cases e1 : fg ρ with
  | none => rw [e1] at e; cases e
  | some ss =>
    simp only [e1] at e
    rw [Option.ite_none_right_eq_some] at e
    obtain ⟨hf, e⟩ := e
    refine ha F0 H0 F ρ σ H _ ss S e1 fun vs F1 H1 g1 r1 hl => ?_
    show spD X.K CL CN n m bd (vs ++ []) H1 Q E0
    rw [List.append_nil]
    refine ⟨hl.trans hn, tupO F1, ss, fuel, (tupO_same F1).trans g1.fh, r1.tup hf, ?_⟩
    cases e2 : bd fuel (ss ++ List.replicate m .un) with
    | rt d =>
      rw [e2] at e
      cases d <;> first | (cases e; done) | skip
      rename_i ds'
      have e' : (if noLs ds' = true then some ds' else none) = some ds := e
      rw [Option.ite_none_right_eq_some] at e'
      obtain ⟨hno, e3⟩ := e'
      cases e3
      intro v F' H' g2 r2
      cases r2 with
      | lst h1 h2 =>
        rename_i l xs
        have hl1 : H1 l = none := by
          cases h : H1 l with
          | none => rfl
          | some o => exact (tupO_lst ((g2.ag l o h).symm.trans h1)).elim
        obtain ⟨gj, sj⟩ := join_grow g1.fh g2
        refine q l xs (joinF F1 H1 (tupO F')) H' (g1.trans gj) (g1.hh.free hl1) ?_ (g2.fh _ _ h1) (RpAll.mono sj _ _ (RpAll.tupF _ _ h2 hno))
        unfold joinF
        rw [hl1]
        show tupO F' l = none
        unfold tupO
        rw [h1]
    | _ => rw [e2] at e; cases e
/-- x = f(..): a new list of data without lists, or None -/
def sSetT (i : Nat) (b : SFn) (m : Nat) (fg : LFn) : SFn := fun ρ => match fg ρ with
  | some ss => if ss.all slFree = true then (match b (ss ++ List.replicate m .un) with
    | .rt (.list ds) => if noLs ds = true then .nx (ρ.set i (.ow ds)) else .no
    | .rt .none => .nx (ρ.set i (.fz .none))
    | _ => .no) else .no
  | none => .no
theorem ds_setT (i : Nat) (fuel : Nat) (G : FnOk X.prog X.w X.K X.mg X.base CX k g fd ps (spD X.K CL CN n m bd)) (hr : Room k X.A) (hm : X.mg x = some (.ref g)) (hk : PySem.W.keepIn X.K (.ref g) = true) (hb : Binds X.K fd ps []) (hpx : Passes CX X E0)
    (ha : DG X (a :: es) fg) (hN : X.N.Nodup) (hn : (a :: es).length = n := by rfl) (hg : Gl X x := by rfl) (hdb : (x == ("__debug__" : Str)) = false := by decide)
    (he : starEach (a :: es) X.env = (false, eval a X.env) :: starEach es X.env := by rfl) (hpl : (backTo pos (starEach es X.env)).any (·.1) = false := by rfl)
    (hi : X.N[i]? = some y := by rfl) (hx : Loc X.env.scope y := by first | exact Or.inl rfl | exact Or.inr rfl) (hs : swapsWith (.Call (.Name x p) (a :: es) [] pos) (some (.Name y pos')) pos2.line X.env = pure false := by rfl)
    (hf : X.fn y = true ∨ X.env.scope.names.lookup y = some .local := by first | exact .inl rfl | exact .inr rfl) :
    DS X EX (.Assign [.Name y pos'] (.Call (.Name x p) (a :: es) [] pos) pos2) (sSetT i (bd fuel) m fg) := by
  obtain ⟨ta, pa, ha⟩ := ha.ex
  refine ⟨_, L2.ps_set hN hi hx (pe_call G hr hg hm hk hb .nil hpx pa hdb he hpl) hs hf, fun F0 H0 F ρ σ H D S q => ?_⟩
  unfold sSetT at q
  cases e1 : fg ρ with
  | none => rw [e1] at q; exact q.elim
  | some ss =>
    simp only [e1] at q
    by_cases hfr : ss.all slFree = true
    · rw [if_pos hfr] at q
      refine ha F0 H0 F ρ σ H _ ss S e1 fun vs F1 H1 g1 r1 hl => ?_
      show spD X.K CL CN n m bd (vs ++ []) H1 _ E0
      rw [List.append_nil]
      refine ⟨hl.trans hn, tupO F1, ss, fuel, (tupO_same F1).trans g1.fh, r1.tup hfr, ?_⟩
      cases e2 : bd fuel (ss ++ List.replicate m .un) with
      | rt d =>
        rw [e2] at q
        cases d <;> first | (exact q.elim) | skip
        · intro v F' H' g2 r2
          cases r2
          exact q F1 _ H' (((S.grow g1).grow (Grow.more g1.fh g2.hh)).setZ .non)
        · rename_i ds
          by_cases hno : noLs ds = true
          · have q' : OutOk X.K F0 H0 D EX (if noLs ds = true then .nx (ρ.set i (.ow ds)) else .no) := q
            rw [if_pos hno] at q'
            intro v F' H' g2 r2
            cases r2 with
            | lst h1 h2 =>
              rename_i l xs
              have hl1 : H1 l = none := by
                cases h : H1 l with
                | none => rfl
                | some o => exact (tupO_lst ((g2.ag l o h).symm.trans h1)).elim
              obtain ⟨gj, sj⟩ := join_grow g1.fh g2
              refine q' (joinF F1 H1 (tupO F')) _ H' ((S.grow g1).setO gj hl1 ?_ (g2.fh _ _ h1) (RpAll.mono sj _ _ (RpAll.tupF _ _ h2 hno)))
              unfold joinF
              rw [hl1]
              show tupO F' l = none
              unfold tupO
              rw [h1]
          · have q' : OutOk X.K F0 H0 D EX (if noLs ds = true then .nx (ρ.set i (.ow ds)) else .no) := q
            rw [if_neg hno] at q'
            exact q'.elim
      | _ => rw [e2] at q; exact q.elim
    · rw [if_neg hfr] at q; exact q.elim
/-- x.clear() -/
def sClr (i : Nat) : SFn := fun ρ => match ρ[i]? with
  | some (.ow _) => .nx (ρ.set i (.ow []))
  | _ => .no
theorem ds_clear (i : Nat) {apos cpos : Pos} (hN : X.N[i]? = some x := by rfl) (hv : Vis X.env.scope x := by first | exact Or.inl rfl | exact Or.inr (Or.inl rfl) | exact Or.inr (Or.inr rfl)) (hd : (x == ("__debug__" : Str)) = false := by decide)
    (hcd : (x == ("__classdict__" : Str)) = false := by decide)
    (hbase : attributeBase (.Name x p) "clear" X.env (eval (.Name x p) X.env) = eval (.Name x p) X.env := by rfl)
    (hline : (apos.endLine == cpos.line) = true := by rfl)
    (hsw : swapsWith (.Call (.Attribute (.Name x p) "clear" apos) [] [] cpos) none pos.line X.env = pure false := by rfl) :
    DS X EX (.Expr (.Call (.Attribute (.Name x p) "clear" apos) [] [] cpos) pos) (sClr i) := by
  refine ⟨_, ps_expr (pe_bm0 PySem.F.plainAttrs_list PySem.F.slot_list_clear PySem.F.type_list_clear mt_clear (pe_var hN hv hd hcd) hbase hline) hsw, fun F0 H0 F ρ σ H D S q => ?_⟩
  unfold sClr at q
  cases e1 : ρ[i]? with
  | none => rw [e1] at q; exact q.elim
  | some s =>
    rw [e1] at q
    cases s <;> first | (exact q.elim) | skip
    obtain ⟨a, vs, hsg, ha, fa', za, ra⟩ := S.sl i _ e1
    exact ⟨_, hsg, .inl ⟨rfl, _, SqL.of ha⟩, a, vs, rfl, rfl, ha, q F σ _ (S.write (vs := vs) e1 hsg .nil)⟩
end
end L2.RC

namespace L2.RC
open PySem PySem.Spec PyProof.Rows
section
variable {X : Cx} {EX : EXX} {E : XK} {e a c : Expr} {pos pos2 p : Pos} {f fa : EFn} {CL CN fI : Addr} {k : Nat} {x : Str} {ft : TFn} {fs : SFn} {tg : Expr} {sts : List Stmt}
variable {g : Addr} {fd : FuncData} {ps : List Str} {n m : Nat} {bd : Nat → SFn} {fg : LFn} {es : List Expr} {y : Str} {pos' : Pos} {CX : CXT}
/-! ### a lent list's slot in a loop, an own one in a comprehension -/
def iBr (i : Nat) : OFn := fun ρ => match ρ[i]? with | some (.br ds) => some ds | some (.fz (.list ds)) => some ds | _ => none
theorem di_br (i : Nat) (hN : X.N[i]? = some x := by rfl) (hv : Vis X.env.scope x := by first | exact Or.inl rfl | exact Or.inr (Or.inl rfl) | exact Or.inr (Or.inr rfl)) (hd : (x == ("__debug__" : Str)) = false := by decide)
    (hcd : (x == ("__classdict__" : Str)) = false := by decide) : DI X tg (.Name x pos) (iBr i) := by
  refine ⟨_, pi_list (pe_var hN hv hd hcd), fun F0 H0 F ρ σ H R ds S e q => ?_⟩
  unfold iBr at e
  cases hs : ρ[i]? with
  | none => rw [hs] at e; cases e
  | some s =>
    rw [hs] at e
    cases s with
    | br ds' =>
      cases e
      obtain ⟨b, xs, e1, h1, r⟩ := S.sl i _ hs
      exact ⟨_, e1, b, rfl, ⟨xs, S.gr.hh.seq h1⟩, q _ F H (.refl S.gr.fh) ⟨xs, r, fun i Hx _ s hi => ⟨xs, xs[i], s.seq h1, by simp [hi]⟩, fun i Hx x H' _ s hi y => ⟨y.1, y.2 xs (s.seq h1)⟩, fun i Hx _ s hi => ⟨xs, s.seq h1, hi⟩⟩⟩
    | fz d =>
      cases d <;> first | (cases e; done) | skip
      cases e
      obtain ⟨v, e1, r⟩ := S.sl i _ hs
      cases r with
      | lst f1 a1 =>
        rename_i b xs
        exact ⟨_, e1, b, rfl, ⟨xs, SqL.of (S.gr.fh _ _ f1)⟩, q _ F H (.refl S.gr.fh) ⟨xs, a1, fun i Hx s _ hi => ⟨xs, xs[i], SqL.of (s _ _ f1), by simp [hi]⟩, fun i Hx x H' s _ hi y => ⟨y.1, y.2 xs (SqL.of (s _ _ f1))⟩, fun i Hx s _ hi => ⟨xs, SqL.of (s _ _ f1), hi⟩⟩⟩
    | _ => cases e
def iOw (i : Nat) : OFn := fun ρ => match ρ[i]? with | some (.ow ds) => some ds | some (.br ds) => some ds | some (.fz (.list ds)) => some ds | _ => none
theorem dj_ow (i : Nat) (hN : X.N[i]? = some x := by rfl) (hv : Vis X.env.scope x := by first | exact Or.inl rfl | exact Or.inr (Or.inl rfl) | exact Or.inr (Or.inr rfl)) (hd : (x == ("__debug__" : Str)) = false := by decide)
    (hcd : (x == ("__classdict__" : Str)) = false := by decide) : DJ X tg (.Name x pos) (iOw i) := by
  refine ⟨_, pi_list (pe_var hN hv hd hcd), fun F0 H0 F ρ σ H R ds S e q => ?_⟩
  have fin : ∀ (b : Addr) (xs : List V), SqL X.K H b xs → σ[i]? = some (some (.ref b)) → RpAll X.K F xs ds → iList X.K (tVar i) σ H R := fun b xs h e1 r =>
    ⟨_, e1, b, rfl, ⟨xs, h⟩, q _ F H (.refl S.gr.fh) ⟨xs, r, fun i Hx _ s hi => ⟨xs, xs[i], s.seq h, by simp [hi]⟩, fun i Hx x H' _ s hi y => ⟨y.1, y.2 xs (s.seq h)⟩, fun i Hx _ s hi => ⟨xs, s.seq h, hi⟩⟩⟩
  unfold iOw at e
  cases hs : ρ[i]? with
  | none => rw [hs] at e; cases e
  | some s =>
    rw [hs] at e
    cases s with
    | ow ds' =>
      cases e
      obtain ⟨b, xs, e1, h1, _, _, r⟩ := S.sl i _ hs
      exact fin b xs (SqL.of h1) e1 r
    | br ds' =>
      cases e
      obtain ⟨b, xs, e1, h1, r⟩ := S.sl i _ hs
      exact fin b xs (S.gr.hh.seq h1) e1 r
    | fz d =>
      cases d <;> first | (cases e; done) | skip
      cases e
      obtain ⟨v, e1, r⟩ := S.sl i _ hs
      cases r with
      | lst f1 a1 => exact fin _ _ (SqL.of (S.gr.fh _ _ f1)) e1 a1
    | un => cases e
/-! ### new data beside the frame -/
theorem StF.drop {K : PySem.W.Frag} {F0 H0 F H : Hp} {ρ : DEnv} {σ : St} {i : Nat} {o : Option V} (S : StF K F0 H0 F ρ σ H) : StF K F0 H0 F (ρ.set i .un) (σ.set i o) H := by
  refine ⟨S.gr, fun j s e => ?_, fun j k a ds es h1 h2 h3 h4 => ?_, by rw [List.length_set, List.length_set, S.len]⟩
  · rcases getD_set e with ⟨rfl, rfl⟩ | ⟨hj, e⟩
    · trivial
    · rw [List.getElem?_set_ne (Ne.symm hj)]
      exact S.sl j s e
  · rcases getD_set h1 with ⟨_, z⟩ | ⟨hj, h1⟩
    · cases z
    · rcases getD_set h2 with ⟨_, z⟩ | ⟨hk, h2⟩
      · cases z
      · rw [List.getElem?_set_ne (Ne.symm hj)] at h3
        rw [List.getElem?_set_ne (Ne.symm hk)] at h4
        exact S.sep j k a ds es h1 h2 h3 h4
structure TwoF (K : PySem.W.Frag) (F0 H0 F G : Hp) (ρ : DEnv) (i : Nat) (d : PyData) (σ : St) (H : Hp) : Prop where
  sb : StF K F0 H0 F ρ σ H
  un : ρ[i]? = some .un
  v : ∃ v, σ[i]? = some (some v) ∧ Rp K G v d
  sg : Same G H
  gl : ∀ a xs, G a = some (.lst xs) → F a = none ∧ H0 a = none
  go : ∀ (j : Nat) ds a, ρ[j]? = some (Sl.ow ds) → σ[j]? = some (some (V.ref a)) → G a = none
  gb : ∀ a o x, H0 a = some o → G a = some x → F0 a = some x
def orF (G F : Hp) : Hp := fun a => match G a with | some x => some x | none => F a
theorem orF_l {G F : Hp} : Same G (orF G F) := fun a o e => by unfold orF; rw [e]
section
variable {K : PySem.W.Frag} {F0 H0 F G H H1 : Hp} {ρ : DEnv} {i : Nat} {d : PyData} {σ : St}
theorem TwoF.aS (T : TwoF K F0 H0 F G ρ i d σ H) : StF K F0 H0 (orF G F) (ρ.set i (.fz d)) σ H := by
  have agree : ∀ a o, F a = some o → orF G F a = some o := fun a o e => by
    unfold orF
    cases h : G a with
    | none => exact e
    | some x => exact (T.sg a x h).symm.trans (T.sb.gr.fh a o e)
  have isn : ∀ a, G a = none → orF G F a = F a := fun a e => by unfold orF; rw [e]
  have hfh : Same (orF G F) H := fun a o e => by
    unfold orF at e
    cases h : G a with
    | none => rw [h] at e; exact T.sb.gr.fh a o e
    | some z => rw [h] at e; exact (T.sg a z h).trans e
  refine ⟨⟨T.sb.gr.hh, fun a o e => agree a o (T.sb.gr.ff a o e), hfh, fun a o e => ?_⟩, fun j s e => ?_, fun j k a ds es h1 h2 h3 h4 => ?_, by rw [List.length_set]; exact T.sb.len⟩
  · unfold orF
    cases h : G a with
    | none => exact T.sb.gr.ag a o e
    | some x => exact (T.gb a o x e h).symm
  · rcases getD_set e with ⟨rfl, rfl⟩ | ⟨hj, e⟩
    · obtain ⟨v, h1, h2⟩ := T.v
      exact ⟨v, h1, Rp.mono orF_l _ _ h2⟩
    · have q := T.sb.sl j s e
      cases s with
      | un => trivial
      | fz d' => obtain ⟨v, h1, h2⟩ := q; exact ⟨v, h1, Rp.mono agree _ _ h2⟩
      | br ds => obtain ⟨b, us, h1, h2, h3⟩ := q; exact ⟨b, us, h1, h2, RpAll.mono agree _ _ h3⟩
      | ow ds =>
        obtain ⟨b, us, h1, h2, h3, h4, h5⟩ := q
        exact ⟨b, us, h1, h2, (isn b (T.go j ds b e h1)).trans h3, h4, RpAll.mono agree _ _ h5⟩
  · rcases getD_set h1 with ⟨_, z⟩ | ⟨_, h1⟩
    · cases z
    · rcases getD_set h2 with ⟨_, z⟩ | ⟨_, h2⟩
      · cases z
      · exact T.sb.sep j k a ds es h1 h2 h3 h4
/-- the heap has grown, the slots are as they were -/
theorem TwoF.more (T : TwoF K F0 H0 F G ρ i d σ H) (s : Same H H1) : TwoF K F0 H0 F G ρ i d σ H1 :=
  ⟨T.sb.grow (.more T.sb.gr.fh s), T.un, T.v, T.sg.trans s, T.gl, T.go, T.gb⟩
/-- the frame has grown with the heap -/
theorem TwoF.grow {F1 : Hp} (T : TwoF K F0 H0 F G ρ i d σ H) (g : Grow F H F1 H1) : TwoF K F0 H0 F1 G ρ i d σ H1 :=
  ⟨T.sb.grow g, T.un, T.v, T.sg.trans g.hh, fun a xs e => ⟨(g.ag a _ (T.sg a _ e)).trans (T.gl a xs e).1, (T.gl a xs e).2⟩, T.go, T.gb⟩
theorem TwoF.setZ {j : Nat} {v : V} {d' : PyData} (T : TwoF K F0 H0 F G ρ i d σ H) (hj : j ≠ i) (r : Rp K F v d') : TwoF K F0 H0 F G (ρ.set j (.fz d')) i d (σ.set j (some v)) H := by
  refine ⟨T.sb.setZ r, by rw [List.getElem?_set_ne hj]; exact T.un, by rw [List.getElem?_set_ne hj]; exact T.v, T.sg, T.gl, fun k ds a h1 h2 => ?_, T.gb⟩
  rcases getD_set h1 with ⟨_, z⟩ | ⟨hk, h1⟩
  · cases z
  · rw [List.getElem?_set_ne (Ne.symm hk)] at h2
    exact T.go k ds a h1 h2
theorem TwoF.setO {j : Nat} {p : Addr} {vs : List V} {ds : List PyData} {F1 : Hp} (T : TwoF K F0 H0 F G ρ i d σ H) (hj : j ≠ i) (g : Grow F H F1 H1) (n1 : H p = none) (n2 : F1 p = none) (hp : H1 p = some (.lst vs)) (r : RpAll K F1 vs ds) :
    TwoF K F0 H0 F1 G (ρ.set j (.ow ds)) i d (σ.set j (some (.ref p))) H1 := by
  have T1 := T.grow g
  refine ⟨T.sb.setO g n1 n2 hp r, by rw [List.getElem?_set_ne hj]; exact T.un, by rw [List.getElem?_set_ne hj]; exact T.v, T1.sg, T1.gl, fun k ds' a h1 h2 => ?_, T1.gb⟩
  rcases getD_set h1 with ⟨rfl, _⟩ | ⟨hk, h1⟩
  · have hl : k < σ.length := by
      by_cases hl : k < σ.length
      · exact hl
      · rw [List.getElem?_eq_none (by rw [List.length_set]; omega)] at h2; cases h2
    rw [List.getElem?_set_self hl] at h2
    cases h2
    exact T.sg.free n1
  · rw [List.getElem?_set_ne (Ne.symm hk)] at h2
    exact T.go k ds' a h1 h2
/-- a list that nothing in the frame or the slots holds is changed -/
theorem StF.side {q : Addr} {o : HO} (S : StF K F0 H0 F ρ σ H) (h1 : F q = none) (h2 : H0 q = none) (h3 : ∀ (j : Nat) ds, ρ[j]? = some (Sl.ow ds) → σ[j]? ≠ some (some (V.ref q))) : StF K F0 H0 F ρ σ (upd H q o) := by
  refine ⟨⟨fun b x e => ?_, S.gr.ff, fun b x e => ?_, S.gr.ag⟩, fun j s e => ?_, S.sep, S.len⟩
  · rw [upd_ne (ne_of_none e h2)]; exact S.gr.hh b x e
  · rw [upd_ne (ne_of_none e h1)]; exact S.gr.fh b x e
  · have q' := S.sl j s e
    cases s with
    | un => trivial
    | fz d => exact q'
    | br ds' => exact q'
    | ow ds' =>
      obtain ⟨b, us, e1, hb, fb, zb, rb⟩ := q'
      refine ⟨b, us, e1, ?_, fb, zb, rb⟩
      rw [upd_ne]
      · exact hb
      · rintro rfl
        exact h3 j ds' e e1
/-- q is a list of the data beside the frame -/
def Beside (F0 H0 F : Hp) (ρ : DEnv) (σ : St) (q : Addr) : Prop := F q = none ∧ H0 q = none ∧ ∀ (j : Nat) ds, ρ[j]? = some (Sl.ow ds) → σ[j]? ≠ some (some (V.ref q))
theorem TwoF.beside {q : Addr} {xs : List V} (T : TwoF K F0 H0 F G ρ i d σ H) (h : G q = some (.lst xs)) : Beside F0 H0 F ρ σ q :=
  ⟨(T.gl q xs h).1, (T.gl q xs h).2, fun j ds e1 e2 => by rw [T.go j ds q e1 e2] at h; cases h⟩
end
abbrev KFn := DEnv → PyData → Out
structure DD (X : Cx) (EX : EXX) (i : Nat) (sts : List Stmt) (f : KFn) : Prop where
  ex : ∃ ts, PSs X sts ts ∧ ∀ F0 H0 F G ρ σ H D d, TwoF X.K F0 H0 F G ρ i d σ H → OutOk X.K F0 H0 D EX (f ρ d) → ts D σ H
variable {i : Nat} {fk : KFn} {rest : List Stmt} {fo : OFn}
/-- if c: return .. -/
def kIf (i : Nat) (ft : TFn) (fs : SFn) (fk : KFn) : KFn := fun ρ d => match ft (ρ.set i (.fz d)) with
  | some true => (match fs (ρ.set i (.fz d)) with | .rt r => .rt r | _ => .no)
  | some false => fk ρ d
  | none => .no
theorem dd_if (i : Nat) {xs : List Stmt} (hc : DT X c ft) (ha : DSs X EX xs fs) (hr : DD X EX i rest fk) : DD X EX i (.If c xs [] pos :: rest) (kIf i ft fs fk) := by
  obtain ⟨tc, pc, hc⟩ := hc.ex
  obtain ⟨t, p1, h1⟩ := ha.ex
  obtain ⟨u, p2, h2⟩ := hr.ex
  refine ⟨_, pss_cons (ps_if pc p1 pss_nil) p2, fun F0 H0 F G ρ σ H D d T q => ?_⟩
  unfold kIf at q
  cases e : ft (ρ.set i (.fz d)) with
  | none => rw [e] at q; exact q.elim
  | some k =>
    rw [e] at q
    refine hc F0 H0 (orF G F) _ σ H _ k T.aS e fun F1 H1 g => ?_
    cases k with
    | false => exact iteF (h2 F0 H0 F G ρ σ H1 D d (T.more g.hh) q)
    | true =>
      refine iteT (h1 F0 H0 F1 _ σ H1 { D with nx := u D } (T.aS.grow g) ?_)
      dsimp only at q
      cases e2 : fs (ρ.set i (.fz d)) with
      | rt r => rw [e2] at q; exact q
      | _ => rw [e2] at q; exact q.elim
/-- x = e, e without the data beside the frame -/
def kSet (i j : Nat) (f : EFn) (fk : KFn) : KFn := fun ρ d => match f ρ with
  | some d' => fk (ρ.set j (.fz d')) d
  | none => .no
theorem dd_set (i j : Nat) (h : DEs X e f) (hr : DD X EX i rest fk) (hN : X.N.Nodup) (hj : j ≠ i := by decide) (hi : X.N[j]? = some x := by rfl) (hx : Loc X.env.scope x := by first | exact Or.inl rfl | exact Or.inr rfl) (hs : swapsWith e (some (.Name x pos')) pos.line X.env = pure false := by rfl)
    (hf : X.fn x = true ∨ X.env.scope.names.lookup x = some .local := by first | exact .inl rfl | exact .inr rfl) : DD X EX i (.Assign [.Name x pos'] e pos :: rest) (kSet i j f fk) := by
  obtain ⟨te, p, h⟩ := h.ex
  obtain ⟨u, p2, h2⟩ := hr.ex
  refine ⟨_, pss_cons (L2.ps_set hN hi hx p hs hf) p2, fun F0 H0 F G ρ σ H D d T q => ?_⟩
  unfold kSet at q
  cases e1 : f ρ with
  | none => rw [e1] at q; exact q.elim
  | some d' =>
    rw [e1] at q
    exact h F0 H0 F ρ σ H _ d' T.sb e1 fun v F1 H1 g r => h2 F0 H0 F1 G _ _ H1 D d ((T.grow g).setZ hj r) q
def kSetO (i j : Nat) (f : OFn) (fk : KFn) : KFn := fun ρ d => match f ρ with
  | some ds => fk (ρ.set j (.ow ds)) d
  | none => .no
theorem dd_setLc0 {elt iter : Expr} {q : Pos} {scope : Scope} {fe : EFn} {fi : OFn} {spos : Pos} (i w j : Nat) {y : Str} {py : Pos} (hI : DJ X (.Name x q) iter fi) (ok : BlkOk X.N X.env.scope scope [(x, w)]) (hN : X.N.Nodup)
    (he : ∀ (s : Shared) (H : Hp) (C : Addr) (cl : List (Str × Addr)) (fp : List Addr), DEs (X.blk s H scope (compEnvC scope cl C X.env) fp) elt fe)
    (hg : ∀ (s : Shared) (H : Hp) (C : Addr) (cl : List (Str × Addr)) (fp : List Addr), PG (X.blk s H scope (compEnvC scope cl C X.env) fp) (.Name x q) (gName w))
    (hsw : swapsWith (.ListComp elt [⟨.Name x q, iter, [], 0⟩] scope pos) (some (.Name y py)) spos.line X.env = pure true) (hr : DD X EX i rest fk)
    (hj : j ≠ i := by decide) (hy : X.N[j]? = some y := by rfl) (hyl : X.env.scope.names.lookup y = some .local := by rfl) (hc : X.calm = true := by rfl) (hs : ∀ x, foldedSetIterable iter X.env x = pure x := by intro _; rfl) :
    DD X EX i (.Assign [.Name y py] (.ListComp elt [⟨.Name x q, iter, [], 0⟩] scope pos) spos :: rest) (kSetO i j (oComp w fi tTrue fe) fk) := by
  obtain ⟨wi, pi, hwi⟩ := hI.ex
  obtain ⟨u, p2, h2⟩ := hr.ex
  refine ⟨_, pss_cons (ps_setLc (te := cEs X.K fe) hc hN hy hyl hsw pi ok hg (fun _ _ _ _ _ => pts_nil) (fun s H C cl fp => (he s H C cl fp).can) hs) p2, fun F0 H0 F G ρ σ H D d T q => ?_⟩
  unfold kSetO at q
  cases e1 : oComp w fi tTrue fe ρ with
  | none => rw [e1] at q; exact q.elim
  | some ds =>
    rw [e1] at q
    have hte : EsOk X.K (cEs X.K fe) fe := fun F0 H0 F ρ σ H Q d S e q => ⟨F0, H0, F, ρ, d, S, e, q⟩
    refine eo_lc w hwi (fun F0 H0 F ρ σ H Q b S e q => ?_) hte F0 H0 F ρ σ H (fun v H1 => u D (σ.set j (some v)) H1) ds T.sb e1 fun t vs F1 H1 g n1 n2 hp r => ?_
    · cases e
      exact q F H (.refl S.gr.fh)
    · exact h2 F0 H0 F1 G _ _ H1 D d (T.setO hj g n1 n2 hp r) q
/-- x = f(..): the result stands beside the frame -/
def sKp (i : Nat) (b : SFn) (m : Nat) (fg : LFn) (fk : KFn) : SFn := fun ρ => match fg ρ with
  | some ss => if ss.all slFree = true ∧ i < ρ.length then (match b (ss ++ List.replicate m .un) with | .rt d => fk (ρ.set i .un) d | _ => .no) else .no
  | none => .no
theorem dss_kp (i : Nat) (fuel : Nat) (G : FnOk X.prog X.w X.K X.mg X.base CX k g fd ps (spD X.K CL CN n m bd)) (hr : Room k X.A) (hm : X.mg x = some (.ref g)) (hk : PySem.W.keepIn X.K (.ref g) = true) (hb : Binds X.K fd ps []) (hpx : Passes CX X E0)
    (ha : DG X (a :: es) fg) (hN : X.N.Nodup) (hR : DD X EX i rest fk) (hn : (a :: es).length = n := by rfl) (hg : Gl X x := by rfl) (hdb : (x == ("__debug__" : Str)) = false := by decide)
    (he : starEach (a :: es) X.env = (false, eval a X.env) :: starEach es X.env := by rfl) (hpl : (backTo pos (starEach es X.env)).any (·.1) = false := by rfl)
    (hi : X.N[i]? = some y := by rfl) (hx : Loc X.env.scope y := by first | exact Or.inl rfl | exact Or.inr rfl) (hs : swapsWith (.Call (.Name x p) (a :: es) [] pos) (some (.Name y pos')) pos2.line X.env = pure false := by rfl)
    (hf : X.fn y = true ∨ X.env.scope.names.lookup y = some .local := by first | exact .inl rfl | exact .inr rfl) :
    DSs X EX (.Assign [.Name y pos'] (.Call (.Name x p) (a :: es) [] pos) pos2 :: rest) (sKp i (bd fuel) m fg fk) := by
  obtain ⟨ta, pa, ha⟩ := ha.ex
  obtain ⟨u, p2, h2⟩ := hR.ex
  refine ⟨_, pss_cons (L2.ps_set hN hi hx (pe_call G hr hg hm hk hb .nil hpx pa hdb he hpl) hs hf) p2, fun F0 H0 F ρ σ H D S q => ?_⟩
  unfold sKp at q
  cases e1 : fg ρ with
  | none => rw [e1] at q; exact q.elim
  | some ss =>
    simp only [e1] at q
    by_cases hfr : ss.all slFree = true ∧ i < ρ.length
    · rw [if_pos hfr] at q
      obtain ⟨hfr, hil'⟩ := hfr
      refine ha F0 H0 F ρ σ H _ ss S e1 fun vs F1 H1 g1 r1 hl => ?_
      show spD X.K CL CN n m bd (vs ++ []) H1 _ E0
      rw [List.append_nil]
      refine ⟨hl.trans hn, tupO F1, ss, fuel, (tupO_same F1).trans g1.fh, r1.tup hfr, ?_⟩
      cases e2 : bd fuel (ss ++ List.replicate m .un) with
      | rt d =>
        rw [e2] at q
        dsimp only at q
        intro v F' H' g2 r2
        have S1 := (S.grow g1).grow (Grow.more g1.fh g2.hh)
        have hil : i < σ.length := S.len ▸ hil'
        refine h2 F0 H0 F1 F' (ρ.set i .un) (σ.set i (some v)) H' D d ⟨?_, ?_, ⟨v, List.getElem?_set_self hil, r2⟩, g2.fh, fun b xs e => ?_, fun j ds b e3 e4 => ?_, fun b o z e3 e4 => ?_⟩ q
        · exact S1.drop
        · rw [List.getElem?_set_self hil']
        · have hb1 : H1 b = none := by
            cases h : H1 b with
            | none => rfl
            | some o => exact (tupO_lst ((g2.ag b o h).symm.trans e)).elim
          exact ⟨g1.fh.free hb1, (S.gr.trans g1).hh.free hb1⟩
        · rcases getD_set e3 with ⟨_, z⟩ | ⟨hj, e3⟩
          · cases z
          · rw [List.getElem?_set_ne (Ne.symm hj)] at e4
            obtain ⟨b', us, q1, q2, q3, _⟩ := (S.grow g1).sl j _ e3
            rw [e4] at q1
            cases q1
            cases h : F' b with
            | none => rfl
            | some z =>
              have e5 : tupO F1 b = some z := (g2.ag b _ q2).symm.trans h
              rw [tupO_same F1 b z e5] at q3
              cases q3
        · have hz : H1 b = some o := (S.gr.trans g1).hh b o e3
          have e5 : tupO F1 b = some z := (g2.ag b o hz).symm.trans e4
          exact ((S.gr.trans g1).ag b o e3).symm.trans (tupO_same F1 b z e5)
      | _ => rw [e2] at q; exact q.elim
    · rw [if_neg hfr] at q; exact q.elim

/-! ### the data beside the frame is changed, and never read again -/
theorem pair_rp {K : PySem.W.Frag} {G : Hp} {v : V} {d0 : PyData} {ds : List PyData} (r : Rp K G v (.tuple [d0, .list ds])) : ∃ t x0 q vs, v = .ref t ∧ SqT K G t [x0, .ref q] ∧ G q = some (.lst vs) ∧ RpAll K G vs ds := by
  cases r with
  | tup h1 h2 =>
    cases h2 with
    | cons r0 h2 =>
      cases h2 with
      | cons r1 h2 =>
        cases h2
        cases r1 with
        | lst h3 h4 => exact ⟨_, _, _, _, rfl, h1, h3, h4⟩
theorem ix1 {K : PySem.W.Frag} {t : Addr} {x0 y : V} {H : Hp} {i : Nat} {σ : St} {Q : VK} (hs : σ[i]? = some (some (.ref t))) (h : SqT K H t [x0, y]) (q : Q y H) : tOp (rIx K) (tVar i) (tC (.int 1)) σ H Q :=
  ⟨_, hs, .inr (.inl ⟨t, _, 1, y, rfl, rfl, h, rfl, q⟩)⟩
section
variable {j1 : Nat} {p1 p2 p3 p4 : Pos} {fs : SFn}
def kApp (f : EFn) (fs : SFn) : KFn := fun ρ d => match d with
  | .tuple [_, .list ds] => if ds.length < 1000000 then (match f ρ with | some _ => fs ρ | none => .no) else .no
  | _ => .no
/-- x[1].append(e) -/
theorem dd_append (i : Nat) {apos cpos : Pos} (h : DEs X e f) (hr : DSs X EX rest fs) (hN : X.N[i]? = some x := by rfl) (hv : Vis X.env.scope x := by first | exact Or.inl rfl | exact Or.inr (Or.inl rfl) | exact Or.inr (Or.inr rfl)) (hd : (x == ("__debug__" : Str)) = false := by decide)
    (hcd : (x == ("__classdict__" : Str)) = false := by decide)
    (hbase : attributeBase (.Subscript (.Name x p1) (.Constant (.int 1) j1 p2) p3) "append" X.env (eval (.Subscript (.Name x p1) (.Constant (.int 1) j1 p2) p3) X.env) = eval (.Subscript (.Name x p1) (.Constant (.int 1) j1 p2) p3) X.env := by rfl)
    (hfew : ((backTo cpos (starEach [e] X.env)).all (fun x => !x.1) && (backToKw cpos (keywordEach [] X.env)).all (fun x => x.1.isSome)
      && decide ([e].length + ([] : List Keyword).length + (if ([] : List Keyword).isEmpty then 0 else 1) < 30)) = true := by rfl)
    (hline : (apos.endLine == cpos.line) = true := by rfl) (hs : starEach [e] X.env = [(false, eval e X.env)] := by rfl)
    (hsw : swapsWith (.Call (.Attribute (.Subscript (.Name x p1) (.Constant (.int 1) j1 p2) p3) "append" apos) [e] [] cpos) none pos.line X.env = pure false := by rfl) :
    DD X EX i (.Expr (.Call (.Attribute (.Subscript (.Name x p1) (.Constant (.int 1) j1 p2) p3) "append" apos) [e] [] cpos) pos :: rest) (kApp f fs) := by
  obtain ⟨te, pe, h⟩ := h.ex
  obtain ⟨u, p2', h2⟩ := hr.ex
  refine ⟨_, pss_cons (ps_expr (pe_bm PySem.F.plainAttrs_list PySem.F.slot_list_append PySem.F.type_list_append mt_append (pe_ix ix_seq (pe_var hN hv hd hcd) pe_int (by exact fun _ _ => rfl)) (pa_cons pe pa_nil hs) hbase hfew hline hs rfl) hsw) p2', fun F0 H0 F G ρ σ H D d T q => ?_⟩
  obtain ⟨v, hσ, r⟩ := T.v
  unfold kApp at q
  split at q
  · rename_i d0 ds
    by_cases hl : ds.length < 1000000
    · rw [if_pos hl] at q
      obtain ⟨t, x0, b, vs, rfl, h1, hb, rb⟩ := pair_rp r
      cases e2 : f ρ with
      | none => rw [e2] at q; exact q.elim
      | some d' =>
        simp only [e2] at q
        refine ix1 hσ (seqT_same T.sg h1) ⟨.inl ⟨rfl, _, SqL.of (T.sg _ _ hb)⟩, h F0 H0 F ρ σ H _ d' T.sb e2 fun w F1 H1 g r1 => ?_⟩
        obtain ⟨b1, b2, b3⟩ := T.beside hb
        refine ⟨b, vs, w, rfl, rfl, g.hh _ _ (T.sg _ _ hb), by rw [rb.length]; exact small1l (Nat.le_of_lt hl), ?_⟩
        exact h2 F0 H0 F1 ρ σ _ D ((T.sb.grow g).side ((g.ag _ _ (T.sg _ _ hb)).trans b1) b2 b3) q
    · rw [if_neg hl] at q; exact q.elim
  · exact q.elim
def kClr (fs : SFn) : KFn := fun ρ d => match d with
  | .tuple [_, .list _] => fs ρ
  | _ => .no
/-- x[1].clear() -/
theorem dd_clear (i : Nat) {apos cpos : Pos} (hr : DSs X EX rest fs) (hN : X.N[i]? = some x := by rfl) (hv : Vis X.env.scope x := by first | exact Or.inl rfl | exact Or.inr (Or.inl rfl) | exact Or.inr (Or.inr rfl)) (hd : (x == ("__debug__" : Str)) = false := by decide)
    (hcd : (x == ("__classdict__" : Str)) = false := by decide)
    (hbase : attributeBase (.Subscript (.Name x p1) (.Constant (.int 1) j1 p2) p3) "clear" X.env (eval (.Subscript (.Name x p1) (.Constant (.int 1) j1 p2) p3) X.env) = eval (.Subscript (.Name x p1) (.Constant (.int 1) j1 p2) p3) X.env := by rfl)
    (hline : (apos.endLine == cpos.line) = true := by rfl)
    (hsw : swapsWith (.Call (.Attribute (.Subscript (.Name x p1) (.Constant (.int 1) j1 p2) p3) "clear" apos) [] [] cpos) none pos.line X.env = pure false := by rfl) :
    DD X EX i (.Expr (.Call (.Attribute (.Subscript (.Name x p1) (.Constant (.int 1) j1 p2) p3) "clear" apos) [] [] cpos) pos :: rest) (kClr fs) := by
  obtain ⟨u, p2', h2⟩ := hr.ex
  refine ⟨_, pss_cons (ps_expr (pe_bm0 PySem.F.plainAttrs_list PySem.F.slot_list_clear PySem.F.type_list_clear mt_clear (pe_ix ix_seq (pe_var hN hv hd hcd) pe_int (by exact fun _ _ => rfl)) hbase hline) hsw) p2', fun F0 H0 F G ρ σ H D d T q => ?_⟩
  obtain ⟨v, hσ, r⟩ := T.v
  unfold kClr at q
  split at q
  · rename_i d0 ds
    obtain ⟨t, x0, b, vs, rfl, h1, hb, rb⟩ := pair_rp r
    obtain ⟨b1, b2, b3⟩ := T.beside hb
    exact ix1 hσ (seqT_same T.sg h1) ⟨.inl ⟨rfl, _, SqL.of (T.sg _ _ hb)⟩, b, vs, rfl, rfl, T.sg _ _ hb, h2 F0 H0 F ρ σ _ D (T.sb.side b1 b2 b3) q⟩
  · exact q.elim
end
end
end L2.RC

namespace L2.RC
open PySem PySem.Spec PyProof.Rows
section
variable {X : Cx} {EX : EXX} {e a b c : Expr} {pos p p2 q : Pos} {f fa fb : EFn} {x : Str}
/-! ### texts -/
def oSplit (fa fb : EFn) : OFn := fun ρ => match fa ρ with
  | some (.str z) => (match fb ρ with | some (.str y) => if (y.length == 0) = false ∧ z.length ≤ 1000000 then some ((Txt.split z y).map .str) else none | _ => none)
  | _ => none
theorem small2m {n : Nat} (h : n ≤ 1000000) : n + 2 ≤ sizeLine := by rw [sizeLine_eq]; omega
theorem de_split {apos : Pos} (ha : DEs X a fa) (hb : DEs X b fb) (hs : starEach [b] X.env = [(false, eval b X.env)] := by rfl) (hbase : attributeBase a "split" X.env (eval a X.env) = eval a X.env := by rfl) (hline : (apos.endLine == pos.line) = true := by rfl) :
    DEo X (.Call (.Attribute a "split" apos) [b] [] pos) (oSplit fa fb) := by
  obtain ⟨ta, pa, ha⟩ := ha.ex
  obtain ⟨tb, pb, hb⟩ := hb.ex
  refine ⟨_, pe_split pa pb hs hbase hline, fun F0 H0 F ρ σ H Q ds S e q => ?_⟩
  unfold oSplit at e
  cases h1 : fa ρ with
  | none => rw [h1] at e; cases e
  | some x =>
    rw [h1] at e
    cases x <;> first | (cases e; done) | skip
    rename_i z
    cases h2 : fb ρ with
    | none => simp only [h2] at e; cases e
    | some y =>
      simp only [h2] at e
      cases y <;> first | (cases e; done) | skip
      rename_i y
      simp only at e
      rw [Option.ite_none_right_eq_some] at e
      obtain ⟨⟨hy, hz⟩, e⟩ := e
      cases e
      refine ha F0 H0 F ρ σ H _ _ S h1 fun v F1 H1 g1 r1 => ?_
      cases r1
      refine ⟨⟨z, rfl⟩, hb F0 H0 F1 ρ σ H1 _ _ (S.grow g1) h2 fun w F2 H2 g2 r2 => ?_⟩
      cases r2
      refine ⟨z, y, rfl, rfl, hy, small2m hz, fun p hp => ?_⟩
      have g := g1.trans g2
      exact q p _ F2 _ (g.trans (Grow.own g.fh hp)) (g.hh.free hp) (none_of g.fh hp) upd_same (rpAll_strs _)
def strsOf : List PyData → Option (List Str)
  | [] => some []
  | .str i :: ds => (strsOf ds).map (i :: ·)
  | _ :: _ => none
theorem strsOf_eq : ∀ {ds : List PyData} {ns : List Str}, strsOf ds = some ns → ds = ns.map .str
  | [], ns, h => by cases h; rfl
  | .str i :: ds, ns, h => by
    obtain ⟨ms, h1, h2⟩ := Option.map_eq_some_iff.mp (show (strsOf ds).map (i :: ·) = some ns from h)
    subst h2
    rw [strsOf_eq h1] <;> rfl
  | .none :: _, _, h => by cases h
  | .bool _ :: _, _, h => by cases h
  | .int _ :: _, _, h => by cases h
  | .list _ :: _, _, h => by cases h
  | .tuple _ :: _, _, h => by cases h
  | .dict _ :: _, _, h => by cases h
theorem strsOf_map : ∀ (ns : List Str), strsOf (ns.map .str) = some ns
  | [] => rfl
  | n :: ns => by
    show (strsOf (ns.map .str)).map (n :: ·) = _
    rw [strsOf_map ns] <;> rfl
def eJoin (fa fb : EFn) : EFn := fun ρ => match fa ρ with
  | some (.str z) => (match fb ρ with
    | some (.list ds) => (match strsOf ds with | some ys => if (ys.map (·.length)).sum + ys.length * z.length ≤ 1000000 then some (.str (Txt.join z ys)) else none | none => none)
    | _ => none)
  | _ => none
theorem de_join {apos : Pos} (ha : DEs X a fa) (hb : DEw X b fb) (hs : starEach [b] X.env = [(false, eval b X.env)] := by rfl) (hbase : attributeBase a "join" X.env (eval a X.env) = eval a X.env := by rfl) (hline : (apos.endLine == pos.line) = true := by rfl) :
    DEs X (.Call (.Attribute a "join" apos) [b] [] pos) (eJoin fa fb) := by
  obtain ⟨ta, pa, ha⟩ := ha.ex
  obtain ⟨tb, pb, hb⟩ := hb.ex
  refine ⟨_, pe_join pa pb hs hbase hline, fun F0 H0 F ρ σ H Q d S e q => ?_⟩
  unfold eJoin at e
  cases h1 : fa ρ with
  | none => rw [h1] at e; cases e
  | some x =>
    rw [h1] at e
    cases x <;> first | (cases e; done) | skip
    rename_i z
    cases h2 : fb ρ with
    | none => simp only [h2] at e; cases e
    | some y =>
      simp only [h2] at e
      cases y <;> first | (cases e; done) | skip
      rename_i ds
      simp only at e
      cases h3 : strsOf ds with
      | none => simp only [h3] at e; cases e
      | some ys =>
        simp only [h3] at e
        rw [Option.ite_none_right_eq_some] at e
        obtain ⟨hz, e⟩ := e
        cases e
        have hd := strsOf_eq h3
        subst hd
        refine ha F0 H0 F ρ σ H _ _ S h1 fun v F1 H1 g1 r1 => ?_
        cases r1
        refine ⟨⟨z, rfl⟩, hb F0 H0 F1 ρ σ H1 _ _ (S.grow g1) h2 fun w F2 H2 g2 r2 => ?_⟩
        obtain ⟨l, vs, rfl, q1, q2⟩ := r2.list g2.fh
        rw [q2.strs] at q1
        exact ⟨z, l, ys, rfl, rfl, .inl q1, by omega, q _ F2 H2 (g1.trans g2) (.str _)⟩
def eFind (fa fb : EFn) : EFn := fun ρ => match fa ρ with
  | some (.str z) => (match fb ρ with | some (.str y) => some (.int (Txt.find z y)) | _ => none)
  | _ => none
theorem de_find {apos : Pos} (ha : DEs X a fa) (hb : DEs X b fb) (hs : starEach [b] X.env = [(false, eval b X.env)] := by rfl) (hbase : attributeBase a "find" X.env (eval a X.env) = eval a X.env := by rfl) (hline : (apos.endLine == pos.line) = true := by rfl) :
    DEs X (.Call (.Attribute a "find" apos) [b] [] pos) (eFind fa fb) := by
  obtain ⟨ta, pa, ha⟩ := ha.ex
  obtain ⟨tb, pb, hb⟩ := hb.ex
  refine ⟨_, pe_m1 PySem.F.slot_str_find PySem.F.type_str_find mt_find pa pb hs hbase hline, fun F0 H0 F ρ σ H Q d S e q => ?_⟩
  unfold eFind at e
  cases h1 : fa ρ with
  | none => rw [h1] at e; cases e
  | some x =>
    rw [h1] at e
    cases x <;> first | (cases e; done) | skip
    rename_i z
    cases h2 : fb ρ with
    | none => simp only [h2] at e; cases e
    | some y =>
      simp only [h2] at e
      cases y <;> first | (cases e; done) | skip
      cases e
      refine ha F0 H0 F ρ σ H _ _ S h1 fun v F1 H1 g1 r1 => ?_
      cases r1
      refine ⟨⟨z, rfl⟩, hb F0 H0 F1 ρ σ H1 _ _ (S.grow g1) h2 fun w F2 H2 g2 r2 => ?_⟩
      cases r2
      exact ⟨z, _, rfl, rfl, q _ F2 H2 (g1.trans g2) (.int _)⟩
end
end L2.RC

namespace L2.RC
open PySem PySem.Spec PyProof.Rows
section
variable {X : Cx} {EX : EXX} {e a : Expr} {pos pos2 pos3 pos4 p : Pos} {f fa : EFn} {CL CN CR fI : Addr} {k : Nat} {x : Str}
variable {g : Addr} {fd : FuncData} {ps : List Str} {n m : Nat} {bd : Nat → SFn} {fg : LFn} {es : List Expr} {y : Str} {pos' : Pos}
/-! ### try: x = (s1, f(..)) except RopeError as e: x = (s2, isinstance(e, NoPlan) and isinstance(e, ValueError) and not isinstance(e, Late)) -/
def sTryP (i j : Nat) (s1 s2 : Str) (b : SFn) (m : Nat) (fg : LFn) : SFn := fun ρ => match fg ρ, ρ[j]? with
  | some ss, some .un => (match b (ss ++ List.replicate m .un) with
    | .rt d => .nx (ρ.set i (.fz (.tuple [.str s1, d])))
    | .rs .noplan => .nx (ρ.set i (.fz (.tuple [.str s2, .bool true])))
    | _ => .no)
  | _, _ => .no
theorem ds_tryP (i j : Nat) {s1 s2 nm : Str} {c1 c2 k1 k2 : Nat} {py q1 q2 q3 q4 q7 q8 q9 np np2 pp v1 v2 v3 v4 v5 v6 v7 v8 v9 v10 v11 v12 v13 v14 : Pos} (fuel : Nat) (TN : NoPl X.K X.mg "NoPlan" CN) (TI : ExcI X.K CN) (gL : X.mg "Late" = some (.ref CL)) (gR : X.mg "RopeError" = some (.ref CR))
    (tR : PySem.W.exmOne X.K (.ref CN) (.ref CR) = some true) (oL : PySem.W.kitOne X.K (.ref CN) (.ref CN) = some true) (oV : PySem.W.kitOne X.K (.ref CN) (.type "ValueError") = some true) (oN : PySem.W.kitOne X.K (.ref CN) (.ref CL) = some false)
    (mI : X.mg "isinstance" = none) (mV : X.mg "ValueError" = none)
    (G : FnOk X.prog X.w X.K X.mg X.base (L2.CX X.prog X.w) k g fd ps (spD X.K CL CN n m bd)) (hr : Room k X.A) (hm : X.mg x = some (.ref g))
    (hk : PySem.W.keepIn X.K (.ref g) = true) (hb : Binds X.K fd ps [])
    (ha : ∀ (pn : List (Addr × Obj)) (xe : Value → Shared → Prop), DG (X.tr pn xe) (a :: es) fg) (hN : X.N.Nodup) (hij : i ≠ j := by decide) (hs0 : X.stack = X.env :: X.outer := by rfl) (hf0 : X.env.frame = some X.env.locals := by rfl) (hn : (a :: es).length = n := by rfl) (hg : Gl X x := by rfl) (hgL : Gl X "Late" := by rfl)
    (hgR : Gl X "RopeError" := by rfl) (hgN : Gl X "NoPlan" := by rfl) (hgI : Gl X "isinstance" := by rfl) (hgV : Gl X "ValueError" := by rfl) (hdb : (x == ("__debug__" : Str)) = false := by decide)
    (he : starEach (a :: es) X.env = (false, eval a X.env) :: starEach es X.env := by rfl) (hpl : (backTo pos (starEach es X.env)).any (·.1) = false := by rfl)
    (hi : X.N[i]? = some y := by rfl) (hjn : X.N[j]? = some nm := by rfl) (hlj : X.env.kindOf nm = some .local := by rfl) (hx : Loc X.env.scope y := by first | exact Or.inl rfl | exact Or.inr rfl)
    (hs : swapsWith (.Tuple [.Constant (.str s1) c1 q1, .Call (.Name x p) (a :: es) [] pos] k1 q2) (some (.Name y py)) q3.line X.env = pure false := by rfl)
    (hs2 : swapsWith (.Tuple [.Constant (.str s2) c2 q4, .BoolOp .And [.Call (.Name "isinstance" v1) [.Name nm v2, .Name "NoPlan" v3] [] v4, .Call (.Name "isinstance" v5) [.Name nm v6, .Name "ValueError" v7] [] v8, .UnaryOp .Not (.Call (.Name "isinstance" v9) [.Name nm v10, .Name "Late" v11] [] v12) v13] v14] k2 q7) (some (.Name y q8)) q9.line X.env = pure false := by rfl)
    (hv : Vis X.env.scope nm := by first | exact Or.inl rfl | exact Or.inr (Or.inl rfl) | exact Or.inr (Or.inr rfl)) (hdn : (nm == ("__debug__" : Str)) = false := by decide) (hcdn : (nm == ("__classdict__" : Str)) = false := by decide)
    (hf : X.fn y = true ∨ X.env.scope.names.lookup y = some .local := by first | exact .inl rfl | exact .inr rfl) :
    DS X EX (.Try [.Assign [.Name y py] (.Tuple [.Constant (.str s1) c1 q1, .Call (.Name x p) (a :: es) [] pos] k1 q2) q3]
      [.ExceptHandler (some (.Name "RopeError" np)) (some nm) [.Assign [.Name y q8] (.Tuple [.Constant (.str s2) c2 q4, .BoolOp .And [.Call (.Name "isinstance" v1) [.Name nm v2, .Name "NoPlan" v3] [] v4, .Call (.Name "isinstance" v5) [.Name nm v6, .Name "ValueError" v7] [] v8, .UnaryOp .Not (.Call (.Name "isinstance" v9) [.Name nm v10, .Name "Late" v11] [] v12) v13] v14] k2 q7) q9] np2] [] [] pp) (sTryP i j s1 s2 (bd fuel) m fg) := by
  have hA : ∃ ta, (∀ (pn : List (Addr × Obj)) (xe : Value → Shared → Prop), PA (X.tr pn xe) (a :: es) ta) ∧ EgOk X.K ta (a :: es).length fg := by
    refine ⟨fun σ H Q => ∃ F0 H0 F ρ ss, StF X.K F0 H0 F ρ σ H ∧ fg ρ = some ss ∧ ∀ vs F' H', Grow F H F' H' → ArgsOk X.K F' H' vs ss → vs.length = (a :: es).length → Q vs H', fun pn xe => ?_, fun F0 H0 F ρ σ H Q ss S e q => ⟨F0, H0, F, ρ, ss, S, e, q⟩⟩
    obtain ⟨ta, pa, hta⟩ := (ha pn xe).ex
    exact ⟨fun pos pins s σ H Q I ⟨F0, H0, F, ρ, ss, S, e, q⟩ => pa.run pos pins s σ H Q I (hta F0 H0 F ρ σ H Q ss S e q)⟩
  obtain ⟨ta, pa, hta⟩ := hA
  rw [hn] at hta
  refine ⟨_, ps_try_as (i := j) (tb := fun W => tAsg (tTup (tCons (tC (.str s1)) (tCons (tCallS (spD X.K CL CN n m bd) (WE W) ta) tNil))) (gName i))
    (ts := fun a cls d => tAsg (tTup (tCons (tC (.str s2)) (tCons (tAndV (tCB (rIsX X.K a cls d) (tCons (tVar j) (tCons (tC (.ref CN)) tNil))) (tAndV (tCB (rIsX X.K a cls d) (tCons (tVar j) (tCons (tC (.ty "ValueError")) tNil))) (tNotV (tCB (rIsX X.K a cls d) (tCons (tVar j) (tCons (tC (.ref CL)) tNil)))))) tNil))) (gName i))
    (Wout := fun _ _ _ _ => False) (c := .ref CR)
    hs0 hf0 hN hjn hlj ⟨hgR, by decide, .inl gR⟩ takes0
    (fun W pn xe tk _ => pss_one (L2.ps_set (X := X.tr pn xe) hN hi hx (pe_tup (pa_cons pe_str (pa_cons (pe_callS (X := X.tr pn xe) G hr hg hm hk hb (fun σ => passAt tk σ) (pa pn xe) hdb he hpl) pa_nil))) hs hf))
    (fun b oe cls d pn hz hfl => pss_one (L2.ps_set (X := X.suite b ((b, oe) :: pn)) hN hi hx (pe_tup (pa_cons pe_str (pa_cons
        (pe_and (pe_callB (call_isX hz hfl) hgI mI (by decide +kernel) (pa_cons (pe_var (X := X.suite b ((b, oe) :: pn)) hjn hv hdn hcdn) (pa_cons (pe_glob hgN TN.g rfl) pa_nil)))
          (pe_and (pe_callB (call_isX hz hfl) hgI mI (by decide +kernel) (pa_cons (pe_var (X := X.suite b ((b, oe) :: pn)) hjn hv hdn hcdn) (pa_cons (pe_bltn (v := .ty "ValueError") (u := .type "ValueError") hgV mV (by decide +kernel) rfl) pa_nil)))
            (pe_one (pe_not (pe_callB (call_isX hz hfl) hgI mI (by decide +kernel) (pa_cons (pe_var (X := X.suite b ((b, oe) :: pn)) hjn hv hdn hcdn) (pa_cons (pe_glob hgL gL rfl) pa_nil))))))) pa_nil))) hs2 hf)), fun F0 H0 F ρ σ H D S q => ?_⟩
  unfold sTryP at q
  cases e1 : fg ρ with
  | none => rw [e1] at q; exact q.elim
  | some ss =>
    cases e2 : ρ[j]? with
    | none => rw [e1, e2] at q; exact q.elim
    | some sl =>
      cases sl with
      | un =>
        simp only [e1, e2] at q
        have hj : j < σ.length := by
          have := (List.getElem?_eq_some_iff.mp e2).1
          rw [S.len] at this
          exact this
        refine callS_ok (F0 := F0) (H0 := H0) fuel hta S e1 rfl (fun d h v F' H' g r => ?_) (fun ρ' h => ?_) (fun r h d F' H' g e => ?_) (fun h F' H' g => ?_) ?_
        · rw [h] at q
          refine ⟨two_line _ _, fun t ht => ?_⟩
          have g2 := Grow.froz (o := .tup [.str s1, v]) g.fh ht
          exact q _ _ _ ((S.grow (g.trans g2)).setZ (.tup (SqT.of upd_same) (.cons (.str _) (.cons (Rp.mono g2.ff _ _ r) .nil))))
        · rw [h] at q; exact q.elim
        · rw [h] at q; exact q.elim
        · rw [h] at q
          refine ⟨true, tR, fun _ b hbn => ?_, fun z => nomatch z⟩
          have hslot : (σ.set j (some (V.ref b)))[j]? = some (some (V.ref b)) := List.getElem?_set_self hj
          refine ⟨.ref b, hslot, CN, .ref CN, .ref CN, true, rfl, TI, rfl, fun u hu => hu, .inl rfl, oL, true, rfl, iteT ?_⟩
          refine ⟨.ref b, hslot, CN, .ty "ValueError", .type "ValueError", true, rfl, TI, rfl, fun u hu => hu, .inl rfl, oV, true, rfl, iteT ?_⟩
          refine ⟨.ref b, hslot, CN, .ref CL, .ref CL, false, rfl, TI, rfl, fun u hu => hu, .inl rfl, oN, false, rfl, ?_⟩
          refine ⟨two_line _ _, fun t ht => ?_⟩
          have g2 := Grow.froz (o := .tup [.str s2, .bl true]) g.fh ht
          have S2 := ((S.grow (g.trans g2)).any (o := some (.ref b)) e2).setZ (i := i) (v := .ref t) (d := .tuple [.str s2, .bool true]) (.tup (SqT.of upd_same) (.cons (.str _) (.cons (.bl _) .nil)))
          exact q _ _ _ (S2.any (j := j) (o := none) (by rw [List.getElem?_set_ne hij]; exact e2))
        · cases h : bd fuel (ss ++ List.replicate m .un) with
          | rt d => exact .inl ⟨d, rfl⟩
          | rs y => exact .inr (.inr ⟨y, rfl⟩)
          | nx ρ' => exact .inr (.inl ⟨ρ', rfl⟩)
          | bk ρ' => rw [h] at q; exact q.elim
          | ct ρ' => rw [h] at q; exact q.elim
          | no => rw [h] at q; exact q.elim
      | _ => rw [e1, e2] at q; exact q.elim
end
end L2.RC

namespace L2.RC
open PySem PySem.Spec PyProof.Rows
/-! ### the functions of the slots, at given slots -/
section
variable {ρ : DEnv} {f g fa fb : EFn} {s t : SFn} {ft fu : TFn} {fo fi : OFn} {fg : LFn} {i : Nat} {d : PyData} {b : SFn} {m : Nat}
theorem a_nil : sNil ρ = .nx ρ := rfl
theorem a_seq : sSeq s t ρ = (match s ρ with | .nx ρ' => t ρ' | o => o) := rfl
theorem a_if : sIf ft s t ρ = (match ft ρ with | some true => s ρ | some false => t ρ | none => .no) := rfl
theorem a_ret : sRet f ρ = (match f ρ with | some d => .rt d | none => .no) := rfl
theorem a_set : sSet i f ρ = (match f ρ with | some d => .nx (ρ.set i (.fz d)) | none => .no) := rfl
theorem a_setO : sSetO i fo ρ = (match fo ρ with | some ds => .nx (ρ.set i (.ow ds)) | none => .no) := rfl
theorem a_sfrz : sFrz i s ρ = s (frz i ρ) := rfl
theorem a_frz : frz i ρ = (match ρ[i]? with | some (.ow ds) => ρ.set i (.fz (.list ds)) | _ => ρ) := rfl
theorem a_mut {h : List PyData → PyData → Option (List PyData)} : sMut i f h ρ = (match ρ[i]? with
  | some (.ow ds) => (match f ρ with | some d => (match h ds d with | some es => .nx (ρ.set i (.ow es)) | none => .no) | none => .no)
  | _ => .no) := rfl
theorem a_put : sPut i f g ρ = (match ρ[i]? with
  | some (.ow ds) => (match g ρ with | some d => (match f ρ with | some (.int k) => (match ixN ds.length k with | some j => .nx (ρ.set i (.ow (ds.set j d))) | none => .no) | _ => .no) | none => .no)
  | _ => .no) := rfl
theorem a_ins : sIns i f g ρ = (match ρ[i]? with
  | some (.ow ds) => (match f ρ with | some (.int k) => (match g ρ with | some d => if ds.length < 1000000 ∧ 0 ≤ k ∧ k < 1000000 then .nx (ρ.set i (.ow (ds.take k.toNat ++ [d] ++ ds.drop k.toNat))) else .no | none => .no) | _ => .no)
  | _ => .no) := rfl
theorem a_for : sFor i fi s ρ = (match fi ρ with | some ds => forL i s ds ρ | none => .no) := rfl
theorem a_bin {h : PyData → PyData → Option PyData} : eBin h fa fb ρ = (fa ρ).bind fun x => (fb ρ).bind fun y => h x y := rfl
theorem a_seqv : eSeq i ρ = (match ρ[i]? with | some (.fz d) => some d | some (.ow ds) => some (.list ds) | some (.br ds) => some (.list ds) | _ => none) := rfl
theorem a_var : eVar i ρ = (match ρ[i]? with | some (.fz d) => some d | _ => none) := rfl
theorem a_c : eC d ρ = some d := rfl
theorem a_un {h : PyData → Option PyData} : eUn h f ρ = (f ρ).bind h := rfl
theorem a_tup {fs : AFn} : eTup fs ρ = (fs ρ).map .tuple := rfl
theorem a_evs0 : evs [] ρ = some [] := rfl
theorem a_evs1 {fs : List EFn} : evs (f :: fs) ρ = (f ρ).bind fun d => (evs fs ρ).map (d :: ·) := rfl
theorem a_call : eCall b m fg ρ = (fg ρ).bind fun ss => match b (ss ++ List.replicate m .un) with
  | .rt d => some d
  | .nx _ => some .none
  | _ => none := rfl
theorem a_gs : gS f fg ρ = (f ρ).bind fun d => (fg ρ).map (Sl.fz d :: ·) := rfl
theorem a_gw : gW f fg ρ = (match f ρ with | some (.list ds) => (fg ρ).map (Sl.br ds :: ·) | _ => none) := rfl
theorem a_gnil : gNil ρ = some [] := rfl
theorem a_tof : tOf f ρ = (match f ρ with | some (.bool b) => some b | _ => none) := rfl
theorem a_tand : tAnd2 ft fu ρ = (match ft ρ with | some true => fu ρ | some false => some false | none => none) := rfl
theorem a_tor : tOr2 ft fu ρ = (match ft ρ with | some true => some true | some false => fu ρ | none => none) := rfl
theorem a_tnot : tNot2 ft ρ = (ft ρ).map (!·) := rfl
theorem a_and : eAnd fa fb ρ = (match fa ρ with | some (.bool true) => fb ρ | some (.bool false) => some (.bool false) | _ => none) := rfl
theorem a_or : eOr fa fb ρ = (match fa ρ with | some (.bool true) => some (.bool true) | some (.bool false) => fb ρ | _ => none) := rfl
theorem a_not : eNot fa ρ = (match fa ρ with | some (.bool k) => some (.bool !k) | _ => none) := rfl
theorem a_eif : eIf ft fa fb ρ = (match ft ρ with | some true => fa ρ | some false => fb ρ | none => none) := rfl
theorem a_neg : eNeg fa ρ = (match fa ρ with | some (.int i) => some (.int (-i)) | _ => none) := rfl
theorem a_lstD : lstD fo ρ = (fo ρ).map PyData.list := rfl
theorem a_rg1 : iRg1 fa ρ = (match fa ρ with | some (.int j) => if rngOk j = true then some (rngD 0 j.toNat) else none | _ => none) := rfl
theorem a_rg2 : iRg2 fa fb ρ = (match fa ρ with | some (.int i) => (match fb ρ with | some (.int j) => if (rngOk i && rngOk j) = true then some (rngD i (j - i).toNat) else none | _ => none) | _ => none) := rfl
theorem a_ilst : iLst fa ρ = (match fa ρ with | some (.list ds) => some ds | _ => none) := rfl
theorem a_itpl : iTpl fa ρ = (match fa ρ with | some (.tuple ds) => some ds | _ => none) := rfl
theorem a_olst : oLst fa ρ = (match fa ρ with | some (.list ds) => some ds | some (.tuple ds) => some ds | _ => none) := rfl
theorem a_comp : oComp i fi ft f ρ = (fi ρ).bind fun ds => if ds.length ≤ 1000000 then compL i ft f ρ ds else none := rfl
theorem a_cat : oCat fa fb ρ = (match fa ρ with
  | some (.list xs) => (match fb ρ with | some (.list ys) => if xs.length + ys.length ≤ 1000000 then some (xs ++ ys) else none | _ => none)
  | _ => none) := rfl
theorem a_for0 : forL i s [] ρ = .nx ρ := rfl
theorem a_for1 {ds : List PyData} : forL i s (d :: ds) ρ = (match s (ρ.set i (.fz d)) with
    | .nx ρ' => forL i s ds ρ'
    | .ct ρ' => forL i s ds ρ'
    | .bk ρ' => .nx ρ'
    | o => o) := rfl
theorem a_comp0 : compL i ft f ρ [] = some [] := rfl
theorem a_comp1 {ds : List PyData} : compL i ft f ρ (d :: ds) = (match ft (ρ.set i (.fz d)) with
    | some true => (f (ρ.set i (.fz d))).bind fun y => (compL i ft f ρ ds).map (y :: ·)
    | some false => compL i ft f ρ ds
    | none => none) := rfl
theorem a_ttrue : tTrue ρ = some true := rfl
end
section
variable {ρ : DEnv} {f g fa fb : EFn} {s t : SFn} {ft fu : TFn} {fo fi : OFn} {fg : LFn} {i j : Nat} {d : PyData} {b : SFn} {m : Nat} {fk : KFn} {s1 s2 : Str}
theorem a_late : sLate f ρ = (match f ρ with | some (.int j) => .rs (.late j) | _ => .no) := rfl
theorem a_nopl : sNoPlan ρ = .rs .noplan := rfl
theorem a_setX : sSetX i b m fg ρ = (match fg ρ with
  | some ss => (match b (ss ++ List.replicate m .un) with
    | .rt d => .nx (ρ.set i (.fz d))
    | .nx _ => .nx (ρ.set i (.fz .none))
    | .rs y => .rs y
    | _ => .no)
  | none => .no) := rfl
theorem a_tryN : sTryN i b m fg ρ = (match fg ρ with
  | some ss => (match b (ss ++ List.replicate m .un) with
    | .rt d => .nx (ρ.set i (.fz d))
    | .rs (.late _) => .rt .none
    | _ => .no)
  | none => .no) := rfl
theorem a_tryL : sTryL i j s1 s2 b m fg ρ = (match fg ρ, ρ[j]? with
  | some ss, some .un => (match b (ss ++ List.replicate m .un) with
    | .rt d => .nx (ρ.set i (.fz (.tuple [.str s1, d])))
    | .rs (.late r) => .nx (ρ.set i (.fz (.tuple [.str s2, .int r])))
    | _ => .no)
  | _, _ => .no) := rfl
theorem a_setT : sSetT i b m fg ρ = (match fg ρ with
  | some ss => if ss.all slFree = true then (match b (ss ++ List.replicate m .un) with
    | .rt (.list ds) => if noLs ds = true then .nx (ρ.set i (.ow ds)) else .no
    | .rt .none => .nx (ρ.set i (.fz .none))
    | _ => .no) else .no
  | none => .no) := rfl
theorem a_clr : sClr i ρ = (match ρ[i]? with | some (.ow _) => .nx (ρ.set i (.ow [])) | _ => .no) := rfl
theorem a_ibr : iBr i ρ = (match ρ[i]? with | some (.br ds) => some ds | some (.fz (.list ds)) => some ds | _ => none) := rfl
theorem a_iow : iOw i ρ = (match ρ[i]? with | some (.ow ds) => some ds | some (.br ds) => some ds | some (.fz (.list ds)) => some ds | _ => none) := rfl
theorem a_kif : kIf i ft s fk ρ d = (match ft (ρ.set i (.fz d)) with
  | some true => (match s (ρ.set i (.fz d)) with | .rt r => .rt r | _ => .no)
  | some false => fk ρ d
  | none => .no) := rfl
theorem a_kset : kSet i j f fk ρ d = (match f ρ with | some d' => fk (ρ.set j (.fz d')) d | none => .no) := rfl
theorem a_ksetO : kSetO i j fo fk ρ d = (match fo ρ with | some ds => fk (ρ.set j (.ow ds)) d | none => .no) := rfl
theorem a_skp : sKp i b m fg fk ρ = (match fg ρ with
  | some ss => if ss.all slFree = true ∧ i < ρ.length then (match b (ss ++ List.replicate m .un) with | .rt d => fk (ρ.set i .un) d | _ => .no) else .no
  | none => .no) := rfl
theorem a_kapp {d0 : PyData} {ds : List PyData} : kApp f s ρ (.tuple [d0, .list ds]) = (if ds.length < 1000000 then (match f ρ with | some _ => s ρ | none => .no) else .no) := rfl
theorem a_kclr {d0 : PyData} {ds : List PyData} : kClr s ρ (.tuple [d0, .list ds]) = s ρ := rfl
end
/-! ### operators at given data -/
theorem dEq_int (i j : Int) : dEq (.int i) (.int j) = some (.bool (i == j)) := rfl
theorem dNe_int (i j : Int) : dNe (.int i) (.int j) = some (.bool (!(i == j))) := rfl
theorem dEq_bool (i j : Bool) : dEq (.bool i) (.bool j) = some (.bool (i == j)) := rfl
theorem dNe_bool (i j : Bool) : dNe (.bool i) (.bool j) = some (.bool (!(i == j))) := rfl
theorem dAdd_int (i j : Int) : dAdd (.int i) (.int j) = some (.int (i + j)) := rfl
theorem dSub_int (i j : Int) : dSub (.int i) (.int j) = some (.int (i - j)) := rfl
theorem dLt_int (i j : Int) : dLt (.int i) (.int j) = some (.bool (decide (i < j))) := rfl
theorem dLe_int (i j : Int) : dLe (.int i) (.int j) = some (.bool (decide (i ≤ j))) := rfl
theorem dGt_int (i j : Int) : dGt (.int i) (.int j) = some (.bool (decide (j < i))) := rfl
theorem dGe_int (i j : Int) : dGe (.int i) (.int j) = some (.bool (decide (j ≤ i))) := rfl
theorem dIs_non (x : PyData) : dIs x .none = some (.bool (isN x)) := rfl
theorem dIsNot_non (x : PyData) : dIsNot x .none = some (.bool (!isN x)) := rfl
theorem dLen_list (ds : List PyData) : dLen (.list ds) = some (.int ds.length) := rfl
theorem dLen_tuple (ds : List PyData) : dLen (.tuple ds) = some (.int ds.length) := rfl
theorem dLen_t2 (a b : PyData) : dLen (.tuple [a, b]) = some (.int 2) := rfl
theorem dAbs_int (i : Int) : dAbs (.int i) = some (.int (if i < 0 then -i else i)) := rfl
theorem isN_none : isN .none = true := rfl
theorem isN_int (i : Int) : isN (.int i) = false := rfl
theorem isN_tup (i : List PyData) : isN (.tuple i) = false := rfl
theorem isN_lst (i : List PyData) : isN (.list i) = false := rfl
theorem ix_t0 (a b : PyData) : dIx (.tuple [a, b]) (.int 0) = some a := rfl
theorem ix_t1 (a b : PyData) : dIx (.tuple [a, b]) (.int 1) = some b := rfl
theorem ix_l0 (a : PyData) : dIx (.list [a]) (.int 0) = some a := rfl
theorem ix_l20 (a b : PyData) : dIx (.list [a, b]) (.int 0) = some a := rfl
theorem ix_l21 (a b : PyData) : dIx (.list [a, b]) (.int 1) = some b := rfl
theorem len_1 (a : PyData) : dLen (.list [a]) = some (.int 1) := rfl
theorem len_2 (a b : PyData) : dLen (.list [a, b]) = some (.int 2) := rfl
theorem mul_r {i j : Int} (h : j.natAbs < 2 ^ 64) : dMul (.int i) (.int j) = some (.int (i * j)) := by
  have e : mulOk i j = true := by unfold mulOk; rw [decide_eq_true h, Bool.or_true]
  simp only [dMul, e, if_true]
theorem mul_l {i j : Int} (h : i.natAbs < 2 ^ 64) : dMul (.int i) (.int j) = some (.int (i * j)) := by
  have e : mulOk i j = true := by unfold mulOk; rw [decide_eq_true h, Bool.true_or]
  simp only [dMul, e, if_true]
theorem mod_p {i j : Int} (h : 0 < j) : dMod (.int i) (.int j) = some (.int (i % j)) := by simp only [dMod, h, if_true]
theorem div_p {i j : Int} (h : 0 < j) (h2 : j < 1073741824) : dDiv (.int i) (.int j) = some (.int (i / j)) := by simp only [dDiv, h, h2, and_self, if_true]
theorem mul_two (j : Int) : dMul (.int 2) (.int j) = some (.int (2 * j)) := mul_l (by decide)
theorem mod_2 (i : Int) : dMod (.int i) (.int 2) = some (.int (i % 2)) := mod_p (by decide)
theorem div_2 (i : Int) : dDiv (.int i) (.int 2) = some (.int (i / 2)) := div_p (by decide) (by decide)
/-! isinstance -/
theorem isi_tt (x : List PyData) : dIsi "tuple" (.tuple x) = some (.bool true) := by show (kitB "tuple" "tuple").map _ = _; rw [show kitB "tuple" "tuple" = some true by decide +kernel]; rfl
theorem isi_ib (x : Int) : dIsi "bool" (.int x) = some (.bool false) := by show (kitB "int" "bool").map _ = _; rw [show kitB "int" "bool" = some false by decide +kernel]; rfl
theorem isi_ii (x : Int) : dIsi "int" (.int x) = some (.bool true) := by show (kitB "int" "int").map _ = _; rw [show kitB "int" "int" = some true by decide +kernel]; rfl
theorem isi_bb (x : Bool) : dIsi "bool" (.bool x) = some (.bool true) := by show (kitB "bool" "bool").map _ = _; rw [show kitB "bool" "bool" = some true by decide +kernel]; rfl
theorem isi_ll (x : List PyData) : dIsi "list" (.list x) = some (.bool true) := by show (kitB "list" "list").map _ = _; rw [show kitB "list" "list" = some true by decide +kernel]; rfl
theorem isi_ss (x : Str) : dIsi "str" (.str x) = some (.bool true) := by show (kitB "str" "str").map _ = _; rw [show kitB "str" "str" = some true by decide +kernel]; rfl
end L2.RC

namespace L2.RC
open PySem PySem.Spec PyProof.Rows
/-! ### dyadic fractions: (t, k) stands for t / 2 ^ k -/
def lowN : Nat → Int → Int × Nat
  | 0, t => (t, 0)
  | k + 1, t => if t % 2 = 0 then lowN k (t / 2) else (t, k + 1)
abbrev Mo := Int × Nat
theorem p2_pos (k : Nat) : (0 : Int) < 2 ^ k := Int.pow_pos (by decide)
theorem p2_succ (k : Nat) : (2 : Int) ^ (k + 1) = 2 * 2 ^ k := by rw [Int.pow_succ]; exact Int.mul_comm _ _
theorem p2_add (i j : Nat) : (2 : Int) ^ (i + j) = 2 ^ i * 2 ^ j := Int.pow_add 2 i j
theorem p2_one : (2 : Int) ^ 0 = 1 := rfl
theorem lowN_val : ∀ (k : Nat) (t : Int), (lowN k t).1 * 2 ^ k = t * 2 ^ (lowN k t).2
  | 0, t => rfl
  | k + 1, t => by
    unfold lowN
    split
    · rename_i h
      have ih := lowN_val k (t / 2)
      have e : t = 2 * (t / 2) := by omega
      generalize t / 2 = u at ih e
      subst e
      rw [p2_succ]
      generalize (lowN k u).1 = a at ih ⊢
      generalize (2 : Int) ^ (lowN k u).2 = b at ih ⊢
      generalize (2 : Int) ^ k = c at ih ⊢
      grind
    · rfl
theorem lowN_le : ∀ (k : Nat) (t : Int), (lowN k t).2 ≤ k
  | 0, t => Nat.le_refl _
  | k + 1, t => by
    unfold lowN
    split
    · exact Nat.le_succ_of_le (lowN_le k _)
    · exact Nat.le_refl _
theorem lowN_norm : ∀ (k : Nat) (t : Int), (lowN k t).2 = 0 ∨ (lowN k t).1 % 2 = 1
  | 0, t => .inl rfl
  | k + 1, t => by
    unfold lowN
    split
    · exact lowN_norm k _
    · rename_i h
      exact .inr (by show t % 2 = 1; omega)
theorem lowN_same {k : Nat} {t : Int} (h : k = 0 ∨ t % 2 = 1) : lowN k t = (t, k) := by
  cases k with
  | zero => rfl
  | succ k =>
    unfold lowN
    rw [if_neg (by omega)]
theorem lowN_two (k : Nat) (t : Int) : lowN (k + 1) (2 * t) = lowN k t := by
  show (if 2 * t % 2 = 0 then lowN k (2 * t / 2) else _) = _
  rw [if_pos (by omega), show 2 * t / 2 = t by omega]
theorem lowN_up (k : Nat) (t : Int) : ∀ i : Nat, lowN (k + i) (2 ^ i * t) = lowN k t
  | 0 => by rw [p2_one, Int.one_mul]; rfl
  | i + 1 => by
    rw [p2_succ, Int.mul_assoc]
    exact (lowN_two (k + i) (2 ^ i * t)).trans (lowN_up k t i)
theorem lowN_eq {k j : Nat} {t s : Int} (h : t * 2 ^ j = s * 2 ^ k) : lowN k t = lowN j s := by
  rcases Nat.le_total k j with hk | hk
  · obtain ⟨i, rfl⟩ := Nat.exists_eq_add_of_le hk
    have e : s = 2 ^ i * t := by
      rw [p2_add] at h
      have hp := p2_pos k
      refine (Int.eq_of_mul_eq_mul_right (Int.ne_of_gt hp) ?_)
      rw [← h]
      generalize (2 : Int) ^ k = a
      generalize (2 : Int) ^ i = b
      grind
    rw [e, lowN_up]
  · obtain ⟨i, rfl⟩ := Nat.exists_eq_add_of_le hk
    have e : t = 2 ^ i * s := by
      rw [p2_add] at h
      have hp := p2_pos j
      refine (Int.eq_of_mul_eq_mul_right (Int.ne_of_gt hp) ?_)
      rw [h]
      generalize (2 : Int) ^ j = a
      generalize (2 : Int) ^ i = b
      grind
    rw [e, lowN_up]
theorem lowN_inj {k : Nat} {t s : Int} (h : lowN k t = lowN k s) : t = s := by
  have h1 := lowN_val k t
  have h2 := lowN_val k s
  rw [h] at h1
  have h3 : t * 2 ^ (lowN k s).2 = s * 2 ^ (lowN k s).2 := h1.symm.trans h2
  exact Int.eq_of_mul_eq_mul_right (Int.ne_of_gt (p2_pos _)) h3
/-- the told form stays the told form -/
theorem lowN_idem (k : Nat) (t : Int) : lowN (lowN k t).2 (lowN k t).1 = lowN k t := lowN_eq (lowN_val k t)

/-! ### sums, halves, gaps, order, all over the bottom 2 ^ K -/
section
variable {K : Nat} {v u : Int}
/-- (t, k) the told form of v / 2 ^ K -/
theorem mean_eq (v u : Int) (K : Nat) : lowN ((lowN K v).2 + (lowN K u).2 + 1) ((lowN K v).1 * 2 ^ (lowN K u).2 + (lowN K u).1 * 2 ^ (lowN K v).2 + 2 ^ (lowN K v).2 * 2 ^ (lowN K u).2) = lowN (K + 1) (v + u + 2 ^ K) := by
  have h1 := lowN_val K v
  have h2 := lowN_val K u
  refine lowN_eq ?_
  rw [p2_succ, p2_succ, p2_add]
  generalize (lowN K v).1 = t at *
  generalize (lowN K u).1 = s at *
  generalize (2 : Int) ^ (lowN K v).2 = a at *
  generalize (2 : Int) ^ (lowN K u).2 = b at *
  generalize (2 : Int) ^ K = c at *
  grind
theorem sum_eq (v u : Int) (K : Nat) : lowN ((lowN K v).2 + (lowN K u).2) ((lowN K v).1 * 2 ^ (lowN K u).2 + (lowN K u).1 * 2 ^ (lowN K v).2) = lowN K (v + u) := by
  have h1 := lowN_val K v
  have h2 := lowN_val K u
  refine lowN_eq ?_
  rw [p2_add]
  generalize (lowN K v).1 = t at *
  generalize (lowN K u).1 = s at *
  generalize (2 : Int) ^ (lowN K v).2 = a at *
  generalize (2 : Int) ^ (lowN K u).2 = b at *
  generalize (2 : Int) ^ K = c at *
  grind
theorem diff_eq (v u : Int) (K : Nat) : lowN ((lowN K v).2 + (lowN K u).2) ((lowN K v).1 * 2 ^ (lowN K u).2 - (lowN K u).1 * 2 ^ (lowN K v).2) = lowN K (v - u) := by
  have h1 := lowN_val K v
  have h2 := lowN_val K u
  refine lowN_eq ?_
  rw [p2_add]
  generalize (lowN K v).1 = t at *
  generalize (lowN K u).1 = s at *
  generalize (2 : Int) ^ (lowN K v).2 = a at *
  generalize (2 : Int) ^ (lowN K u).2 = b at *
  generalize (2 : Int) ^ K = c at *
  grind
theorem hour_eq (v : Int) (K : Nat) : ((lowN K v).1 + 2 ^ (lowN K v).2, (lowN K v).2) = lowN K (v + 2 ^ K) := by
  have h1 := lowN_val K v
  have h2 := lowN_norm K v
  generalize (lowN K v).1 = t at *
  generalize (lowN K v).2 = k at *
  have e : lowN k (t + 2 ^ k) = (t + 2 ^ k, k) := by
    refine lowN_same ?_
    rcases h2 with h | h
    · exact .inl h
    · cases k with
      | zero => exact .inl rfl
      | succ k => rw [p2_succ]; exact .inr (by omega)
  rw [← e]
  refine lowN_eq ?_
  generalize (2 : Int) ^ k = a at *
  generalize (2 : Int) ^ K = c at *
  grind
theorem less_iff (v u : Int) (K : Nat) : (lowN K v).1 * 2 ^ (lowN K u).2 < (lowN K u).1 * 2 ^ (lowN K v).2 ↔ v < u := by
  have h1 := lowN_val K v
  have h2 := lowN_val K u
  have ha := p2_pos (lowN K v).2
  have hb := p2_pos (lowN K u).2
  have hc := p2_pos K
  generalize (lowN K v).1 = t at *
  generalize (lowN K u).1 = s at *
  generalize (2 : Int) ^ (lowN K v).2 = a at *
  generalize (2 : Int) ^ (lowN K u).2 = b at *
  generalize (2 : Int) ^ K = c at *
  have e1 : t * b * c = v * (a * b) := by grind
  have e2 : s * a * c = u * (a * b) := by grind
  constructor
  · intro h
    have h3 : t * b * c < s * a * c := Int.mul_lt_mul_of_pos_right h hc
    rw [e1, e2] at h3
    exact Int.lt_of_mul_lt_mul_right h3 (Int.le_of_lt (Int.mul_pos ha hb))
  · intro h
    have h3 : v * (a * b) < u * (a * b) := Int.mul_lt_mul_of_pos_right h (Int.mul_pos ha hb)
    rw [← e1, ← e2] at h3
    exact Int.lt_of_mul_lt_mul_right h3 (Int.le_of_lt hc)
theorem one_eq (K : Nat) : lowN K (2 ^ K) = (1, 0) := by
  have h := lowN_up 0 1 K
  rw [Nat.zero_add, Int.mul_one] at h
  exact h
theorem zero_eq : ∀ (K : Nat), lowN K 0 = (0, 0)
  | 0 => rfl
  | K + 1 => by
    have h := lowN_two K 0
    rw [Int.mul_zero] at h
    exact h.trans (zero_eq K)
end
def mo (m : Mo) : PyData := .tuple [.int m.1, .int (2 ^ m.2)]
theorem mo_0 (m : Mo) : dIx (mo m) (.int 0) = some (.int m.1) := rfl
theorem mo_1 (m : Mo) : dIx (mo m) (.int 1) = some (.int (2 ^ m.2)) := rfl
end L2.RC

namespace L2.RC
open PySem PySem.Spec PyProof.Rows
/-! ### plans, and when ropes go out, over the bottom 2 ^ K -/
abbrev Rope := Int × Option Int
def oD : Option Int → PyData
  | none => .none
  | some b => .int b
def ropeD (r : Rope) : PyData := .tuple [.int r.1, oD r.2]
def planD (p : List Rope) : List PyData := p.map ropeD
def numOk (k : Nat) (a : Int) : Prop := a = -1 ∨ (0 ≤ a ∧ a < (k : Int))
def ropeOk (k : Nat) (r : Rope) : Prop := numOk k r.1 ∧ ∀ b, r.2 = some b → numOk k b ∧ r.1 ≤ b
def PlanOk (p : List Rope) : Prop := ∀ k r, p[k]? = some r → ropeOk k r
def vOf (acc : List Int) (n : Int) : Int := if n = -1 then 0 else (acc[n.toNat]?).getD 0
def outsV (K : Nat) : List Rope → List Int → List Int × Option Nat
  | [], acc => (acc, none)
  | (a, none) :: rs, acc => outsV K rs (acc ++ [vOf acc a + 2 ^ K])
  | (a, some b) :: rs, acc => if ((vOf acc a - vOf acc b).natAbs : Int) < 2 ^ K then outsV K rs (acc ++ [(vOf acc a + vOf acc b + 2 ^ K) / 2]) else (acc, some acc.length)
def fl (K : Nat) (acc : List Int) : List PyData := acc.map fun v => mo (lowN K v)
theorem fl_len (K : Nat) (acc : List Int) : (fl K acc).length = acc.length := List.length_map _
theorem fl_app (K : Nat) (acc : List Int) (v : Int) : fl K acc ++ [mo (lowN K v)] = fl K (acc ++ [v]) := by unfold fl; rw [List.map_append]; rfl
/-- the moment with the number i is a multiple of 2 ^ (K - 1 - i) -/
def Dv (K : Nat) (acc : List Int) : Prop := ∀ i v, acc[i]? = some v → (2 : Int) ^ (K - 1 - i) ∣ v
theorem p2_dvd {i j : Nat} (h : i ≤ j) : (2 : Int) ^ i ∣ 2 ^ j := by
  obtain ⟨k, rfl⟩ := Nat.exists_eq_add_of_le h
  rw [p2_add]
  exact Int.dvd_mul_right _ _
theorem Dv.of {K : Nat} {acc : List Int} (h : Dv K acc) {a : Int} (ha : numOk acc.length a) : (2 : Int) ^ (K - acc.length) ∣ vOf acc a := by
  unfold vOf
  rcases ha with rfl | ⟨h0, h1⟩
  · rw [if_pos rfl]; exact Int.dvd_zero _
  · rw [if_neg (by omega)]
    cases e : acc[a.toNat]? with
    | none => exact Int.dvd_zero _
    | some v => exact Int.dvd_trans (p2_dvd (by omega)) (h _ _ e)
theorem Dv.app {K : Nat} {acc : List Int} (h : Dv K acc) {v : Int} (hv : (2 : Int) ^ (K - 1 - acc.length) ∣ v) : Dv K (acc ++ [v]) := by
  intro i u e
  rcases Nat.lt_trichotomy i acc.length with c | c | c
  · rw [List.getElem?_append_left c] at e; exact h i u e
  · subst c
    rw [List.getElem?_append_right (Nat.le_refl _), Nat.sub_self] at e
    cases e
    exact hv
  · rw [List.getElem?_eq_none (by rw [List.length_append, List.length_singleton]; omega)] at e
    cases e
theorem Dv.hour {K : Nat} {acc : List Int} (h : Dv K acc) {a : Int} (ha : numOk acc.length a) : Dv K (acc ++ [vOf acc a + 2 ^ K]) :=
  h.app (Int.dvd_add (Int.dvd_trans (p2_dvd (by omega)) (h.of ha)) (p2_dvd (by omega)))
/-- the mean is whole -/
theorem Dv.half {K : Nat} {acc : List Int} (h : Dv K acc) {a b : Int} (ha : numOk acc.length a) (hb : numOk acc.length b) (hK : acc.length < K) :
    vOf acc a + vOf acc b + 2 ^ K = 2 * ((vOf acc a + vOf acc b + 2 ^ K) / 2) ∧ Dv K (acc ++ [(vOf acc a + vOf acc b + 2 ^ K) / 2]) := by
  have d := Int.dvd_add (Int.dvd_add (h.of ha) (h.of hb)) (p2_dvd (show K - acc.length ≤ K by omega))
  generalize vOf acc a + vOf acc b + 2 ^ K = s at d
  obtain ⟨c, e⟩ := d
  have e1 : K - acc.length = (K - 1 - acc.length) + 1 := by omega
  rw [e1, p2_succ, Int.mul_assoc] at e
  refine ⟨by omega, h.app ⟨c, ?_⟩⟩
  generalize (2 : Int) ^ (K - 1 - acc.length) * c = z at e ⊢
  omega
theorem rngD_len (lo : Int) (m : Nat) : (rngD lo m).length = m := by unfold rngD; rw [List.length_map, List.length_range]
theorem rngD_succ (lo : Int) (m : Nat) : rngD lo (m + 1) = .int lo :: rngD (lo + 1) m := by
  unfold rngD
  rw [List.range_succ_eq_map, List.map_cons, List.map_map]
  congr 1
  · rw [Int.natCast_zero, Int.add_zero]
  · refine List.map_congr_left fun i _ => ?_
    show PyData.int (lo + ((i + 1 : Nat) : Int)) = PyData.int (lo + 1 + (i : Int))
    congr 1
    omega
theorem rngD_zero (lo : Int) : rngD lo 0 = [] := rfl
theorem atI_nat' {ds : List PyData} {k : Nat} {d : PyData} (h : ds[k]? = some d) : dIx (.list ds) (.int (k : Int)) = some d := atI_nat h
theorem ix_num {K : Nat} {acc : List Int} {a : Int} (h0 : 0 ≤ a) (h1 : a < (acc.length : Int)) : dIx (.list (fl K acc)) (.int a) = some (mo (lowN K (vOf acc a))) := by
  obtain ⟨k, rfl⟩ := Int.eq_ofNat_of_zero_le h0
  refine atI_nat' ?_
  have hk : k < acc.length := by omega
  have e : vOf acc (k : Int) = acc[k] := by
    unfold vOf
    rw [if_neg (by omega), Int.toNat_natCast, List.getElem?_eq_getElem hk]
    rfl
  unfold fl
  rw [List.getElem?_map, List.getElem?_eq_getElem hk, e] <;> rfl
theorem planD_get {p : List Rope} {k : Nat} {r : Rope} (h : p[k]? = some r) : dIx (.list (planD p)) (.int (k : Int)) = some (ropeD r) := by
  refine atI_nat' ?_
  unfold planD
  rw [List.getElem?_map, h] <;> rfl
theorem planD_len (p : List Rope) : (planD p).length = p.length := List.length_map _
theorem lAppend_fl {K : Nat} {acc : List Int} {v : Int} (h : acc.length < 1000000) : lAppend (fl K acc) (mo (lowN K v)) = some (fl K (acc ++ [v])) := by
  unfold lAppend
  rw [if_pos (by rw [fl_len]; exact h), fl_app]
theorem get_drop {α : Type} {p rs : List α} {r : α} {k : Nat} (h : p.drop k = r :: rs) : p[k]? = some r ∧ p.drop (k + 1) = rs := by
  have hk : k < p.length := by
    by_cases c : k < p.length
    · exact c
    · rw [List.drop_of_length_le (by omega)] at h; cases h
  rw [List.drop_eq_getElem_cons hk] at h
  cases h
  exact ⟨List.getElem?_eq_getElem hk, rfl⟩
end L2.RC

namespace L2.RC
open PySem PySem.Spec PyProof.Rows
/-! ### equal data -/
mutual
theorem eqv_self : ∀ d : PyData, d.canLay0 = true → PyData.eqv d d = true
  | .none, _ => rfl
  | .bool b, _ => by show (b == b) = true; exact beq_self_eq_true b
  | .int b, _ => by show (b == b) = true; exact beq_self_eq_true b
  | .str b, _ => by show (b == b) = true; exact beq_self_eq_true b
  | .list ds, h => eqvAll_self ds (by simpa [PyData.canLay0] using h)
  | .tuple ds, h => eqvAll_self ds (by simpa [PyData.canLay0] using h)
  | .dict _, h => by simp [PyData.canLay0] at h
theorem eqvAll_self : ∀ ds : List PyData, PyData.canLayAll0 ds = true → PyData.eqvAll ds ds = true
  | [], _ => rfl
  | d :: ds, h => by
    have h' : d.canLay0 = true ∧ PyData.canLayAll0 ds = true := by simpa [PyData.canLayAll0] using h
    show (PyData.eqv d d && PyData.eqvAll ds ds) = true
    rw [eqv_self d h'.1, eqvAll_self ds h'.2]
    rfl
end
theorem shaped_split {d : PyData} : SeqAt.shaped d = true ↔ d.canLay0 = true ∧ d.depth ≤ 64 := by
  unfold SeqAt.shaped
  rw [Bool.and_eq_true, decide_eq_true_iff]
def Flat (n : Nat) (d : PyData) : Prop := d.canLay0 = true ∧ d.depth ≤ n
theorem all_flat : ∀ {ds : List PyData} {n : Nat}, (∀ d ∈ ds, Flat n d) → PyData.canLayAll0 ds = true ∧ PyData.depthAll ds ≤ n
  | [], n, _ => ⟨rfl, Nat.zero_le _⟩
  | d :: ds, n, h => by
    obtain ⟨h1, h2⟩ := h d List.mem_cons_self
    obtain ⟨h3, h4⟩ := all_flat (ds := ds) (n := n) fun x hx => h x (List.mem_cons_of_mem _ hx)
    refine ⟨?_, ?_⟩
    · show (d.canLay0 && PyData.canLayAll0 ds) = true
      rw [h1, h3]
      rfl
    · show max d.depth (PyData.depthAll ds) ≤ n
      omega
theorem flat_list {ds : List PyData} {n : Nat} (h : ∀ d ∈ ds, Flat n d) : Flat (n + 1) (.list ds) := by
  obtain ⟨h1, h2⟩ := all_flat h
  exact ⟨by simpa [PyData.canLay0] using h1, by show PyData.depthAll ds + 1 ≤ n + 1; omega⟩
theorem flat_tuple {ds : List PyData} {n : Nat} (h : ∀ d ∈ ds, Flat n d) : Flat (n + 1) (.tuple ds) := by
  obtain ⟨h1, h2⟩ := all_flat h
  exact ⟨by simpa [PyData.canLay0] using h1, by show PyData.depthAll ds + 1 ≤ n + 1; omega⟩
theorem Flat.up {n m : Nat} {d : PyData} (h : Flat n d) (hm : n ≤ m) : Flat m d := ⟨h.1, Nat.le_trans h.2 hm⟩
theorem flat_int (i : Int) : Flat 0 (.int i) := ⟨rfl, Nat.le_refl _⟩
theorem flat_str {i : Str} (h : (PyData.str i).canLay0 = true := by decide +kernel) : Flat 0 (.str i) := ⟨h, Nat.le_refl _⟩
theorem flat_none : Flat 0 .none := ⟨rfl, Nat.le_refl _⟩
theorem Flat.sh {n : Nat} {d : PyData} (h : Flat n d) (hn : n ≤ 64 := by decide) : SeqAt.shaped d = true := shaped_split.mpr ⟨h.1, Nat.le_trans h.2 hn⟩
theorem dEq_self {n : Nat} {d : PyData} (h : Flat n d) (hn : n ≤ 64 := by decide) : dEq d d = some (.bool true) := by
  unfold dEq
  rw [h.sh hn, eqv_self d h.1]
  rfl
theorem dNe_self {n : Nat} {d : PyData} (h : Flat n d) (hn : n ≤ 64 := by decide) : dNe d d = some (.bool false) := by
  unfold dNe
  rw [h.sh hn, eqv_self d h.1]
  rfl
theorem flat_rope (r : Rope) : Flat 1 (ropeD r) := by
  obtain ⟨a, o⟩ := r
  cases o with
  | none => exact ⟨rfl, by show (1 : Nat) ≤ 1; exact Nat.le_refl _⟩
  | some b => exact ⟨rfl, by show (1 : Nat) ≤ 1; exact Nat.le_refl _⟩
theorem flat_plan (p : List Rope) : Flat 2 (.list (planD p)) := flat_list fun d h => by
  obtain ⟨r, _, e⟩ := List.mem_map.mp h
  rw [← e]
  exact flat_rope r
theorem flat_mo (m : Mo) : Flat 1 (mo m) := ⟨rfl, by show (1 : Nat) ≤ 1; exact Nat.le_refl _⟩
theorem flat_fl (K : Nat) (acc : List Int) : Flat 2 (.list (fl K acc)) := flat_list fun d h => by
  obtain ⟨r, _, e⟩ := List.mem_map.mp h
  rw [← e]
  exact flat_mo _
theorem noLs_plan : ∀ p : List Rope, noLs (planD p) = true
  | [] => rfl
  | (a, none) :: p => by show (noL (ropeD (a, none)) && noLs (planD p)) = true; rw [noLs_plan p]; rfl
  | (a, some b) :: p => by show (noL (ropeD (a, some b)) && noLs (planD p)) = true; rw [noLs_plan p]; rfl
theorem noLs_fl (K : Nat) : ∀ p : List Int, noLs (fl K p) = true
  | [] => rfl
  | a :: p => by show (noL (mo (lowN K a)) && noLs (fl K p)) = true; rw [noLs_fl K p]; rfl
/-! ### the plans drawn -/
def cell (ns : List Int) (k : Nat) : Int := (ns[k]?).getD 0
def drawn (c1 c2 : Int) (k : Nat) : Rope :=
  let one := c1 % ((k : Int) + 1) - 1
  if c2 % 4 = 3 then (one, none) else if c2 % 4 = 2 then (one, some one) else (one, some (one + c2 / 4 % ((k : Int) - one)))
def drawnPlan (ns : List Int) (s : Nat) : Nat → Nat → List Rope
  | _, 0 => []
  | k, m + 1 => drawn (cell ns (s + 2 * k)) (cell ns (s + 2 * k + 1)) k :: drawnPlan ns s (k + 1) m
theorem drawnPlan_len (ns : List Int) (s : Nat) : ∀ (m k : Nat), (drawnPlan ns s k m).length = m
  | 0, _ => rfl
  | m + 1, k => congrArg (· + 1) (drawnPlan_len ns s m (k + 1))
theorem drawn_ok (c1 c2 : Int) (k : Nat) : ropeOk k (drawn c1 c2 k) := by
  have h0 : 0 ≤ c1 % ((k : Int) + 1) := Int.emod_nonneg _ (by omega)
  have h1 : c1 % ((k : Int) + 1) < (k : Int) + 1 := Int.emod_lt_of_pos _ (by omega)
  unfold drawn ropeOk numOk
  dsimp only
  generalize c1 % ((k : Int) + 1) = o at h0 h1
  have h2 : 0 ≤ c2 / 4 % ((k : Int) - (o - 1)) := Int.emod_nonneg _ (by omega)
  have h3 : c2 / 4 % ((k : Int) - (o - 1)) < (k : Int) - (o - 1) := Int.emod_lt_of_pos _ (by omega)
  generalize c2 / 4 % ((k : Int) - (o - 1)) = q at h2 h3
  split
  · exact ⟨by dsimp only; omega, fun b e => by cases e⟩
  · split
    · exact ⟨by dsimp only; omega, fun b e => by cases e; dsimp only; omega⟩
    · exact ⟨by dsimp only; omega, fun b e => by cases e; dsimp only; omega⟩
theorem drawnPlan_get (ns : List Int) (s : Nat) : ∀ (m k i : Nat) (r : Rope), (drawnPlan ns s k m)[i]? = some r → ropeOk (k + i) r
  | 0, _, i, r, e => by simp [drawnPlan] at e
  | m + 1, k, 0, r, e => by
    have e' : drawn (cell ns (s + 2 * k)) (cell ns (s + 2 * k + 1)) k = r := by simpa [drawnPlan] using e
    rw [← e']
    exact drawn_ok _ _ _
  | m + 1, k, i + 1, r, e => by
    have := drawnPlan_get ns s m (k + 1) i r (by simpa [drawnPlan] using e)
    rw [show k + (i + 1) = k + 1 + i by omega]
    exact this
theorem drawnPlan_ok (ns : List Int) (s m : Nat) : PlanOk (drawnPlan ns s 0 m) := fun k r e => by
  have := drawnPlan_get ns s m 0 k r e
  rwa [Nat.zero_add] at this
/-- what the law's own outs tells -/
def duD (K : Nat) (acc : List Int) : Option Nat → PyData
  | none => .tuple [.none, .list (fl K acc)]
  | some j => .tuple [.int (j : Int), .list (fl K acc)]
/-! ### what outsV comes to -/
theorem outsV_len (K : Nat) : ∀ (rs : List Rope) (acc : List Int), (outsV K rs acc).1.length ≤ acc.length + rs.length ∧ ((outsV K rs acc).2 = none → (outsV K rs acc).1.length = acc.length + rs.length)
  | [], acc => ⟨Nat.le_refl _, fun _ => rfl⟩
  | (a, none) :: rs, acc => by
    have h := outsV_len K rs (acc ++ [vOf acc a + 2 ^ K])
    rw [List.length_append, List.length_singleton] at h
    rw [show outsV K ((a, none) :: rs) acc = outsV K rs (acc ++ [vOf acc a + 2 ^ K]) from rfl, List.length_cons]
    exact ⟨by omega, fun e => by have := h.2 e; omega⟩
  | (a, some b) :: rs, acc => by
    have h := outsV_len K rs (acc ++ [(vOf acc a + vOf acc b + 2 ^ K) / 2])
    rw [List.length_append, List.length_singleton] at h
    unfold outsV
    rw [List.length_cons]
    split
    · exact ⟨by omega, fun e => by have := h.2 e; omega⟩
    · exact ⟨by show acc.length ≤ _; omega, fun e => by cases e⟩
end L2.RC

namespace L2.RC
open PySem PySem.Spec PyProof.Rows
/-! ### what the moments of a plan in time satisfy -/
theorem outsV_pre (K : Nat) : ∀ (rs : List Rope) (acc : List Int), ∃ t, (outsV K rs acc).1 = acc ++ t
  | [], acc => ⟨[], (List.append_nil _).symm⟩
  | (a, none) :: rs, acc => by
    obtain ⟨t, h⟩ := outsV_pre K rs (acc ++ [vOf acc a + 2 ^ K])
    exact ⟨_ :: t, by rw [show outsV K ((a, none) :: rs) acc = outsV K rs (acc ++ [vOf acc a + 2 ^ K]) from rfl, h, List.append_assoc]; rfl⟩
  | (a, some b) :: rs, acc => by
    unfold outsV
    split
    · obtain ⟨t, h⟩ := outsV_pre K rs (acc ++ [(vOf acc a + vOf acc b + 2 ^ K) / 2])
      exact ⟨_ :: t, by rw [h, List.append_assoc]; rfl⟩
    · exact ⟨[], (List.append_nil _).symm⟩
theorem vOf_pre {acc t : List Int} {a : Int} (h : numOk acc.length a) : vOf (acc ++ t) a = vOf acc a := by
  unfold vOf
  rcases h with rfl | ⟨h0, h1⟩
  · rfl
  · rw [if_neg (by omega), if_neg (by omega), List.getElem?_append_left (by omega)]
/-- rope r goes out at v -/
def Goes (K : Nat) (acc : List Int) (r : Rope) (v : Int) : Prop := match r.2 with
  | none => v = vOf acc r.1 + 2 ^ K
  | some b => ((vOf acc r.1 - vOf acc b).natAbs : Int) < 2 ^ K ∧ 2 * v = vOf acc r.1 + vOf acc b + 2 ^ K
theorem outsV_goes {K : Nat} (p : List Rope) (hp : PlanOk p) : ∀ (rs : List Rope) (acc : List Int), p.drop acc.length = rs → acc.length + rs.length ≤ K → Dv K acc → (outsV K rs acc).2 = none →
    ∀ i r, rs[i]? = some r → ∃ v, (outsV K rs acc).1[acc.length + i]? = some v ∧ Goes K (outsV K rs acc).1 r v
  | [], acc, _, _, _, _, i, r, e => by simp at e
  | (a, o) :: rs, acc, hd, hl, hD, hn, i, r, e => by
    obtain ⟨hg, hd'⟩ := get_drop hd
    obtain ⟨na, nb⟩ := hp _ _ hg
    rw [List.length_cons] at hl
    have hd2 : ∀ v, p.drop (acc ++ [v]).length = rs := fun v => by rw [List.length_append, List.length_singleton]; exact hd'
    have hl2 : ∀ v, (acc ++ [v]).length + rs.length ≤ K := fun v => by rw [List.length_append, List.length_singleton]; omega
    cases o with
    | none =>
      rw [show outsV K ((a, none) :: rs) acc = outsV K rs (acc ++ [vOf acc a + 2 ^ K]) from rfl] at hn ⊢
      cases i with
      | zero =>
        cases e
        obtain ⟨t, ht⟩ := outsV_pre K rs (acc ++ [vOf acc a + 2 ^ K])
        refine ⟨vOf acc a + 2 ^ K, ?_, ?_⟩
        · rw [ht, List.append_assoc, List.getElem?_append_right (by omega)]
          simp
        · unfold Goes
          rw [ht, List.append_assoc]
          show vOf acc a + 2 ^ K = vOf (acc ++ _) a + 2 ^ K
          rw [vOf_pre na]
      | succ i =>
        have ih := outsV_goes p hp rs (acc ++ [vOf acc a + 2 ^ K]) (hd2 _) (hl2 _) (hD.hour na) hn i r (by simpa using e)
        rw [List.length_append, List.length_singleton, show acc.length + 1 + i = acc.length + (i + 1) by omega] at ih
        exact ih
    | some b =>
      obtain ⟨nb, _⟩ := nb b rfl
      obtain ⟨hh, hD2⟩ := hD.half na nb (by omega)
      by_cases c : ((vOf acc a - vOf acc b).natAbs : Int) < 2 ^ K
      · rw [show outsV K ((a, some b) :: rs) acc = outsV K rs (acc ++ [(vOf acc a + vOf acc b + 2 ^ K) / 2]) from if_pos c] at hn ⊢
        cases i with
        | zero =>
          cases e
          obtain ⟨t, ht⟩ := outsV_pre K rs (acc ++ [(vOf acc a + vOf acc b + 2 ^ K) / 2])
          refine ⟨(vOf acc a + vOf acc b + 2 ^ K) / 2, ?_, ?_⟩
          · rw [ht, List.append_assoc, List.getElem?_append_right (by omega)]
            simp
          · unfold Goes
            rw [ht, List.append_assoc]
            show ((vOf (acc ++ _) a - vOf (acc ++ _) b).natAbs : Int) < 2 ^ K ∧ 2 * ((vOf acc a + vOf acc b + 2 ^ K) / 2) = vOf (acc ++ _) a + vOf (acc ++ _) b + 2 ^ K
            rw [vOf_pre na, vOf_pre nb]
            exact ⟨c, hh.symm⟩
        | succ i =>
          have ih := outsV_goes p hp rs (acc ++ [(vOf acc a + vOf acc b + 2 ^ K) / 2]) (hd2 _) (hl2 _) hD2 hn i r (by simpa using e)
          rw [List.length_append, List.length_singleton, show acc.length + 1 + i = acc.length + (i + 1) by omega] at ih
          exact ih
      · rw [show outsV K ((a, some b) :: rs) acc = (acc, some acc.length) from if_neg c] at hn
        cases hn
theorem plan_goes {K : Nat} {p : List Rope} {acc : List Int} (hp : PlanOk p) (hl : p.length ≤ K) (e : outsV K p [] = (acc, none)) :
    acc.length = p.length ∧ ∀ (i : Nat) (r : Rope), p[i]? = some r → ∃ v, acc[i]? = some v ∧ Goes K acc r v := by
  have h1 := (outsV_len K p []).2 (by rw [e])
  have h2 := outsV_goes p hp p [] rfl (by simpa using hl) (fun i v e => by simp at e) (by rw [e])
  rw [e] at h1 h2
  refine ⟨by simpa using h1, fun i r hr => ?_⟩
  have := h2 i r hr
  simpa using this
theorem plan_num {p : List Rope} (hp : PlanOk p) {i : Nat} {r : Rope} (h : p[i]? = some r) : numOk p.length r.1 ∧ ∀ b, r.2 = some b → numOk p.length b := by
  have hi : i < p.length := (List.getElem?_eq_some_iff.mp h).1
  obtain ⟨h1, h2⟩ := hp i r h
  refine ⟨?_, fun b hb => ?_⟩
  · rcases h1 with h | h
    · exact .inl h
    · exact .inr ⟨h.1, by omega⟩
  · rcases (h2 b hb).1 with h | h
    · exact .inl h
    · exact .inr ⟨h.1, by omega⟩
theorem comp_rng {ρ : DEnv} {fe : EFn} {i : Nat} : ∀ (ds : List PyData) (k : Nat), (∀ j d, ds[j]? = some d → fe (ρ.set i (.fz (.int ((k + j : Nat) : Int)))) = some d) → compL i tTrue fe ρ (rngD (k : Int) ds.length) = some ds
  | [], k, _ => rfl
  | d :: ds, k, h => by
    have h0 := h 0 d rfl
    have ih := comp_rng (ρ := ρ) (fe := fe) (i := i) ds (k + 1) fun j e he => by
      have := h (j + 1) e (by simpa using he)
      rw [show k + 1 + j = k + (j + 1) by omega]
      exact this
    rw [List.length_cons, rngD_succ, a_comp1]
    rw [show ((k + 0 : Nat) : Int) = (k : Int) from rfl] at h0
    rw [show (((k + 1 : Nat)) : Int) = (k : Int) + 1 by omega] at ih
    simp only [a_ttrue, h0, ih, Option.bind_some, Option.map_some]
/-! ### what is left of a rope -/
def burntV (s t : Int) : Int := if s < t then t - s else 0
def lessV (a b : Int) : Int := if b < a then a - b else 0
def leftV (K : Nat) (acc : List Int) (t : Int) (r : Rope) : Int := match r.2 with
  | none => lessV (2 ^ K) (burntV (vOf acc r.1) t)
  | some b => lessV (lessV (2 ^ K) (burntV (vOf acc r.1) t)) (burntV (vOf acc b) t)
def eatenV (acc : List Int) (t : Int) (r : Rope) : Int := match r.2 with
  | none => burntV (vOf acc r.1) t
  | some b => burntV (vOf acc r.1) t + burntV (vOf acc b) t
theorem left_same {K : Nat} {acc : List Int} {t v : Int} {r : Rope} (h : Goes K acc r v) : (if t < v then ((eatenV acc t r - 2 ^ K).natAbs : Int) else 0) = leftV K acc t r := by
  have hp := p2_pos K
  obtain ⟨a, o⟩ := r
  cases o with
  | none =>
    have h' : v = vOf acc a + 2 ^ K := h
    unfold eatenV leftV burntV lessV
    dsimp only
    generalize vOf acc a = s at *
    generalize (2 : Int) ^ K = M at *
    split <;> split <;> (try split) <;> omega
  | some b =>
    have h' : ((vOf acc a - vOf acc b).natAbs : Int) < 2 ^ K ∧ 2 * v = vOf acc a + vOf acc b + 2 ^ K := h
    obtain ⟨h1, h2⟩ := h'
    unfold eatenV leftV burntV lessV
    dsimp only
    generalize vOf acc a = s at *
    generalize vOf acc b = u at *
    generalize (2 : Int) ^ K = M at *
    by_cases c1 : s < t <;> by_cases c2 : u < t <;> by_cases c3 : t < v <;> simp only [c1, c2, c3, if_true, if_false] <;> (repeat' split) <;> omega
end L2.RC

namespace L2.RC
open PySem PySem.Spec PyProof.Rows TL
/-! ### marks -/
theorem a_split {fa fb : EFn} {ρ : DEnv} : oSplit fa fb ρ = (match fa ρ with
  | some (.str z) => (match fb ρ with | some (.str y) => if (y.length == 0) = false ∧ z.length ≤ 1000000 then some ((Txt.split z y).map .str) else none | _ => none)
  | _ => none) := rfl
theorem a_join {fa fb : EFn} {ρ : DEnv} : eJoin fa fb ρ = (match fa ρ with
  | some (.str z) => (match fb ρ with
    | some (.list ds) => (match strsOf ds with | some ys => if (ys.map (·.length)).sum + ys.length * z.length ≤ 1000000 then some (.str (Txt.join z ys)) else none | none => none)
    | _ => none)
  | _ => none) := rfl
theorem a_find {fa fb : EFn} {ρ : DEnv} : eFind fa fb ρ = (match fa ρ with
  | some (.str z) => (match fb ρ with | some (.str y) => some (.int (Txt.find z y)) | _ => none)
  | _ => none) := rfl
/-- the sign of a number's mark -/
def cdM (a : Int) : Nat := if a = -1 then 111 else (97 + a).toNat
def mkM (a : Int) : Str := ⟨#[cdM a]⟩
theorem mkM_inj {a b : Int} (ha : -1 ≤ a) (ha' : a ≤ 12) (hb : -1 ≤ b) (hb' : b ≤ 12) : mkM a = mkM b ↔ a = b := by
  constructor
  · intro h
    have h1 : cdM a = cdM b := by
      have h2 : (#[cdM a] : Array Nat) = #[cdM b] := congrArg Str.cps h
      simpa using h2
    unfold cdM at h1
    split at h1 <;> split at h1 <;> omega
  · intro h; rw [h]
theorem mkM_len (a : Int) : (mkM a).length = 1 := rfl
theorem letters12 {a : Int} (h0 : 0 ≤ a) (h1 : a ≤ 11) : dIx (.str (Str.ofString "abcdefghijkl")) (.int a) = some (.str (mkM a)) := by
  obtain ⟨k, rfl⟩ := Int.eq_ofNat_of_zero_le h0
  have : k < 12 := by omega
  revert this
  have all : ∀ k < 12, dIx (.str (Str.ofString "abcdefghijkl")) (.int (k : Nat)) = some (.str (mkM (k : Nat))) := by
    intro k hk
    match k, hk with
    | 0, _ => rfl
    | 1, _ => rfl
    | 2, _ => rfl
    | 3, _ => rfl
    | 4, _ => rfl
    | 5, _ => rfl
    | 6, _ => rfl
    | 7, _ => rfl
    | 8, _ => rfl
    | 9, _ => rfl
    | 10, _ => rfl
    | 11, _ => rfl
  exact all k
theorem letters13 {a : Int} (h0 : -1 ≤ a) (h1 : a ≤ 11) : dIx (.str (Str.ofString "oabcdefghijkl")) (.int (a + 1)) = some (.str (mkM a)) := by
  obtain ⟨k, hk⟩ := Int.eq_ofNat_of_zero_le (show 0 ≤ a + 1 by omega)
  have ea : a = (k : Int) - 1 := by omega
  subst ea
  have : k < 13 := by omega
  rw [Int.sub_add_cancel]
  revert this
  have all : ∀ k < 13, dIx (.str (Str.ofString "oabcdefghijkl")) (.int (k : Nat)) = some (.str (mkM ((k : Nat) - 1))) := by
    intro k hk
    match k, hk with
    | 0, _ => rfl
    | 1, _ => rfl
    | 2, _ => rfl
    | 3, _ => rfl
    | 4, _ => rfl
    | 5, _ => rfl
    | 6, _ => rfl
    | 7, _ => rfl
    | 8, _ => rfl
    | 9, _ => rfl
    | 10, _ => rfl
    | 11, _ => rfl
    | 12, _ => rfl
  exact all k
def plusS : Str := Str.ofString "+"
def commaS : Str := Str.ofString ", "
/-- a rope's word -/
def wordS (r : Rope) : Str := match r.2 with
  | none => mkM r.1
  | some b => mkM r.1 ++ plusS ++ mkM b
def textS (p : List Rope) : Str := Txt.join commaS (p.map wordS)
theorem tl_plus : tl plusS = [43] := rfl
theorem tl_comma : tl commaS = [44, 32] := rfl
theorem cdM_ok {a : Int} (h0 : -1 ≤ a) (h1 : a ≤ 12) : cdM a ≠ 43 ∧ cdM a ≠ 44 ∧ cdM a ≠ 32 ∧ cdM a < 256 := by
  unfold cdM
  split <;> omega
theorem wordS_tl (r : Rope) : tl (wordS r) = (match r.2 with | none => [cdM r.1] | some b => [cdM r.1, 43, cdM b]) := by
  unfold wordS
  cases r.2 with
  | none => rfl
  | some b =>
    show tl (mkM r.1 ++ plusS ++ mkM b) = _
    rw [tl_append, tl_append]
    rfl
theorem wordS_len (r : Rope) : (wordS r).length ≤ 3 := by
  rw [len_tl, wordS_tl]
  cases r.2 <;> simp
def nums (r : Rope) : Prop := (-1 ≤ r.1 ∧ r.1 ≤ 12) ∧ ∀ b, r.2 = some b → -1 ≤ b ∧ b ≤ 12
theorem wordS_free {r : Rope} (h : nums r) : ∀ c ∈ tl (wordS r), c ≠ 44 ∧ c ≠ 32 ∧ c < 256 := by
  intro c hc
  rw [wordS_tl] at hc
  obtain ⟨h1, h2⟩ := h
  have a1 := cdM_ok h1.1 h1.2
  cases ho : r.2 with
  | none =>
    rw [ho] at hc
    rw [List.mem_singleton.mp hc]
    exact a1.2
  | some b =>
    rw [ho] at hc
    have a2 := cdM_ok (h2 b ho).1 (h2 b ho).2
    rcases List.mem_cons.mp hc with rfl | hc
    · exact a1.2
    · rcases List.mem_cons.mp hc with rfl | hc
      · decide
      · rw [List.mem_singleton.mp hc]
        exact a2.2
theorem words_back {p : List Rope} (hne : p ≠ []) (h : ∀ r ∈ p, nums r) : Txt.split (textS p) commaS = p.map wordS := by
  refine split_join (s := 44) (S := [32]) tl_comma (by decide +kernel) (fun z => hne (List.map_eq_nil_iff.mp z)) fun w hw => ?_
  obtain ⟨r, hr, rfl⟩ := List.mem_map.mp hw
  exact fun z => (wordS_free (h r hr) 44 z).1 rfl
theorem marks_back {r : Rope} (h : nums r) : Txt.split (wordS r) plusS = (match r.2 with | none => [mkM r.1] | some b => [mkM r.1, mkM b]) := by
  have e : wordS r = Txt.join plusS (match r.2 with | none => [mkM r.1] | some b => [mkM r.1, mkM b]) := by
    rw [join_eq]
    unfold wordS
    cases r.2 <;> rfl
  rw [e]
  refine split_join (s := 43) (S := []) tl_plus (by decide +kernel) (by cases r.2 <;> simp) fun w hw => ?_
  have one : ∀ a : Int, -1 ≤ a → a ≤ 12 → 43 ∉ tl (mkM a) := fun a h0 h1 z => (cdM_ok h0 h1).1 (List.mem_singleton.mp z).symm
  cases ho : r.2 with
  | none =>
    rw [ho] at hw
    rw [List.mem_singleton.mp hw]
    exact one _ h.1.1 h.1.2
  | some b =>
    rw [ho] at hw
    rcases List.mem_cons.mp hw with rfl | hw
    · exact one _ h.1.1 h.1.2
    · rw [List.mem_singleton.mp hw]
      exact one _ (h.2 b ho).1 (h.2 b ho).2
theorem joinL_mem (S : List Nat) (c : Nat) : ∀ parts : List (List Nat), c ∈ joinL S parts → c ∈ S ∨ ∃ p ∈ parts, c ∈ p
  | [], h => by cases h
  | [p], h => .inr ⟨p, List.mem_singleton.mpr rfl, h⟩
  | p :: q :: r, h => by
    rcases List.mem_append.mp (show c ∈ p ++ (S ++ joinL S (q :: r)) from h) with h | h
    · exact .inr ⟨p, List.mem_cons_self, h⟩
    · rcases List.mem_append.mp h with h | h
      · exact .inl h
      · rcases joinL_mem S c (q :: r) h with h | ⟨x, hx, h⟩
        · exact .inl h
        · exact .inr ⟨x, List.mem_cons_of_mem _ hx, h⟩
theorem joinL_len (S : List Nat) : ∀ parts : List (List Nat), (joinL S parts).length ≤ (parts.map (·.length)).sum + parts.length * S.length
  | [] => Nat.zero_le _
  | [p] => by simp [joinL]
  | p :: q :: r => by
    have ih := joinL_len S (q :: r)
    show (p ++ (S ++ joinL S (q :: r))).length ≤ _
    rw [List.length_append, List.length_append, List.map_cons, List.sum_cons, List.length_cons, Nat.succ_mul]
    omega
theorem joinL_part (S : List Nat) : ∀ (parts : List (List Nat)) (p : List Nat), p ∈ parts → p.length ≤ (joinL S parts).length
  | [q], p, h => by rw [List.mem_singleton.mp h]; exact Nat.le_refl _
  | x :: q :: r, p, h => by
    show p.length ≤ (x ++ (S ++ joinL S (q :: r))).length
    rw [List.length_append, List.length_append]
    rcases List.mem_cons.mp h with rfl | h
    · omega
    · have := joinL_part S (q :: r) p h
      omega
theorem str_ok {x : Str} (h : ∀ c ∈ tl x, c < 256) : (PyData.str x).canLay0 = true := by
  have e : PyData.strOk x = true := by
    unfold PyData.strOk
    rw [Array.all_eq_true']
    intro c hc
    have := h c (by simpa [tl] using hc)
    exact decide_eq_true (by omega)
  simpa [PyData.canLay0] using e
theorem textS_ok {p : List Rope} (h : ∀ r ∈ p, nums r) : Flat 0 (.str (textS p)) := by
  refine ⟨str_ok fun c hc => ?_, Nat.le_refl _⟩
  unfold textS at hc
  rw [join_eq, tl_join, tl_comma] at hc
  rcases joinL_mem _ _ _ hc with hc | ⟨w, hw, hc⟩
  · rcases List.mem_cons.mp hc with rfl | hc
    · decide
    · rw [List.mem_singleton.mp hc]; decide
  · obtain ⟨x, hx, rfl⟩ := List.mem_map.mp hw
    obtain ⟨r, hr, rfl⟩ := List.mem_map.mp hx
    exact (wordS_free (h r hr) c hc).2.2
theorem sum_words : ∀ p : List Rope, ((p.map wordS).map (·.length)).sum ≤ 3 * p.length
  | [] => Nat.le_refl _
  | r :: p => by
    have := sum_words p
    have := wordS_len r
    rw [List.map_cons, List.map_cons, List.sum_cons, List.length_cons]
    omega
theorem textS_len (p : List Rope) : (textS p).length ≤ 5 * p.length := by
  unfold textS
  have h1 := joinL_len [44, 32] ((p.map wordS).map tl)
  have h2 := sum_words p
  have h3 : (((p.map wordS).map tl).map (·.length)) = (p.map wordS).map (·.length) := by
    rw [List.map_map]
    exact List.map_congr_left fun x _ => (len_tl x).symm
  rw [h3, List.length_map, List.length_map] at h1
  rw [len_tl, join_eq, tl_join, tl_comma]
  simp only [List.length_cons, List.length_nil] at h1
  omega
/-! ### reading -/
def numFrom (m : Str) : Nat → Nat → Option Int
  | _, 0 => none
  | k, c + 1 => if mkM (k : Int) = m then some (k : Int) else numFrom m (k + 1) c
def numV (m : Str) (place : Nat) : Option Int := if m = mkM (-1) then some (-1) else numFrom m 0 place
theorem numFrom_mk {a : Nat} (ha : a ≤ 12) : ∀ (c k : Nat), k ≤ a → a < k + c → numFrom (mkM (a : Int)) k c = some (a : Int)
  | 0, k, h, h' => by omega
  | c + 1, k, h, h' => by
    unfold numFrom
    by_cases e : k = a
    · subst e; rw [if_pos rfl]
    · rw [if_neg (fun z => e (by have := (mkM_inj (by omega) (by omega) (by omega) (by omega)).mp z; omega))]
      exact numFrom_mk ha c (k + 1) (by omega) (by omega)
theorem numV_mk {a : Int} {place : Nat} (h : numOk place a) (hp : place ≤ 12) : numV (mkM a) place = some a := by
  unfold numV
  rcases h with rfl | ⟨h0, h1⟩
  · rw [if_pos rfl]
  · obtain ⟨k, rfl⟩ := Int.eq_ofNat_of_zero_le h0
    rw [if_neg (fun z => by have := (mkM_inj (by omega) (by omega) (by omega) (by omega)).mp z; omega)]
    exact numFrom_mk (by omega) place 0 (Nat.zero_le _) (by omega)
/-- a rope by its marks -/
def ropeV (ms : List Str) (k : Nat) : Option Rope := match ms with
  | [a] => (numV a k).map (·, none)
  | [a, b] => (match numV a k, numV b k with | some x, some y => if y < x then none else some (x, some y) | _, _ => none)
  | _ => none
def readV : List Str → Nat → Option (List Rope)
  | [], _ => some []
  | w :: ws, k => if 12 ≤ k then none else match ropeV (Txt.split w plusS) k with | some r => (readV ws (k + 1)).map (r :: ·) | none => none
theorem ok_nums {p : List Rope} (hp : PlanOk p) (hl : p.length ≤ 12) : ∀ r ∈ p, nums r := by
  intro r hr
  obtain ⟨i, hi⟩ := List.mem_iff_getElem?.mp hr
  have hil : i < p.length := (List.getElem?_eq_some_iff.mp hi).1
  obtain ⟨h1, h2⟩ := hp i r hi
  refine ⟨?_, fun b hb => ?_⟩
  · rcases h1 with h | h <;> omega
  · rcases (h2 b hb).1 with h | h <;> omega
theorem readV_words {p : List Rope} (hp : PlanOk p) (hl : p.length ≤ 12) : ∀ (rs : List Rope) (k : Nat), p.drop k = rs → readV (rs.map wordS) k = some rs
  | [], _, _ => rfl
  | r :: rs, k, hd => by
    obtain ⟨hg, hd'⟩ := get_drop hd
    have hk : k < p.length := (List.getElem?_eq_some_iff.mp hg).1
    obtain ⟨na, nb⟩ := hp k r hg
    have hm := marks_back (ok_nums hp hl r (List.mem_of_getElem? hg))
    have ih := readV_words hp hl rs (k + 1) hd'
    have hr : ropeV (Txt.split (wordS r) plusS) k = some r := by
      rw [hm]
      obtain ⟨a, o⟩ := r
      cases o with
      | none =>
        show (numV (mkM a) k).map (·, none) = _
        rw [numV_mk na (by omega)]
        rfl
      | some b =>
        show (match numV (mkM a) k, numV (mkM b) k with | some x, some y => if y < x then none else some (x, some y) | _, _ => none) = _
        obtain ⟨nb1, nb2⟩ := nb b rfl
        rw [numV_mk na (by omega), numV_mk nb1 (by omega)]
        show (if b < a then none else some (a, some b)) = _
        have : a ≤ b := nb2
        rw [if_neg (by omega)]
    show (if 12 ≤ k then none else match ropeV (Txt.split (wordS r) plusS) k with | some r => (readV (rs.map wordS) (k + 1)).map (r :: ·) | none => none) = _
    rw [if_neg (by omega), hr, ih]
    rfl
end L2.RC

namespace L2.RC
open PySem PySem.Spec PyProof.Rows TL
/-! ### texts that may be asked -/
def Low (x : Str) : Prop := ∀ c ∈ tl x, c < 256
theorem Low.ok {x : Str} (h : Low x) : (PyData.str x).canLay0 = true := str_ok h
theorem spl_sub (S : List Nat) : ∀ (l : List Nat) (k : Nat) (acc w : List Nat), w ∈ spl S k acc l → w.length ≤ acc.length + l.length ∧ ∀ c ∈ w, c ∈ acc ∨ c ∈ l
  | [], k, acc, w, h => by
    rw [spl_nil] at h
    rw [List.mem_singleton.mp h]
    exact ⟨Nat.le_refl _, fun c hc => .inl hc⟩
  | x :: l, 0, acc, w, h => by
    unfold spl at h
    split at h
    · rcases List.mem_cons.mp h with rfl | h
      · exact ⟨by omega, fun c hc => .inl hc⟩
      · obtain ⟨h1, h2⟩ := spl_sub S l _ [] w h
        rw [List.length_nil] at h1
        rw [List.length_cons]
        exact ⟨by omega, fun c hc => .inr (List.mem_cons_of_mem _ ((h2 c hc).resolve_left (by simp)))⟩
    · obtain ⟨h1, h2⟩ := spl_sub S l 0 _ w h
      rw [List.length_append, List.length_singleton] at h1
      rw [List.length_cons]
      refine ⟨by omega, fun c hc => ?_⟩
      rcases h2 c hc with h | h
      · rcases List.mem_append.mp h with h | h
        · exact .inl h
        · rw [List.mem_singleton.mp h]; exact .inr List.mem_cons_self
      · exact .inr (List.mem_cons_of_mem _ h)
  | x :: l, k + 1, acc, w, h => by
    unfold spl at h
    obtain ⟨h1, h2⟩ := spl_sub S l k acc w h
    rw [List.length_cons]
    exact ⟨by omega, fun c hc => (h2 c hc).imp id (List.mem_cons_of_mem _)⟩
theorem spl_ne (S : List Nat) : ∀ (l : List Nat) (k : Nat) (acc : List Nat), spl S k acc l ≠ []
  | [], k, acc => by rw [spl_nil]; simp
  | x :: l, 0, acc => by
    unfold spl
    split
    · simp
    · exact spl_ne S l _ _
  | x :: l, k + 1, acc => by unfold spl; exact spl_ne S l k acc
theorem split_sub {x y : Str} (hy : tl y ≠ []) (hk : y.cps.all (· < 256) = true) {w : Str} (h : w ∈ Txt.split x y) : w.length ≤ x.length ∧ ∀ c ∈ tl w, c ∈ tl x := by
  have e := split_spl x y hy (kind_ok hk)
  have hw : tl w ∈ spl (tl y) 0 [] (tl x) := by rw [← e]; exact List.mem_map.mpr ⟨w, h, rfl⟩
  obtain ⟨h1, h2⟩ := spl_sub _ _ _ _ _ hw
  rw [len_tl, len_tl]
  rw [List.length_nil] at h1
  exact ⟨by omega, fun c hc => (h2 c hc).resolve_left (by simp)⟩
theorem split_ne {x y : Str} (hy : tl y ≠ []) (hk : y.cps.all (· < 256) = true) : Txt.split x y ≠ [] := fun z => by
  have e := split_spl x y hy (kind_ok hk)
  rw [z] at e
  exact spl_ne _ _ _ _ e.symm
theorem low_words {x : Str} (h : Low x) {w : Str} (hw : w ∈ Txt.split x commaS) : w.length ≤ x.length ∧ Low w := by
  obtain ⟨h1, h2⟩ := split_sub (by decide) (by decide +kernel) hw
  exact ⟨h1, fun c hc => h c (h2 c hc)⟩
theorem low_marks {x : Str} (h : Low x) {w : Str} (hw : w ∈ Txt.split x plusS) : w.length ≤ x.length ∧ Low w := by
  obtain ⟨h1, h2⟩ := split_sub (by decide) (by decide +kernel) hw
  exact ⟨h1, fun c hc => h c (h2 c hc)⟩
/-! ### a mark, told by find -/
def alphaS : Str := Str.ofString "oabcdefghijkl"
theorem find_mk {a : Int} (h0 : -1 ≤ a) (h1 : a ≤ 11) : Txt.find alphaS (mkM a) = a + 1 := by
  obtain ⟨k, hk⟩ := Int.eq_ofNat_of_zero_le (show 0 ≤ a + 1 by omega)
  have ea : a = (k : Int) - 1 := by omega
  subst ea
  have : k < 13 := by omega
  rw [Int.sub_add_cancel]
  revert this
  have all : ∀ k < 13, Txt.find alphaS (mkM ((k : Nat) - 1)) = (k : Nat) := by decide +kernel
  exact all k
theorem find_no {c : Nat} (h : c ∉ tl alphaS) : Txt.find alphaS ⟨#[c]⟩ = -1 := by
  have e := PySem.StrLaws.found_one alphaS c
  rw [decide_eq_false h] at e
  unfold Txt.find
  split
  · rename_i i r hh
    rw [hh] at e
    cases e
  · rfl
theorem alpha_mem {c : Nat} (h : c ∈ tl alphaS) : ∃ a : Int, -1 ≤ a ∧ a ≤ 11 ∧ c = cdM a := by
  have e : tl alphaS = [111, 97, 98, 99, 100, 101, 102, 103, 104, 105, 106, 107, 108] := by decide +kernel
  rw [e] at h
  by_cases c111 : c = 111
  · exact ⟨-1, by decide, by decide, c111.trans rfl⟩
  · have : 97 ≤ c ∧ c ≤ 108 := by
      simp only [List.mem_cons, List.not_mem_nil, or_false] at h
      omega
    refine ⟨(c : Int) - 97, by omega, by omega, ?_⟩
    unfold cdM
    rw [if_neg (by omega)]
    omega
def numW (m : Str) (k : Nat) : Option Int := if m.length ≠ 1 then none else if Txt.find alphaS m - 1 < -1 ∨ (k : Int) ≤ Txt.find alphaS m - 1 then none else some (Txt.find alphaS m - 1)
theorem numFrom_no {m : Str} : ∀ (c k : Nat), (∀ j, k ≤ j → j < k + c → mkM (j : Int) ≠ m) → numFrom m k c = none
  | 0, _, _ => rfl
  | c + 1, k, h => by
    unfold numFrom
    rw [if_neg (h k (Nat.le_refl _) (by omega))]
    exact numFrom_no c (k + 1) fun j h1 h2 => h j (by omega) (by omega)
theorem numW_V (m : Str) {k : Nat} (hk : k ≤ 12) : numW m k = numV m k := by
  unfold numW
  by_cases hl : m.length ≠ 1
  · rw [if_pos hl]
    unfold numV
    rw [if_neg (fun z => hl (by rw [z]; rfl))]
    exact (numFrom_no k 0 fun j _ _ z => hl (by rw [← z]; rfl)).symm
  · rw [if_neg hl]
    have h1 : (tl m).length = 1 := by rw [← len_tl]; omega
    obtain ⟨c, hc⟩ := List.length_eq_one_iff.mp h1
    have em : m = ⟨#[c]⟩ := ext_tl hc
    subst em
    by_cases ha : c ∈ tl alphaS
    · obtain ⟨a, h0, h11, rfl⟩ := alpha_mem ha
      have hf : Txt.find alphaS ⟨#[cdM a]⟩ = a + 1 := find_mk h0 h11
      rw [hf, Int.add_sub_cancel]
      by_cases hka : (k : Int) ≤ a
      · rw [if_pos (.inr hka)]
        unfold numV
        rw [if_neg (fun z => by have := (mkM_inj (a := a) h0 (by omega) (by decide) (by decide)).mp z; omega)]
        exact (numFrom_no k 0 fun j _ hj z => by have := (mkM_inj (b := a) (by omega) (by omega) h0 (by omega)).mp z; omega).symm
      · rw [if_neg (fun z => z.elim (by omega) hka)]
        refine (numV_mk (a := a) ?_ hk).symm
        by_cases e : a = -1
        · exact .inl e
        · exact .inr ⟨by omega, by omega⟩
    · rw [find_no ha, if_pos (.inl (by decide))]
      have no : ∀ j : Int, -1 ≤ j → j ≤ 11 → mkM j ≠ ⟨#[c]⟩ := fun j h0 h1 z => ha (by
        have e : (#[cdM j] : Array Nat) = #[c] := congrArg Str.cps z
        have e' : cdM j = c := by simpa using e
        rw [← e']
        have all : ∀ i < 13, cdM ((i : Nat) - 1) ∈ tl alphaS := by decide +kernel
        have := all (j + 1).toNat (by omega)
        rwa [show (((j + 1).toNat : Nat) : Int) - 1 = j by omega] at this)
      unfold numV
      rw [if_neg (fun z => no (-1) (by decide) (by decide) z.symm)]
      exact (numFrom_no k 0 fun j _ hj => no j (by omega) (by omega)).symm
/-! ### joined again -/
theorem join_low {ws : List Str} {L : Nat} (h : ∀ w ∈ ws, w.length ≤ L ∧ Low w) : Low (Txt.join commaS ws) ∧ (Txt.join commaS ws).length ≤ ws.length * (L + 2) ∧ (ws.map (·.length)).sum + ws.length * commaS.length ≤ ws.length * (L + 2) := by
  have hs : ∀ ws : List Str, (∀ w ∈ ws, w.length ≤ L ∧ Low w) → (ws.map (·.length)).sum ≤ ws.length * L := by
    intro ws
    induction ws with
    | nil => intro _; exact Nat.zero_le _
    | cons w ws ih =>
      intro h
      have h1 := (h w List.mem_cons_self).1
      have h2 := ih fun x hx => h x (List.mem_cons_of_mem _ hx)
      rw [List.map_cons, List.sum_cons, List.length_cons, Nat.succ_mul]
      omega
  have hsum := hs ws h
  refine ⟨fun c hc => ?_, ?_, ?_⟩
  · rw [join_eq, tl_join, tl_comma] at hc
    rcases joinL_mem _ _ _ hc with hc | ⟨w, hw, hc⟩
    · rcases List.mem_cons.mp hc with rfl | hc
      · decide
      · rw [List.mem_singleton.mp hc]; decide
    · obtain ⟨x, hx, rfl⟩ := List.mem_map.mp hw
      exact (h x hx).2 c hc
  · have h1 := joinL_len [44, 32] (ws.map tl)
    have h3 : ((ws.map tl).map (·.length)) = ws.map (·.length) := by
      rw [List.map_map]
      exact List.map_congr_left fun x _ => (len_tl x).symm
    rw [h3, List.length_map] at h1
    simp only [List.length_cons, List.length_nil] at h1
    rw [len_tl, join_eq, tl_join, tl_comma, Nat.mul_add]
    omega
  · rw [show commaS.length = 2 from rfl, Nat.mul_add]
    omega
theorem cut_low {x : Str} (h : Low x) (lo hi : Option Int) : Low (cutS x lo hi) := fun c hc => h c (List.mem_of_mem_drop (List.mem_of_mem_take hc))
theorem app_low {x y : Str} (hx : Low x) (hy : Low y) : Low (x ++ y) := fun c hc => by
  rw [tl_append] at hc
  exact (List.mem_append.mp hc).elim (hx c) (hy c)
theorem app_len (x y : Str) : (x ++ y).length = x.length + y.length := by rw [len_tl, tl_append, List.length_append, ← len_tl, ← len_tl]
end L2.RC

namespace L2.RC
open PySem PySem.Spec PyProof.Rows
def topS (i : Nat) : Stmt := PySem.Challenge.pw_ropeclock_k10_texts_read.main.body.getD i (.Pass ⟨0, 0, 0, 0⟩)
structure Txt (K : PySem.W.Frag) (mg : Str → Option Value) where
  CL : Addr
  CN : Addr
  f_number_of : Addr
  d_number_of : FuncData
  a_number_of : DefAt K mg "number_of" (topS 6) f_number_of d_number_of
  f_read : Addr
  d_read : FuncData
  a_read : DefAt K mg "read" (topS 7) f_read d_read
  f_l_cell_at : Addr
  d_l_cell_at : FuncData
  a_l_cell_at : DefAt K mg "_law_cell_at" (topS 9) f_l_cell_at d_l_cell_at
  f_l_plan : Addr
  d_l_plan : FuncData
  a_l_plan : DefAt K mg "_law_plan" (topS 10) f_l_plan d_l_plan
  f_l_mark : Addr
  d_l_mark : FuncData
  a_l_mark : DefAt K mg "_law_mark" (topS 11) f_l_mark d_l_mark
  f_l_shown : Addr
  d_l_shown : FuncData
  a_l_shown : DefAt K mg "_law_shown" (topS 12) f_l_shown d_l_shown
  f_l_spoiled : Addr
  d_l_spoiled : FuncData
  a_l_spoiled : DefAt K mg "_law_spoiled" (topS 13) f_l_spoiled d_l_spoiled
  f_l_number : Addr
  d_l_number : FuncData
  a_l_number : DefAt K mg "_law_number" (topS 14) f_l_number d_l_number
  f_l_due : Addr
  d_l_due : FuncData
  a_l_due : DefAt K mg "_law_due" (topS 15) f_l_due d_l_due
  f_l_told : Addr
  d_l_told : FuncData
  a_l_told : DefAt K mg "_law_told" (topS 16) f_l_told d_l_told
  f_law : Addr
  d_law : FuncData
  a_law : DefAt K mg "law" (topS 17) f_law d_law
  z_ValueError : mg "ValueError" = none
  z_isinstance : mg "isinstance" = none
  z_len : mg "len" = none
  z_range : mg "range" = none
  letters_t : Tok
  letters : mg "LETTERS" = some (.str (Str.ofString "abcdefghijkl") letters_t)
  fI : Addr
  late : PySem.LateX.LateTxt K mg CL fI
  noplan : NoPl K mg "NoPlan" CN
  CR : Addr
  excN : ExcI K CN
  gR : mg "RopeError" = some (.ref CR)
  tR : PySem.W.exmOne K (.ref CN) (.ref CR) = some true
  oL : PySem.W.kitOne K (.ref CN) (.ref CN) = some true
  oV : PySem.W.kitOne K (.ref CN) (.type "ValueError") = some true
  oN : PySem.W.kitOne K (.ref CN) (.ref CL) = some false
  gL : mg "Late" = some (.ref CL)
section
variable {P : Program} {w : World} {K : PySem.W.Frag} {mg : Str → Option Value} {base : Heap}
abbrev s_number_of : Stmt := topS 6
abbrev N_number_of : List Str := ["mark", "place", "k"]
theorem sc_number_of : FnScope N_number_of ["mark", "place"] (defScope s_number_of) := ⟨rfl, rfl, rfl, by decide +kernel, rfl, by decide +kernel, by decide +kernel⟩
def c_number_of_1 (n : Nat) : SFn :=
    (sIf (tOf (eBin dEq (eBin dIx (eC (.str (Str.ofString "abcdefghijkl"))) (eSeq 2)) (eSeq 0))) (sRet (eVar 2)) sNil)
def b_number_of (n : Nat) : SFn :=
    (sSeq (sIf (tOf (eBin dEq (eSeq 0) (eC (.str (Str.ofString "o"))))) (sRet (eNeg (eC (.int 1)))) sNil)
    (sSeq (sFor 2 (iRg1 (eVar 1)) (c_number_of_1 n))
    sNoPlan))
theorem bi_number_of (T : Txt K mg) : Binds K T.d_number_of ["mark", "place"] [] := T.a_number_of.F.binds fun _ _ _ _ _ _ us hl => match us, hl with | [_, _], _ => rfl
theorem ok_number_of (T : Txt K mg) : FnOk P w K mg base (L2.CX P w) 3 T.f_number_of T.d_number_of ["mark", "place"] (spD K T.CL T.CN 2 1 b_number_of) :=
  mk_okX T.a_number_of.F sc_number_of fun cdv A outer s H E hr n =>
    (dss_cons (ds_if (dt_cmp (op_eqD (hu64 hr)) vok_eq (de_seq 0) (DEs.w de_str) (nomark _)) (dss_one (ds_ret (de_neg de_int))) dss_nil)
    (dss_cons (ds_for 2 (passes_of rfl) (di_range1 T.z_range (de_var 1)) (dss_one (ds_if (dt_cmp (op_eqD (hu64 hr)) vok_eq (DEs.w (de_ix (DEs.w (de_gstr T.letters)) (de_seq 2))) (de_seq 0) (nomark _)) (dss_one (ds_ret (de_var 2))) dss_nil)) sc_number_of.nd)
    (dss_one (ds_noplan T.noplan (takes_of rfl rfl rfl rfl)))))
abbrev s_read : Stmt := topS 7
abbrev N_read : List Str := ["text", "plan", "word", "marks", "one", "other"]
theorem sc_read : FnScope N_read ["text"] (defScope s_read) := ⟨rfl, rfl, rfl, by decide +kernel, rfl, by decide +kernel, by decide +kernel⟩
def c_read_1 (n : Nat) : SFn :=
    (sSeq (sIf (tOf (eBin dEq (eUn dLen (eSeq 1)) (eC (.int 12)))) sNoPlan sNil)
    (sSeq (sSet 3 (lstD (oSplit (eVar 2) (eC (.str (Str.ofString "+"))))))
    (sSeq (sSetX 4 (b_number_of n) 1 (gS (eBin dIx (eSeq 3) (eC (.int 0))) (gS (eUn dLen (eSeq 1)) gNil)))
    (sSeq (sSet 5 (eC .none))
    (sSeq (sIf (tOf (eBin dGt (eUn dLen (eSeq 3)) (eC (.int 1)))) (sSeq (sSetX 5 (b_number_of n) 1 (gS (eBin dIx (eSeq 3) (eC (.int 1))) (gS (eUn dLen (eSeq 1)) gNil)))
    (sIf (tOr2 (tOf (eBin dGt (eUn dLen (eSeq 3)) (eC (.int 2)))) (tOf (eBin dLt (eSeq 5) (eSeq 4)))) sNoPlan sNil)) sNil)
    (sMut 1 (eTup (evs [(eVar 4), (eVar 5)])) lAppend))))))
def b_read (n : Nat) : SFn :=
    (sSeq (sSetO 1 (evs []))
    (sSeq (sFor 2 (iLst (lstD (oSplit (eVar 0) (eC (.str (Str.ofString ", ")))))) (c_read_1 n))
    (sFrz 1 (sRet (eVar 1)))))
theorem bi_read (T : Txt K mg) : Binds K T.d_read ["text"] [] := T.a_read.F.binds fun _ _ _ _ _ _ us hl => match us, hl with | [_], _ => rfl
theorem ok_read (T : Txt K mg) : FnOk P w K mg base (L2.CX P w) 4 T.f_read T.d_read ["text"] (spD K T.CL T.CN 1 5 b_read) :=
  mk_okX T.a_read.F sc_read fun cdv A outer s H E hr n =>
    (dss_cons (ds_setO 1 (de_lst da_nil) sc_read.nd)
    (dss_cons (ds_for 2 (passes_of rfl) (di_list (DEo.s (de_split (de_var 0) de_str))) (dss_cons (ds_if (dt_cmp (op_eqD (hu64 hr)) vok_eq (DEs.w (de_len T.z_len (de_seq 1))) (DEs.w de_int) (nomark _)) (dss_one (ds_noplan T.noplan (takes_of rfl rfl rfl rfl))) dss_nil)
    (dss_cons (ds_set 3 (DEo.s (de_split (de_var 2) de_str)) sc_read.nd)
    (dss_cons (ds_setX 4 n (ok_number_of T) (hr.mono (by decide)) T.a_number_of.g T.a_number_of.F.kp (bi_number_of T) (takes_of rfl rfl rfl rfl) (dg_s (de_ix (de_seq 3) (DEs.w de_int)) (dg_s (de_len T.z_len (de_seq 1)) dg_nil)) sc_read.nd)
    (dss_cons (ds_set 5 de_non sc_read.nd)
    (dss_cons (ds_if (dt_cmp op_gt vok_gt (DEs.w (de_len T.z_len (de_seq 3))) (DEs.w de_int) (nomark _)) (dss_cons (ds_setX 5 n (ok_number_of T) (hr.mono (by decide)) T.a_number_of.g T.a_number_of.F.kp (bi_number_of T) (takes_of rfl rfl rfl rfl) (dg_s (de_ix (de_seq 3) (DEs.w de_int)) (dg_s (de_len T.z_len (de_seq 1)) dg_nil)) sc_read.nd)
    (dss_one (ds_if (dt_w (dw_or (dt_cmp op_gt vok_gt (DEs.w (de_len T.z_len (de_seq 3))) (DEs.w de_int) (nomark _)) (dw_or1 (dt_cmp op_lt vok_lt (de_seq 5) (de_seq 4) (nomark _))))) (dss_one (ds_noplan T.noplan (takes_of rfl rfl rfl rfl))) dss_nil))) dss_nil)
    (dss_one (ds_append 1 (de_tup (da_cons (de_var 4) (da_cons (de_var 5) da_nil)))))))))) sc_read.nd)
    (dss_one (ds_frz 1 (ds_ret (de_var 1))))))
abbrev s_l_cell_at : Stmt := topS 9
abbrev N_l_cell_at : List Str := ["script", "k"]
theorem sc_l_cell_at : FnScope N_l_cell_at ["script", "k"] (defScope s_l_cell_at) := ⟨rfl, rfl, rfl, by decide +kernel, rfl, by decide +kernel, by decide +kernel⟩
def b_l_cell_at (n : Nat) : SFn :=
    (sSeq (sIf (tOf (eBin dLt (eSeq 1) (eUn dLen (eSeq 0)))) (sRet (eBin dIx (eSeq 0) (eSeq 1))) sNil)
    (sRet (eC (.int 0))))
theorem bi_l_cell_at (T : Txt K mg) : Binds K T.d_l_cell_at ["script", "k"] [] := T.a_l_cell_at.F.binds fun _ _ _ _ _ _ us hl => match us, hl with | [_, _], _ => rfl
theorem ok_l_cell_at (T : Txt K mg) : FnOk P w K mg base CX0 1 T.f_l_cell_at T.d_l_cell_at ["script", "k"] (spD K T.CL T.CN 2 0 b_l_cell_at) :=
  mk_ok T.a_l_cell_at.F sc_l_cell_at fun cdv A outer s H E hr n =>
    (dss_cons (ds_if (dt_cmp op_lt vok_lt (de_seq 1) (DEs.w (de_len T.z_len (de_seq 0))) (nomark _)) (dss_one (ds_ret (de_ix (de_seq 0) (de_seq 1)))) dss_nil)
    (dss_one (ds_ret de_int)))
abbrev s_l_plan : Stmt := topS 10
abbrev N_l_plan : List Str := ["script", "start", "many", "plan", "k", "one", "cell"]
theorem sc_l_plan : FnScope N_l_plan ["script", "start", "many"] (defScope s_l_plan) := ⟨rfl, rfl, rfl, by decide +kernel, rfl, by decide +kernel, by decide +kernel⟩
def c_l_plan_1 (n : Nat) : SFn :=
    (sSeq (sSet 5 (eBin dSub (eBin dMod (eCall (b_l_cell_at n) 0 (gW (eSeq 0) (gS (eBin dAdd (eSeq 1) (eBin dMul (eC (.int 2)) (eSeq 4))) gNil))) (eBin dAdd (eSeq 4) (eC (.int 1)))) (eC (.int 1))))
    (sSeq (sSet 6 (eCall (b_l_cell_at n) 0 (gW (eSeq 0) (gS (eBin dAdd (eBin dAdd (eSeq 1) (eBin dMul (eC (.int 2)) (eSeq 4))) (eC (.int 1))) gNil))))
    (sIf (tOf (eBin dEq (eBin dMod (eSeq 6) (eC (.int 4))) (eC (.int 3)))) (sMut 3 (eTup (evs [(eVar 5), (eC .none)])) lAppend) (sIf (tOf (eBin dEq (eBin dMod (eSeq 6) (eC (.int 4))) (eC (.int 2)))) (sMut 3 (eTup (evs [(eVar 5), (eVar 5)])) lAppend) (sMut 3 (eTup (evs [(eVar 5), (eBin dAdd (eSeq 5) (eBin dMod (eBin dDiv (eSeq 6) (eC (.int 4))) (eBin dSub (eSeq 4) (eSeq 5))))])) lAppend)))))
def b_l_plan (n : Nat) : SFn :=
    (sSeq (sSetO 3 (evs []))
    (sSeq (sFor 4 (iRg1 (eVar 2)) (c_l_plan_1 n))
    (sFrz 3 (sRet (eVar 3)))))
theorem bi_l_plan (T : Txt K mg) : Binds K T.d_l_plan ["script", "start", "many"] [] := T.a_l_plan.F.binds fun _ _ _ _ _ _ us hl => match us, hl with | [_, _, _], _ => rfl
theorem ok_l_plan (T : Txt K mg) : FnOk P w K mg base CX0 2 T.f_l_plan T.d_l_plan ["script", "start", "many"] (spD K T.CL T.CN 3 4 b_l_plan) :=
  mk_ok T.a_l_plan.F sc_l_plan fun cdv A outer s H E hr n =>
    (dss_cons (ds_setO 3 (de_lst da_nil) sc_l_plan.nd)
    (dss_cons (ds_for 4 PassesOwn.never (di_range1 T.z_range (de_var 2)) (dss_cons (ds_set 5 (de_sub (DEs.w (de_mod (DEs.w (de_call n (ok_l_cell_at T) (hr.mono (by decide)) T.a_l_cell_at.g T.a_l_cell_at.F.kp (bi_l_cell_at T) pass0 (dg_w (de_seq 0) (dg_s (de_add (de_seq 1) (DEs.w (de_mul (DEs.w de_int) (de_seq 4)))) dg_nil)))) (DEs.w (de_add (de_seq 4) (DEs.w de_int))))) (DEs.w de_int)) sc_l_plan.nd)
    (dss_cons (ds_set 6 (de_call n (ok_l_cell_at T) (hr.mono (by decide)) T.a_l_cell_at.g T.a_l_cell_at.F.kp (bi_l_cell_at T) pass0 (dg_w (de_seq 0) (dg_s (de_add (DEs.w (de_add (de_seq 1) (DEs.w (de_mul (DEs.w de_int) (de_seq 4))))) (DEs.w de_int)) dg_nil))) sc_l_plan.nd)
    (dss_one (ds_if (dt_cmp (op_eqD (hu64 hr)) vok_eq (DEs.w (de_mod (de_seq 6) (DEs.w de_int))) (DEs.w de_int) (nomark _)) (dss_one (ds_append 3 (de_tup (da_cons (de_var 5) (da_cons de_non da_nil))))) (dss_one (ds_if (dt_cmp (op_eqD (hu64 hr)) vok_eq (DEs.w (de_mod (de_seq 6) (DEs.w de_int))) (DEs.w de_int) (nomark _)) (dss_one (ds_append 3 (de_tup (da_cons (de_var 5) (da_cons (de_var 5) da_nil))))) (dss_one (ds_append 3 (de_tup (da_cons (de_var 5) (da_cons (de_add (de_seq 5) (DEs.w (de_mod (DEs.w (de_div (de_seq 6) (DEs.w de_int))) (DEs.w (de_sub (de_seq 4) (de_seq 5)))))) da_nil))))))))))) sc_l_plan.nd)
    (dss_one (ds_frz 3 (ds_ret (de_var 3))))))
abbrev s_l_mark : Stmt := topS 11
abbrev N_l_mark : List Str := ["number"]
theorem sc_l_mark : FnScope N_l_mark ["number"] (defScope s_l_mark) := ⟨rfl, rfl, rfl, by decide +kernel, rfl, by decide +kernel, by decide +kernel⟩
def b_l_mark (n : Nat) : SFn :=
    (sRet (eBin dIx (eC (.str (Str.ofString "oabcdefghijkl"))) (eBin dAdd (eSeq 0) (eC (.int 1)))))
theorem bi_l_mark (T : Txt K mg) : Binds K T.d_l_mark ["number"] [] := T.a_l_mark.F.binds fun _ _ _ _ _ _ us hl => match us, hl with | [_], _ => rfl
theorem ok_l_mark (T : Txt K mg) : FnOk P w K mg base CX0 1 T.f_l_mark T.d_l_mark ["number"] (spD K T.CL T.CN 1 0 b_l_mark) :=
  mk_ok T.a_l_mark.F sc_l_mark fun cdv A outer s H E hr n =>
    (dss_one (ds_ret (de_ix (DEs.w de_str) (DEs.w (de_add (de_seq 0) (DEs.w de_int))))))
abbrev s_l_shown : Stmt := topS 12
abbrev N_l_shown : List Str := ["plan", "words", "rope"]
theorem sc_l_shown : FnScope N_l_shown ["plan"] (defScope s_l_shown) := ⟨rfl, rfl, rfl, by decide +kernel, rfl, by decide +kernel, by decide +kernel⟩
def c_l_shown_1 (n : Nat) : SFn :=
    (sIf (tOf (eBin dIs (eBin dIx (eSeq 2) (eC (.int 1))) (eC .none))) (sMut 1 (eCall (b_l_mark n) 0 (gS (eBin dIx (eSeq 2) (eC (.int 0))) gNil)) lAppend) (sMut 1 (eBin dAdd (eBin dAdd (eCall (b_l_mark n) 0 (gS (eBin dIx (eSeq 2) (eC (.int 0))) gNil)) (eC (.str (Str.ofString "+")))) (eCall (b_l_mark n) 0 (gS (eBin dIx (eSeq 2) (eC (.int 1))) gNil))) lAppend))
def b_l_shown (n : Nat) : SFn :=
    (sSeq (sSetO 1 (evs []))
    (sSeq (sFor 2 (iLst (eVar 0)) (c_l_shown_1 n))
    (sRet (eJoin (eC (.str (Str.ofString ", "))) (eSeq 1)))))
theorem bi_l_shown (T : Txt K mg) : Binds K T.d_l_shown ["plan"] [] := T.a_l_shown.F.binds fun _ _ _ _ _ _ us hl => match us, hl with | [_], _ => rfl
theorem ok_l_shown (T : Txt K mg) : FnOk P w K mg base CX0 2 T.f_l_shown T.d_l_shown ["plan"] (spD K T.CL T.CN 1 2 b_l_shown) :=
  mk_ok T.a_l_shown.F sc_l_shown fun cdv A outer s H E hr n =>
    (dss_cons (ds_setO 1 (de_lst da_nil) sc_l_shown.nd)
    (dss_cons (ds_for 2 PassesOwn.never (di_list (de_var 0)) (dss_one (ds_if (dt_cmp op_isN vok_is (DEs.w (de_ix (de_seq 2) (DEs.w de_int))) (DEs.w de_non) (nomark _)) (dss_one (ds_append 1 (de_call n (ok_l_mark T) (hr.mono (by decide)) T.a_l_mark.g T.a_l_mark.F.kp (bi_l_mark T) pass0 (dg_s (de_ix (de_seq 2) (DEs.w de_int)) dg_nil)))) (dss_one (ds_append 1 (de_add (DEs.w (de_add (DEs.w (de_call n (ok_l_mark T) (hr.mono (by decide)) T.a_l_mark.g T.a_l_mark.F.kp (bi_l_mark T) pass0 (dg_s (de_ix (de_seq 2) (DEs.w de_int)) dg_nil))) (DEs.w de_str))) (DEs.w (de_call n (ok_l_mark T) (hr.mono (by decide)) T.a_l_mark.g T.a_l_mark.F.kp (bi_l_mark T) pass0 (dg_s (de_ix (de_seq 2) (DEs.w de_int)) dg_nil)))))))) sc_l_shown.nd)
    (dss_one (ds_ret (de_join de_str (de_seq 1))))))
abbrev s_l_spoiled : Stmt := topS 13
abbrev N_l_spoiled : List Str := ["text", "way", "cell", "other", "signs", "sign", "at", "words", "spot", "k"]
theorem sc_l_spoiled : FnScope N_l_spoiled ["text", "way", "cell", "other"] (defScope s_l_spoiled) := ⟨rfl, rfl, rfl, by decide +kernel, rfl, by decide +kernel, by decide +kernel⟩
def b_l_spoiled (n : Nat) : SFn :=
    (sSeq (sSet 4 (eC (.str (Str.ofString "oabcdefghijklmA0+-, \n"))))
    (sSeq (sSet 5 (eBin dIx (eSeq 4) (eBin dMod (eSeq 3) (eC (.int 21)))))
    (sSeq (sSet 6 (eBin dMod (eSeq 2) (eBin dAdd (eUn dLen (eSeq 0)) (eC (.int 1)))))
    (sSeq (sSetO 7 (oSplit (eVar 0) (eC (.str (Str.ofString ", ")))))
    (sSeq (sSet 8 (eBin dMod (eSeq 2) (eUn dLen (eSeq 7))))
    (sSeq (sIf (tOf (eBin dEq (eSeq 1) (eC (.int 1)))) (sRet (eBin dAdd (eBin dAdd (eSl (eSeq 0) pNone (pSome (eVar 6))) (eSeq 5)) (eSl (eSeq 0) (pSome (eVar 6)) pNone))) sNil)
    (sSeq (sIf (tOf (eBin dEq (eSeq 1) (eC (.int 2)))) (sRet (eBin dAdd (eBin dAdd (eSl (eSeq 0) pNone (pSome (eVar 6))) (eSeq 5)) (eSl (eSeq 0) (pSome (eBin dAdd (eSeq 6) (eC (.int 1)))) pNone))) sNil)
    (sSeq (sIf (tOf (eBin dEq (eSeq 1) (eC (.int 3)))) (sRet (eBin dAdd (eSl (eSeq 0) pNone (pSome (eVar 6))) (eSl (eSeq 0) (pSome (eBin dAdd (eSeq 6) (eC (.int 1)))) pNone))) sNil)
    (sSeq (sIf (tOf (eBin dEq (eSeq 1) (eC (.int 4)))) (sPut 7 (eVar 8) (eBin dAdd (eBin dAdd (eSl (eBin dIx (eSeq 7) (eSeq 8)) (pSome (eC (.int 2))) pNone) (eSl (eBin dIx (eSeq 7) (eSeq 8)) (pSome (eC (.int 1))) (pSome (eC (.int 2))))) (eSl (eBin dIx (eSeq 7) (eSeq 8)) pNone (pSome (eC (.int 1)))))) sNil)
    (sSeq (sIf (tOf (eBin dEq (eSeq 1) (eC (.int 5)))) (sSetO 7 (oCat (lstD (oCat (lstD (oSl (eSeq 7) pNone (pSome (eVar 8)))) (lstD (evs [(eBin dIx (eSeq 7) (eSeq 8)), (eBin dIx (eSeq 7) (eSeq 8))])))) (lstD (oSl (eSeq 7) (pSome (eVar 8)) pNone)))) sNil)
    (sSeq (sIf (tOf (eBin dEq (eSeq 1) (eC (.int 6)))) (sFrz 7 (sSetO 7 (oCat (eVar 7) (lstD (oComp 9 (iRg1 (eBin dAdd (eBin dSub (eC (.int 13)) (eUn dLen (eSeq 7))) (eBin dMod (eSeq 3) (eC (.int 2))))) tTrue (eC (.str (Str.ofString "o")))))))) sNil)
    (sSeq (sIf (tOf (eBin dEq (eSeq 1) (eC (.int 7)))) (sRet (eC (.str (Str.ofString "")))) sNil)
    (sRet (eJoin (eC (.str (Str.ofString ", "))) (eSeq 7)))))))))))))))
theorem bi_l_spoiled (T : Txt K mg) : Binds K T.d_l_spoiled ["text", "way", "cell", "other"] [] := T.a_l_spoiled.F.binds fun _ _ _ _ _ _ us hl => match us, hl with | [_, _, _, _], _ => rfl
theorem ok_l_spoiled (T : Txt K mg) : FnOk P w K mg base CX0 1 T.f_l_spoiled T.d_l_spoiled ["text", "way", "cell", "other"] (spD K T.CL T.CN 4 6 b_l_spoiled) :=
  mk_ok T.a_l_spoiled.F sc_l_spoiled fun cdv A outer s H E hr n =>
    (dss_cons (ds_set 4 de_str sc_l_spoiled.nd)
    (dss_cons (ds_set 5 (de_ix (de_seq 4) (DEs.w (de_mod (de_seq 3) (DEs.w de_int)))) sc_l_spoiled.nd)
    (dss_cons (ds_set 6 (de_mod (de_seq 2) (DEs.w (de_add (DEs.w (de_len T.z_len (de_seq 0))) (DEs.w de_int)))) sc_l_spoiled.nd)
    (dss_cons (ds_setO 7 (de_split (de_var 0) de_str) sc_l_spoiled.nd)
    (dss_cons (ds_set 8 (de_mod (de_seq 2) (DEs.w (de_len T.z_len (de_seq 7)))) sc_l_spoiled.nd)
    (dss_cons (ds_if (dt_cmp (op_eqD (hu64 hr)) vok_eq (de_seq 1) (DEs.w de_int) (nomark _)) (dss_one (ds_ret (de_add (DEs.w (de_add (DEs.w (de_slS (de_seq 0) dp_none (dp_some (de_var 6)))) (de_seq 5))) (DEs.w (de_slS (de_seq 0) (dp_some (de_var 6)) dp_none))))) dss_nil)
    (dss_cons (ds_if (dt_cmp (op_eqD (hu64 hr)) vok_eq (de_seq 1) (DEs.w de_int) (nomark _)) (dss_one (ds_ret (de_add (DEs.w (de_add (DEs.w (de_slS (de_seq 0) dp_none (dp_some (de_var 6)))) (de_seq 5))) (DEs.w (de_slS (de_seq 0) (dp_some (de_add (de_seq 6) (DEs.w de_int))) dp_none))))) dss_nil)
    (dss_cons (ds_if (dt_cmp (op_eqD (hu64 hr)) vok_eq (de_seq 1) (DEs.w de_int) (nomark _)) (dss_one (ds_ret (de_add (DEs.w (de_slS (de_seq 0) dp_none (dp_some (de_var 6)))) (DEs.w (de_slS (de_seq 0) (dp_some (de_add (de_seq 6) (DEs.w de_int))) dp_none))))) dss_nil)
    (dss_cons (ds_if (dt_cmp (op_eqD (hu64 hr)) vok_eq (de_seq 1) (DEs.w de_int) (nomark _)) (dss_one (ds_put 7 (de_var 8) (de_add (DEs.w (de_add (DEs.w (de_slS (DEs.w (de_ix (de_seq 7) (de_seq 8))) (dp_some de_int) dp_none)) (DEs.w (de_slS (DEs.w (de_ix (de_seq 7) (de_seq 8))) (dp_some de_int) (dp_some de_int))))) (DEs.w (de_slS (DEs.w (de_ix (de_seq 7) (de_seq 8))) dp_none (dp_some de_int)))))) dss_nil)
    (dss_cons (ds_if (dt_cmp (op_eqD (hu64 hr)) vok_eq (de_seq 1) (DEs.w de_int) (nomark _)) (dss_one (ds_setO 7 (de_cat (DEo.s (de_cat (DEo.s (de_slL (de_seq 7) dp_none (dp_some (de_var 8)))) (DEo.s (de_lst (da_cons (de_ix (de_seq 7) (de_seq 8)) (da_cons (de_ix (de_seq 7) (de_seq 8)) da_nil)))))) (DEo.s (de_slL (de_seq 7) (dp_some (de_var 8)) dp_none))) sc_l_spoiled.nd)) dss_nil)
    (dss_cons (ds_if (dt_cmp (op_eqD (hu64 hr)) vok_eq (de_seq 1) (DEs.w de_int) (nomark _)) (dss_one (ds_frz 7 (ds_setO 7 (de_cat (de_var 7) (DEo.s (de_lc0 9 (DI.j (di_range1 T.z_range (de_add (DEs.w (de_sub (DEs.w de_int) (DEs.w (de_len T.z_len (de_seq 7))))) (DEs.w (de_mod (de_seq 3) (DEs.w de_int)))))) (blkOk_by (N := N_l_spoiled) (sc := defScope s_l_spoiled) (by decide +kernel)) sc_l_spoiled.nd (fun _ _ _ _ _ => de_str) (fun _ _ _ _ _ => pg_name (i := 9) sc_l_spoiled.nd rfl (Or.inl rfl))))) sc_l_spoiled.nd))) dss_nil)
    (dss_cons (ds_if (dt_cmp (op_eqD (hu64 hr)) vok_eq (de_seq 1) (DEs.w de_int) (nomark _)) (dss_one (ds_ret de_str)) dss_nil)
    (dss_one (ds_ret (de_join de_str (de_seq 7))))))))))))))))
abbrev s_l_number : Stmt := topS 14
abbrev N_l_number : List Str := ["mark", "place", "number"]
theorem sc_l_number : FnScope N_l_number ["mark", "place"] (defScope s_l_number) := ⟨rfl, rfl, rfl, by decide +kernel, rfl, by decide +kernel, by decide +kernel⟩
def b_l_number (n : Nat) : SFn :=
    (sSeq (sIf (tOf (eBin dNe (eUn dLen (eSeq 0)) (eC (.int 1)))) (sRet (eC .none)) sNil)
    (sSeq (sSet 2 (eBin dSub (eFind (eC (.str (Str.ofString "oabcdefghijkl"))) (eVar 0)) (eC (.int 1))))
    (sSeq (sIf (tOr2 (tOf (eBin dLt (eSeq 2) (eNeg (eC (.int 1))))) (tOf (eBin dGe (eSeq 2) (eSeq 1)))) (sRet (eC .none)) sNil)
    (sRet (eVar 2)))))
theorem bi_l_number (T : Txt K mg) : Binds K T.d_l_number ["mark", "place"] [] := T.a_l_number.F.binds fun _ _ _ _ _ _ us hl => match us, hl with | [_, _], _ => rfl
theorem ok_l_number (T : Txt K mg) : FnOk P w K mg base CX0 1 T.f_l_number T.d_l_number ["mark", "place"] (spD K T.CL T.CN 2 1 b_l_number) :=
  mk_ok T.a_l_number.F sc_l_number fun cdv A outer s H E hr n =>
    (dss_cons (ds_if (dt_cmp (op_neD (hu64 hr)) vok_ne (DEs.w (de_len T.z_len (de_seq 0))) (DEs.w de_int) (nomark _)) (dss_one (ds_ret de_non)) dss_nil)
    (dss_cons (ds_set 2 (de_sub (DEs.w (de_find de_str (de_var 0))) (DEs.w de_int)) sc_l_number.nd)
    (dss_cons (ds_if (dt_w (dw_or (dt_cmp op_lt vok_lt (de_seq 2) (DEs.w (de_neg de_int)) (nomark _)) (dw_or1 (dt_cmp op_ge vok_ge (de_seq 2) (de_seq 1) (nomark _))))) (dss_one (ds_ret de_non)) dss_nil)
    (dss_one (ds_ret (de_var 2))))))
abbrev s_l_due : Stmt := topS 15
abbrev N_l_due : List Str := ["text", "words", "plan", "k", "marks", "numbers", "mark"]
theorem sc_l_due : FnScope N_l_due ["text"] (defScope s_l_due) := ⟨rfl, rfl, rfl, by decide +kernel, rfl, by decide +kernel, by decide +kernel⟩
def c_l_due_1 (n : Nat) : SFn :=
    (sSeq (sSet 4 (lstD (oSplit (eBin dIx (eSeq 1) (eSeq 3)) (eC (.str (Str.ofString "+"))))))
    (sSeq (sSetO 5 (oComp 6 (iLst (eVar 4)) tTrue (eCall (b_l_number n) 1 (gS (eVar 6) (gS (eVar 3) gNil)))))
    (sSeq (sIf (tOr2 (tOf (eBin dGt (eUn dLen (eSeq 4)) (eC (.int 2)))) (tOr2 (tOf (eBin dIn (eC .none) (eSeq 5))) (tOf (eBin dGt (eSeq 3) (eC (.int 11)))))) (sRet (eC .none)) sNil)
    (sSeq (sIf (tAnd2 (tOf (eBin dEq (eUn dLen (eSeq 5)) (eC (.int 2)))) (tOf (eBin dLt (eBin dIx (eSeq 5) (eC (.int 1))) (eBin dIx (eSeq 5) (eC (.int 0)))))) (sRet (eC .none)) sNil)
    (sFrz 5 (sMut 2 (eTup (evs [(eBin dIx (eSeq 5) (eC (.int 0))), (eBin dIx (lstD (oCat (eVar 5) (lstD (evs [(eC .none)])))) (eC (.int 1)))])) lAppend))))))
def b_l_due (n : Nat) : SFn :=
    (sSeq (sSet 1 (lstD (oSplit (eVar 0) (eC (.str (Str.ofString ", "))))))
    (sSeq (sSetO 2 (evs []))
    (sSeq (sFor 3 (iRg1 (eUn dLen (eSeq 1))) (c_l_due_1 n))
    (sFrz 2 (sRet (eVar 2))))))
theorem bi_l_due (T : Txt K mg) : Binds K T.d_l_due ["text"] [] := T.a_l_due.F.binds fun _ _ _ _ _ _ us hl => match us, hl with | [_], _ => rfl
theorem ok_l_due (T : Txt K mg) : FnOk P w K mg base CX0 2 T.f_l_due T.d_l_due ["text"] (spD K T.CL T.CN 1 6 b_l_due) :=
  mk_ok T.a_l_due.F sc_l_due fun cdv A outer s H E hr n =>
    (dss_cons (ds_set 1 (DEo.s (de_split (de_var 0) de_str)) sc_l_due.nd)
    (dss_cons (ds_setO 2 (de_lst da_nil) sc_l_due.nd)
    (dss_cons (ds_for 3 PassesOwn.never (di_range1 T.z_range (de_len T.z_len (de_seq 1))) (dss_cons (ds_set 4 (DEo.s (de_split (de_ix (de_seq 1) (de_seq 3)) de_str)) sc_l_due.nd)
    (dss_cons (ds_setLc0 6 5 (DI.j (di_list (de_var 4))) (blkOk_by (N := N_l_due) (sc := defScope s_l_due) (by decide +kernel)) sc_l_due.nd (fun _ _ _ _ _ => (de_call n (ok_l_number T) (hr.mono (by decide)) T.a_l_number.g T.a_l_number.F.kp (bi_l_number T) pass0 (dg_s (de_var 6) (dg_s (de_var 3) dg_nil)))) (fun _ _ _ _ _ => pg_name (i := 6) sc_l_due.nd rfl (Or.inl rfl)) (sw_true rfl rfl rfl (by decide +kernel)))
    (dss_cons (ds_if (dt_w (dw_or (dt_cmp op_gt vok_gt (DEs.w (de_len T.z_len (de_seq 4))) (DEs.w de_int) (nomark _)) (dw_or (dt_cmp (op_inD (hu65 hr)) vok_in (DEs.w de_non) (de_seq 5) (by rfl)) (dw_or1 (dt_cmp op_gt vok_gt (de_seq 3) (DEs.w de_int) (nomark _)))))) (dss_one (ds_ret de_non)) dss_nil)
    (dss_cons (ds_if (dt_w (dw_and (dt_cmp (op_eqD (hu64 hr)) vok_eq (DEs.w (de_len T.z_len (de_seq 5))) (DEs.w de_int) (nomark _)) (dw_and1 (dt_cmp op_lt vok_lt (DEs.w (de_ix (de_seq 5) (DEs.w de_int))) (DEs.w (de_ix (de_seq 5) (DEs.w de_int))) (nomark _))))) (dss_one (ds_ret de_non)) dss_nil)
    (dss_one (ds_frz 5 (ds_append 2 (de_tup (da_cons (de_ix (de_seq 5) (DEs.w de_int)) (da_cons (de_ix (DEs.w (DEo.s (de_cat (de_var 5) (DEo.s (de_lst (da_cons de_non da_nil)))))) (DEs.w de_int)) da_nil)))))))))) sc_l_due.nd)
    (dss_one (ds_frz 2 (ds_ret (de_var 2)))))))
abbrev s_l_told : Stmt := topS 16
abbrev N_l_told : List Str := ["text", "found", "e"]
theorem sc_l_told : FnScope N_l_told ["text"] (defScope s_l_told) := ⟨rfl, rfl, rfl, by decide +kernel, rfl, by decide +kernel, by decide +kernel⟩
def b_l_told (n : Nat) : SFn :=
    (sSeq (sSet 1 (eC .none))
    (sSeq (sTryP 1 2 (Str.ofString "plan") (Str.ofString "refused") (b_read n) 5 (gS (eVar 0) gNil))
    (sRet (eVar 1))))
theorem bi_l_told (T : Txt K mg) : Binds K T.d_l_told ["text"] [] := T.a_l_told.F.binds fun _ _ _ _ _ _ us hl => match us, hl with | [_], _ => rfl
theorem ok_l_told (T : Txt K mg) : FnOk P w K mg base CX0 5 T.f_l_told T.d_l_told ["text"] (spD K T.CL T.CN 1 2 b_l_told) :=
  mk_ok T.a_l_told.F sc_l_told fun cdv A outer s H E hr n =>
    (dss_cons (ds_set 1 de_non sc_l_told.nd)
    (dss_cons (ds_tryP 1 2 n T.noplan T.excN T.gL T.gR T.tR T.oL T.oV T.oN T.z_isinstance T.z_ValueError (ok_read T) (hr.mono (by decide)) T.a_read.g T.a_read.F.kp (bi_read T) (fun _ _ => (dg_s (de_var 0) dg_nil)) sc_l_told.nd)
    (dss_one (ds_ret (de_var 1)))))
abbrev s_law : Stmt := topS 17
abbrev N_law : List Str := ["script", "plan", "way", "text", "due", "found"]
theorem sc_law : FnScope N_law ["script"] (defScope s_law) := ⟨rfl, rfl, rfl, by decide +kernel, rfl, by decide +kernel, by decide +kernel⟩
def b_law (n : Nat) : SFn :=
    (sSeq (sSet 1 (eCall (b_l_plan n) 4 (gW (eSeq 0) (gS (eC (.int 4)) (gS (eBin dAdd (eC (.int 1)) (eBin dMod (eCall (b_l_cell_at n) 0 (gW (eSeq 0) (gS (eC (.int 0)) gNil))) (eC (.int 12)))) gNil)))))
    (sSeq (sSet 2 (eBin dMod (eCall (b_l_cell_at n) 0 (gW (eSeq 0) (gS (eC (.int 1)) gNil))) (eC (.int 10))))
    (sSeq (sSet 3 (eCall (b_l_spoiled n) 6 (gS (eCall (b_l_shown n) 2 (gS (eVar 1) gNil)) (gS (eVar 2) (gS (eCall (b_l_cell_at n) 0 (gW (eSeq 0) (gS (eC (.int 2)) gNil))) (gS (eCall (b_l_cell_at n) 0 (gW (eSeq 0) (gS (eC (.int 3)) gNil))) gNil))))))
    (sSeq (sSet 4 (eCall (b_l_due n) 6 (gS (eVar 3) gNil)))
    (sSeq (sSet 5 (eCall (b_l_told n) 2 (gS (eVar 3) gNil)))
    (sSeq (sIf (tOf (eBin dIs (eSeq 4) (eC .none))) (sRet (eAnd (eBin dEq (eSeq 5) (eTup (evs [(eC (.str (Str.ofString "refused"))), (eC (.bool true))]))) (eBin dEq (eCall (b_l_told n) 2 (gS (eVar 3) gNil)) (eTup (evs [(eC (.str (Str.ofString "refused"))), (eC (.bool true))]))))) sNil)
    (sRet (eAnd (eBin dEq (eSeq 5) (eTup (evs [(eC (.str (Str.ofString "plan"))), (eVar 4)]))) (eBin dEq (eCall (b_l_told n) 2 (gS (eVar 3) gNil)) (eTup (evs [(eC (.str (Str.ofString "plan"))), (eVar 4)])))))))))))
theorem bi_law (T : Txt K mg) : Binds K T.d_law ["script"] [] := T.a_law.F.binds fun _ _ _ _ _ _ us hl => match us, hl with | [_], _ => rfl
theorem ok_law (T : Txt K mg) : FnOk P w K mg base CX0 6 T.f_law T.d_law ["script"] (spD K T.CL T.CN 1 5 b_law) :=
  mk_ok T.a_law.F sc_law fun cdv A outer s H E hr n =>
    (dss_cons (ds_set 1 (de_call n (ok_l_plan T) (hr.mono (by decide)) T.a_l_plan.g T.a_l_plan.F.kp (bi_l_plan T) pass0 (dg_w (de_seq 0) (dg_s de_int (dg_s (de_add (DEs.w de_int) (DEs.w (de_mod (DEs.w (de_call n (ok_l_cell_at T) (hr.mono (by decide)) T.a_l_cell_at.g T.a_l_cell_at.F.kp (bi_l_cell_at T) pass0 (dg_w (de_seq 0) (dg_s de_int dg_nil)))) (DEs.w de_int)))) dg_nil)))) sc_law.nd)
    (dss_cons (ds_set 2 (de_mod (DEs.w (de_call n (ok_l_cell_at T) (hr.mono (by decide)) T.a_l_cell_at.g T.a_l_cell_at.F.kp (bi_l_cell_at T) pass0 (dg_w (de_seq 0) (dg_s de_int dg_nil)))) (DEs.w de_int)) sc_law.nd)
    (dss_cons (ds_set 3 (de_call n (ok_l_spoiled T) (hr.mono (by decide)) T.a_l_spoiled.g T.a_l_spoiled.F.kp (bi_l_spoiled T) pass0 (dg_s (de_call n (ok_l_shown T) (hr.mono (by decide)) T.a_l_shown.g T.a_l_shown.F.kp (bi_l_shown T) pass0 (dg_s (de_var 1) dg_nil)) (dg_s (de_var 2) (dg_s (de_call n (ok_l_cell_at T) (hr.mono (by decide)) T.a_l_cell_at.g T.a_l_cell_at.F.kp (bi_l_cell_at T) pass0 (dg_w (de_seq 0) (dg_s de_int dg_nil))) (dg_s (de_call n (ok_l_cell_at T) (hr.mono (by decide)) T.a_l_cell_at.g T.a_l_cell_at.F.kp (bi_l_cell_at T) pass0 (dg_w (de_seq 0) (dg_s de_int dg_nil))) dg_nil))))) sc_law.nd)
    (dss_cons (ds_set 4 (de_call n (ok_l_due T) (hr.mono (by decide)) T.a_l_due.g T.a_l_due.F.kp (bi_l_due T) pass0 (dg_s (de_var 3) dg_nil)) sc_law.nd)
    (dss_cons (ds_set 5 (de_call n (ok_l_told T) (hr.mono (by decide)) T.a_l_told.g T.a_l_told.F.kp (bi_l_told T) pass0 (dg_s (de_var 3) dg_nil)) sc_law.nd)
    (dss_cons (ds_if (dt_cmp op_isN vok_is (de_seq 4) (DEs.w de_non) (nomark _)) (dss_one (ds_ret (de_and (de_cmp (op_eqD (hu64 hr)) vok_eq (de_seq 5) (DEs.w (de_tup (da_cons de_str (da_cons de_bl da_nil)))) (nomark _)) (de_one (de_cmp (op_eqD (hu64 hr)) vok_eq (DEs.w (de_call n (ok_l_told T) (hr.mono (by decide)) T.a_l_told.g T.a_l_told.F.kp (bi_l_told T) pass0 (dg_s (de_var 3) dg_nil))) (DEs.w (de_tup (da_cons de_str (da_cons de_bl da_nil)))) (nomark _)))))) dss_nil)
    (dss_one (ds_ret (de_and (de_cmp (op_eqD (hu64 hr)) vok_eq (de_seq 5) (DEs.w (de_tup (da_cons de_str (da_cons (de_var 4) da_nil)))) (nomark _)) (de_one (de_cmp (op_eqD (hu64 hr)) vok_eq (DEs.w (de_call n (ok_l_told T) (hr.mono (by decide)) T.a_l_told.g T.a_l_told.F.kp (bi_l_told T) pass0 (dg_s (de_var 3) dg_nil))) (DEs.w (de_tup (da_cons de_str (da_cons (de_var 4) da_nil)))) (nomark _))))))))))))
end
end L2.RC

namespace L2.RC
open PySem PySem.Spec PyProof.Rows
theorem dIx_ints {ns : List Int} {k : Nat} (h : k < ns.length) : dIx (.list (ns.map .int)) (.int (k : Int)) = some (.int (cell ns k)) := by
  show atI (ns.map PyData.int) (k : Int) = _
  refine atI_nat ?_
  rw [List.getElem?_map]
  unfold cell
  rw [List.getElem?_eq_getElem h]
  rfl
theorem run_l_cell_at {n : Nat} (ns : List Int) (k : Nat) : b_l_cell_at n [.br (ns.map .int), .fz (.int (k : Int))] = .rt (.int (cell ns k)) := by
  unfold b_l_cell_at
  by_cases h : k < ns.length
  · have h' : (k : Int) < ((ns.map PyData.int).length : Int) := by rw [List.length_map]; omega
    simp only [a_nil, a_seq, a_if, a_ret, a_set, a_setO, a_sfrz, a_frz, a_mut, a_for, a_bin, a_seqv, a_var, a_c, a_un, a_tup, a_evs0, a_evs1, a_call, a_gs, a_gw, a_gnil, a_tof, a_tand, a_tor, a_tnot, a_and, a_or, a_not, a_eif, a_neg, a_lstD, a_rg1, a_rg2, a_ilst, a_itpl, a_olst, a_cat, a_ttrue, dAdd_int, dSub_int, dLt_int, dLe_int, dGt_int, dGe_int, dEq_int, dNe_int, dEq_bool, dNe_bool, dIs_non, dIsNot_non, isN_none, isN_int, isN_tup, isN_lst, dLen_list, dLen_t2, mo_0, mo_1, beq_self_eq_true, dAbs_int, ix_t0, ix_t1, isi_tt, isi_ib, isi_ii, isi_bb, isi_ll, isi_ss, mod_2, div_2, mul_two, Option.bind_some, Option.map_some, Option.some.injEq, List.getElem?_cons_zero, List.getElem?_cons_succ, List.set_cons_zero, List.set_cons_succ, List.cons_append, List.nil_append, List.replicate_zero, List.replicate_succ, List.append_nil, Bool.not_true, Bool.not_false, decide_true, decide_false, if_true, if_false, a_late, a_nopl, a_setX, a_tryN, a_tryL, a_setT, a_clr, a_ibr, a_iow, h', dIx_ints h]
  · have h' : ¬ (k : Int) < ((ns.map PyData.int).length : Int) := by rw [List.length_map]; omega
    have e : cell ns k = 0 := by unfold cell; rw [List.getElem?_eq_none (by omega)]; rfl
    simp only [a_nil, a_seq, a_if, a_ret, a_set, a_setO, a_sfrz, a_frz, a_mut, a_for, a_bin, a_seqv, a_var, a_c, a_un, a_tup, a_evs0, a_evs1, a_call, a_gs, a_gw, a_gnil, a_tof, a_tand, a_tor, a_tnot, a_and, a_or, a_not, a_eif, a_neg, a_lstD, a_rg1, a_rg2, a_ilst, a_itpl, a_olst, a_cat, a_ttrue, dAdd_int, dSub_int, dLt_int, dLe_int, dGt_int, dGe_int, dEq_int, dNe_int, dEq_bool, dNe_bool, dIs_non, dIsNot_non, isN_none, isN_int, isN_tup, isN_lst, dLen_list, dLen_t2, mo_0, mo_1, beq_self_eq_true, dAbs_int, ix_t0, ix_t1, isi_tt, isi_ib, isi_ii, isi_bb, isi_ll, isi_ss, mod_2, div_2, mul_two, Option.bind_some, Option.map_some, Option.some.injEq, List.getElem?_cons_zero, List.getElem?_cons_succ, List.set_cons_zero, List.set_cons_succ, List.cons_append, List.nil_append, List.replicate_zero, List.replicate_succ, List.append_nil, Bool.not_true, Bool.not_false, decide_true, decide_false, if_true, if_false, a_late, a_nopl, a_setX, a_tryN, a_tryL, a_setT, a_clr, a_ibr, a_iow, h', e]
end L2.RC

namespace L2.RC
open PySem PySem.Spec PyProof.Rows
theorem plan_loop {n : Nat} (ns : List Int) (s : Nat) (w : Sl) : ∀ (m : Nat) (acc : List Rope), acc.length + m < 1000 → ∀ x y z, ∃ x' y' z',
    forL 4 (c_l_plan_1 n) (rngD (acc.length : Int) m) [.br (ns.map .int), .fz (.int (s : Int)), w, .ow (planD acc), x, y, z] =
      .nx [.br (ns.map .int), .fz (.int (s : Int)), w, .ow (planD (acc ++ drawnPlan ns s acc.length m)), x', y', z']
  | 0, acc, _, x, y, z => ⟨x, y, z, by rw [rngD_zero, a_for0]; unfold drawnPlan; rw [List.append_nil]⟩
  | m + 1, acc, hl, x, y, z => by
    have c1 : b_l_cell_at n [.br (ns.map .int), .fz (.int ((s : Int) + 2 * (acc.length : Int)))] = .rt (.int (cell ns (s + 2 * acc.length))) := by
      have := run_l_cell_at (n := n) ns (s + 2 * acc.length)
      rw [show ((s + 2 * acc.length : Nat) : Int) = (s : Int) + 2 * (acc.length : Int) by omega] at this
      exact this
    have c2 : b_l_cell_at n [.br (ns.map .int), .fz (.int ((s : Int) + 2 * (acc.length : Int) + 1))] = .rt (.int (cell ns (s + 2 * acc.length + 1))) := by
      have := run_l_cell_at (n := n) ns (s + 2 * acc.length + 1)
      rw [show ((s + 2 * acc.length + 1 : Nat) : Int) = (s : Int) + 2 * (acc.length : Int) + 1 by omega] at this
      exact this
    have hD : drawnPlan ns s acc.length (m + 1) = drawn (cell ns (s + 2 * acc.length)) (cell ns (s + 2 * acc.length + 1)) acc.length :: drawnPlan ns s (acc.length + 1) m := rfl
    generalize cell ns (s + 2 * acc.length) = u at c1 hD
    generalize cell ns (s + 2 * acc.length + 1) = v at c2 hD
    have h0 : 0 ≤ u % ((acc.length : Int) + 1) := Int.emod_nonneg _ (by omega)
    have h1 : u % ((acc.length : Int) + 1) < (acc.length : Int) + 1 := Int.emod_lt_of_pos _ (by omega)
    have md : dMod (.int u) (.int ((acc.length : Int) + 1)) = some (.int (u % ((acc.length : Int) + 1))) := mod_p (by omega)
    have m4 : dMod (.int v) (.int 4) = some (.int (v % 4)) := mod_p (by decide)
    have d4 : dDiv (.int v) (.int 4) = some (.int (v / 4)) := div_p (by decide) (by decide)
    have mq : dMod (.int (v / 4)) (.int ((acc.length : Int) - (u % ((acc.length : Int) + 1) - 1))) = some (.int (v / 4 % ((acc.length : Int) - (u % ((acc.length : Int) + 1) - 1)))) := mod_p (by omega)
    have ap : ∀ r : Rope, lAppend (planD acc) (ropeD r) = some (planD (acc ++ [r])) := fun r => by
      unfold lAppend
      rw [if_pos (by rw [planD_len]; omega)]
      unfold planD
      rw [List.map_append]
      rfl
    have e : ∃ y' z', c_l_plan_1 n [.br (ns.map .int), .fz (.int (s : Int)), w, .ow (planD acc), .fz (.int (acc.length : Int)), y, z] = .nx [.br (ns.map .int), .fz (.int (s : Int)), w, .ow (planD (acc ++ [drawn u v acc.length])), .fz (.int (acc.length : Int)), y', z'] := by
      refine ⟨.fz (.int (u % ((acc.length : Int) + 1) - 1)), .fz (.int v), ?_⟩
      unfold c_l_plan_1 drawn
      by_cases k3 : v % 4 = 3
      · have k3' : (v % 4 == 3) = true := beq_iff_eq.mpr k3
        have ap3 := ap (u % ((acc.length : Int) + 1) - 1, none)
        unfold ropeD oD at ap3
        simp only [a_nil, a_seq, a_if, a_ret, a_set, a_setO, a_sfrz, a_frz, a_mut, a_for, a_bin, a_seqv, a_var, a_c, a_un, a_tup, a_evs0, a_evs1, a_call, a_gs, a_gw, a_gnil, a_tof, a_tand, a_tor, a_tnot, a_and, a_or, a_not, a_eif, a_neg, a_lstD, a_rg1, a_rg2, a_ilst, a_itpl, a_olst, a_cat, a_ttrue, dAdd_int, dSub_int, dLt_int, dLe_int, dGt_int, dGe_int, dEq_int, dNe_int, dEq_bool, dNe_bool, dIs_non, dIsNot_non, isN_none, isN_int, isN_tup, isN_lst, dLen_list, dLen_t2, mo_0, mo_1, beq_self_eq_true, dAbs_int, ix_t0, ix_t1, isi_tt, isi_ib, isi_ii, isi_bb, isi_ll, isi_ss, mod_2, div_2, mul_two, Option.bind_some, Option.map_some, Option.some.injEq, List.getElem?_cons_zero, List.getElem?_cons_succ, List.set_cons_zero, List.set_cons_succ, List.cons_append, List.nil_append, List.replicate_zero, List.replicate_succ, List.append_nil, Bool.not_true, Bool.not_false, decide_true, decide_false, if_true, if_false, a_late, a_nopl, a_setX, a_tryN, a_tryL, a_setT, a_clr, a_ibr, a_iow, c1, c2, md, m4, k3', ap3]
        simp only [k3, if_true]
      · have k3' : (v % 4 == 3) = false := beq_eq_false_iff_ne.mpr k3
        by_cases k2 : v % 4 = 2
        · have k2' : (v % 4 == 2) = true := beq_iff_eq.mpr k2
          have ap2 := ap (u % ((acc.length : Int) + 1) - 1, some (u % ((acc.length : Int) + 1) - 1))
          unfold ropeD oD at ap2
          simp only [a_nil, a_seq, a_if, a_ret, a_set, a_setO, a_sfrz, a_frz, a_mut, a_for, a_bin, a_seqv, a_var, a_c, a_un, a_tup, a_evs0, a_evs1, a_call, a_gs, a_gw, a_gnil, a_tof, a_tand, a_tor, a_tnot, a_and, a_or, a_not, a_eif, a_neg, a_lstD, a_rg1, a_rg2, a_ilst, a_itpl, a_olst, a_cat, a_ttrue, dAdd_int, dSub_int, dLt_int, dLe_int, dGt_int, dGe_int, dEq_int, dNe_int, dEq_bool, dNe_bool, dIs_non, dIsNot_non, isN_none, isN_int, isN_tup, isN_lst, dLen_list, dLen_t2, mo_0, mo_1, beq_self_eq_true, dAbs_int, ix_t0, ix_t1, isi_tt, isi_ib, isi_ii, isi_bb, isi_ll, isi_ss, mod_2, div_2, mul_two, Option.bind_some, Option.map_some, Option.some.injEq, List.getElem?_cons_zero, List.getElem?_cons_succ, List.set_cons_zero, List.set_cons_succ, List.cons_append, List.nil_append, List.replicate_zero, List.replicate_succ, List.append_nil, Bool.not_true, Bool.not_false, decide_true, decide_false, if_true, if_false, a_late, a_nopl, a_setX, a_tryN, a_tryL, a_setT, a_clr, a_ibr, a_iow, c1, c2, md, m4, k3', k2', ap2]
          simp only [k2]
          rfl
        · have k2' : (v % 4 == 2) = false := beq_eq_false_iff_ne.mpr k2
          have ap1 := ap (u % ((acc.length : Int) + 1) - 1, some (u % ((acc.length : Int) + 1) - 1 + v / 4 % ((acc.length : Int) - (u % ((acc.length : Int) + 1) - 1))))
          unfold ropeD oD at ap1
          simp only [a_nil, a_seq, a_if, a_ret, a_set, a_setO, a_sfrz, a_frz, a_mut, a_for, a_bin, a_seqv, a_var, a_c, a_un, a_tup, a_evs0, a_evs1, a_call, a_gs, a_gw, a_gnil, a_tof, a_tand, a_tor, a_tnot, a_and, a_or, a_not, a_eif, a_neg, a_lstD, a_rg1, a_rg2, a_ilst, a_itpl, a_olst, a_cat, a_ttrue, dAdd_int, dSub_int, dLt_int, dLe_int, dGt_int, dGe_int, dEq_int, dNe_int, dEq_bool, dNe_bool, dIs_non, dIsNot_non, isN_none, isN_int, isN_tup, isN_lst, dLen_list, dLen_t2, mo_0, mo_1, beq_self_eq_true, dAbs_int, ix_t0, ix_t1, isi_tt, isi_ib, isi_ii, isi_bb, isi_ll, isi_ss, mod_2, div_2, mul_two, Option.bind_some, Option.map_some, Option.some.injEq, List.getElem?_cons_zero, List.getElem?_cons_succ, List.set_cons_zero, List.set_cons_succ, List.cons_append, List.nil_append, List.replicate_zero, List.replicate_succ, List.append_nil, Bool.not_true, Bool.not_false, decide_true, decide_false, if_true, if_false, a_late, a_nopl, a_setX, a_tryN, a_tryL, a_setT, a_clr, a_ibr, a_iow, c1, c2, md, m4, k3', k2', d4, mq, ap1]
          rw [if_neg k3, if_neg k2]
    obtain ⟨y1, z1, e⟩ := e
    obtain ⟨x', y', z', ih⟩ := plan_loop ns s w m (acc ++ [drawn u v acc.length]) (by rw [List.length_append, List.length_singleton]; omega) (.fz (.int acc.length)) y1 z1
    refine ⟨x', y', z', ?_⟩
    rw [rngD_succ, a_for1]
    show (match c_l_plan_1 n [.br (ns.map .int), .fz (.int (s : Int)), w, .ow (planD acc), .fz (.int (acc.length : Int)), y, z] with | .nx ρ' => _ | .ct ρ' => _ | .bk ρ' => _ | o => o) = _
    rw [e]
    show forL 4 (c_l_plan_1 n) (rngD ((acc.length : Int) + 1) m) _ = _
    rw [show ((acc.length : Int) + 1) = ((acc ++ [drawn u v acc.length]).length : Int) by rw [List.length_append, List.length_singleton]; omega, ih, hD, List.append_assoc]
    rw [List.length_append, List.length_singleton]
    rfl
theorem run_l_plan {n : Nat} (ns : List Int) (s m : Nat) (hm : m < 1000) : b_l_plan n [.br (ns.map .int), .fz (.int (s : Int)), .fz (.int (m : Int)), .un, .un, .un, .un] = .rt (.list (planD (drawnPlan ns s 0 m))) := by
  obtain ⟨x', y', z', h⟩ := plan_loop (n := n) ns s (.fz (.int (m : Int))) m [] (by simpa using hm) .un .un .un
  have hr : rngOk (m : Int) = true := rngOk_iff.mpr (by omega)
  have h' : forL 4 (c_l_plan_1 n) (rngD 0 m) [.br (ns.map .int), .fz (.int (s : Int)), .fz (.int (m : Int)), .ow [], .un, .un, .un] = .nx [.br (ns.map .int), .fz (.int (s : Int)), .fz (.int (m : Int)), .ow (planD (drawnPlan ns s 0 m)), x', y', z'] := h
  unfold b_l_plan
  simp only [a_nil, a_seq, a_if, a_ret, a_set, a_setO, a_sfrz, a_frz, a_mut, a_for, a_bin, a_seqv, a_var, a_c, a_un, a_tup, a_evs0, a_evs1, a_call, a_gs, a_gw, a_gnil, a_tof, a_tand, a_tor, a_tnot, a_and, a_or, a_not, a_eif, a_neg, a_lstD, a_rg1, a_rg2, a_ilst, a_itpl, a_olst, a_cat, a_ttrue, dAdd_int, dSub_int, dLt_int, dLe_int, dGt_int, dGe_int, dEq_int, dNe_int, dEq_bool, dNe_bool, dIs_non, dIsNot_non, isN_none, isN_int, isN_tup, isN_lst, dLen_list, dLen_t2, mo_0, mo_1, beq_self_eq_true, dAbs_int, ix_t0, ix_t1, isi_tt, isi_ib, isi_ii, isi_bb, isi_ll, isi_ss, mod_2, div_2, mul_two, Option.bind_some, Option.map_some, Option.some.injEq, List.getElem?_cons_zero, List.getElem?_cons_succ, List.set_cons_zero, List.set_cons_succ, List.cons_append, List.nil_append, List.replicate_zero, List.replicate_succ, List.append_nil, Bool.not_true, Bool.not_false, decide_true, decide_false, if_true, if_false, a_late, a_nopl, a_setX, a_tryN, a_tryL, a_setT, a_clr, a_ibr, a_iow, hr, Int.toNat_natCast, h']
end L2.RC

namespace L2.RC
open PySem PySem.Spec PyProof.Rows TL
theorem dEq_str {x y : Str} (hx : (PyData.str x).canLay0 = true) (hy : (PyData.str y).canLay0 = true) : dEq (.str x) (.str y) = some (.bool (x == y)) := by
  unfold dEq
  rw [(flat_str hx).sh, (flat_str hy).sh]
  rfl
theorem mkM_ok {a : Int} (h0 : -1 ≤ a) (h1 : a ≤ 12) : (PyData.str (mkM a)).canLay0 = true := str_ok fun c hc => by
  rw [List.mem_singleton.mp hc]
  exact (cdM_ok h0 h1).2.2.2
theorem o_mk : Str.ofString "o" = mkM (-1) := rfl
theorem num_loop {n : Nat} {m : Str} (hm : (PyData.str m).canLay0 = true) (s1 : Sl) : ∀ (c k : Nat), k + c ≤ 12 → ∀ x, 
    (match numFrom m k c with
      | some a => forL 2 (c_number_of_1 n) (rngD (k : Int) c) [.fz (.str m), s1, x] = .rt (.int a)
      | none => ∃ x', forL 2 (c_number_of_1 n) (rngD (k : Int) c) [.fz (.str m), s1, x] = .nx [.fz (.str m), s1, x'])
  | 0, k, _, x => ⟨x, rfl⟩
  | c + 1, k, h, x => by
    have ix := letters12 (a := (k : Int)) (by omega) (by omega)
    have e := dEq_str (mkM_ok (a := (k : Int)) (by omega) (by omega)) hm
    have ih := num_loop (n := n) hm s1 c (k + 1) (by omega) (.fz (.int k))
    unfold numFrom
    rw [rngD_succ, a_for1]
    by_cases q : mkM (k : Int) = m
    · rw [if_pos q]
      rw [beq_iff_eq.mpr q] at e
      have t : c_number_of_1 n [.fz (.str m), s1, .fz (.int (k : Int))] = .rt (.int k) := by
        unfold c_number_of_1
        simp only [a_nil, a_seq, a_if, a_ret, a_set, a_setO, a_sfrz, a_frz, a_mut, a_for, a_bin, a_seqv, a_var, a_c, a_un, a_tup, a_evs0, a_evs1, a_call, a_gs, a_gw, a_gnil, a_tof, a_tand, a_tor, a_tnot, a_and, a_or, a_not, a_eif, a_neg, a_lstD, a_rg1, a_rg2, a_ilst, a_itpl, a_olst, a_cat, a_ttrue, dAdd_int, dSub_int, dLt_int, dLe_int, dGt_int, dGe_int, dEq_int, dNe_int, dEq_bool, dNe_bool, dIs_non, dIsNot_non, isN_none, isN_int, isN_tup, isN_lst, dLen_list, dLen_t2, mo_0, mo_1, beq_self_eq_true, dAbs_int, ix_t0, ix_t1, isi_tt, isi_ib, isi_ii, isi_bb, isi_ll, isi_ss, mod_2, div_2, mul_two, Option.bind_some, Option.map_some, Option.some.injEq, List.getElem?_cons_zero, List.getElem?_cons_succ, List.set_cons_zero, List.set_cons_succ, List.cons_append, List.nil_append, List.replicate_zero, List.replicate_succ, List.append_nil, Bool.not_true, Bool.not_false, decide_true, decide_false, if_true, if_false, a_late, a_nopl, a_setX, a_tryN, a_tryL, a_setT, a_clr, a_ibr, a_iow, ix, e]
      show (match c_number_of_1 n [.fz (.str m), s1, .fz (.int (k : Int))] with | .nx ρ' => _ | .ct ρ' => _ | .bk ρ' => _ | o => o) = _
      rw [t]
    · rw [if_neg q]
      rw [beq_eq_false_iff_ne.mpr q] at e
      have t : c_number_of_1 n [.fz (.str m), s1, .fz (.int (k : Int))] = .nx [.fz (.str m), s1, .fz (.int (k : Int))] := by
        unfold c_number_of_1
        simp only [a_nil, a_seq, a_if, a_ret, a_set, a_setO, a_sfrz, a_frz, a_mut, a_for, a_bin, a_seqv, a_var, a_c, a_un, a_tup, a_evs0, a_evs1, a_call, a_gs, a_gw, a_gnil, a_tof, a_tand, a_tor, a_tnot, a_and, a_or, a_not, a_eif, a_neg, a_lstD, a_rg1, a_rg2, a_ilst, a_itpl, a_olst, a_cat, a_ttrue, dAdd_int, dSub_int, dLt_int, dLe_int, dGt_int, dGe_int, dEq_int, dNe_int, dEq_bool, dNe_bool, dIs_non, dIsNot_non, isN_none, isN_int, isN_tup, isN_lst, dLen_list, dLen_t2, mo_0, mo_1, beq_self_eq_true, dAbs_int, ix_t0, ix_t1, isi_tt, isi_ib, isi_ii, isi_bb, isi_ll, isi_ss, mod_2, div_2, mul_two, Option.bind_some, Option.map_some, Option.some.injEq, List.getElem?_cons_zero, List.getElem?_cons_succ, List.set_cons_zero, List.set_cons_succ, List.cons_append, List.nil_append, List.replicate_zero, List.replicate_succ, List.append_nil, Bool.not_true, Bool.not_false, decide_true, decide_false, if_true, if_false, a_late, a_nopl, a_setX, a_tryN, a_tryL, a_setT, a_clr, a_ibr, a_iow, ix, e]
      have t' : ∀ z, c_number_of_1 n ([.fz (.str m), s1, z].set 2 (.fz (.int (k : Int)))) = .nx [.fz (.str m), s1, .fz (.int (k : Int))] := fun _ => t
      simp only [t']
      exact ih
theorem run_number_of {n : Nat} {m : Str} (hm : (PyData.str m).canLay0 = true) {k : Nat} (hk : k ≤ 12) : b_number_of n [.fz (.str m), .fz (.int (k : Int)), .un] = (match numV m k with | some a => .rt (.int a) | none => .rs .noplan) := by
  have e := dEq_str hm (mkM_ok (a := -1) (by decide) (by decide))
  rw [← o_mk] at e
  have hr : rngOk (k : Int) = true := rngOk_iff.mpr (by omega)
  have lp := num_loop (n := n) hm (.fz (.int (k : Int))) k 0 (by omega) .un
  unfold b_number_of numV
  by_cases q : m = mkM (-1)
  · rw [if_pos q]
    rw [beq_iff_eq.mpr (show m = Str.ofString "o" from q)] at e
    simp only [a_nil, a_seq, a_if, a_ret, a_set, a_setO, a_sfrz, a_frz, a_mut, a_for, a_bin, a_seqv, a_var, a_c, a_un, a_tup, a_evs0, a_evs1, a_call, a_gs, a_gw, a_gnil, a_tof, a_tand, a_tor, a_tnot, a_and, a_or, a_not, a_eif, a_neg, a_lstD, a_rg1, a_rg2, a_ilst, a_itpl, a_olst, a_cat, a_ttrue, dAdd_int, dSub_int, dLt_int, dLe_int, dGt_int, dGe_int, dEq_int, dNe_int, dEq_bool, dNe_bool, dIs_non, dIsNot_non, isN_none, isN_int, isN_tup, isN_lst, dLen_list, dLen_t2, mo_0, mo_1, beq_self_eq_true, dAbs_int, ix_t0, ix_t1, isi_tt, isi_ib, isi_ii, isi_bb, isi_ll, isi_ss, mod_2, div_2, mul_two, Option.bind_some, Option.map_some, Option.some.injEq, List.getElem?_cons_zero, List.getElem?_cons_succ, List.set_cons_zero, List.set_cons_succ, List.cons_append, List.nil_append, List.replicate_zero, List.replicate_succ, List.append_nil, Bool.not_true, Bool.not_false, decide_true, decide_false, if_true, if_false, a_late, a_nopl, a_setX, a_tryN, a_tryL, a_setT, a_clr, a_ibr, a_iow, e]
  · rw [if_neg q]
    rw [beq_eq_false_iff_ne.mpr (show m ≠ Str.ofString "o" from q)] at e
    cases hf : numFrom m 0 k with
    | some a =>
      rw [hf] at lp
      have lp' : forL 2 (c_number_of_1 n) (rngD 0 k) [.fz (.str m), .fz (.int (k : Int)), .un] = .rt (.int a) := lp
      simp only [a_nil, a_seq, a_if, a_ret, a_set, a_setO, a_sfrz, a_frz, a_mut, a_for, a_bin, a_seqv, a_var, a_c, a_un, a_tup, a_evs0, a_evs1, a_call, a_gs, a_gw, a_gnil, a_tof, a_tand, a_tor, a_tnot, a_and, a_or, a_not, a_eif, a_neg, a_lstD, a_rg1, a_rg2, a_ilst, a_itpl, a_olst, a_cat, a_ttrue, dAdd_int, dSub_int, dLt_int, dLe_int, dGt_int, dGe_int, dEq_int, dNe_int, dEq_bool, dNe_bool, dIs_non, dIsNot_non, isN_none, isN_int, isN_tup, isN_lst, dLen_list, dLen_t2, mo_0, mo_1, beq_self_eq_true, dAbs_int, ix_t0, ix_t1, isi_tt, isi_ib, isi_ii, isi_bb, isi_ll, isi_ss, mod_2, div_2, mul_two, Option.bind_some, Option.map_some, Option.some.injEq, List.getElem?_cons_zero, List.getElem?_cons_succ, List.set_cons_zero, List.set_cons_succ, List.cons_append, List.nil_append, List.replicate_zero, List.replicate_succ, List.append_nil, Bool.not_true, Bool.not_false, decide_true, decide_false, if_true, if_false, a_late, a_nopl, a_setX, a_tryN, a_tryL, a_setT, a_clr, a_ibr, a_iow, e, hr, Int.toNat_natCast, lp']
    | none =>
      rw [hf] at lp
      obtain ⟨x', lp⟩ := lp
      have lp' : forL 2 (c_number_of_1 n) (rngD 0 k) [.fz (.str m), .fz (.int (k : Int)), .un] = .nx [.fz (.str m), .fz (.int (k : Int)), x'] := lp
      simp only [a_nil, a_seq, a_if, a_ret, a_set, a_setO, a_sfrz, a_frz, a_mut, a_for, a_bin, a_seqv, a_var, a_c, a_un, a_tup, a_evs0, a_evs1, a_call, a_gs, a_gw, a_gnil, a_tof, a_tand, a_tor, a_tnot, a_and, a_or, a_not, a_eif, a_neg, a_lstD, a_rg1, a_rg2, a_ilst, a_itpl, a_olst, a_cat, a_ttrue, dAdd_int, dSub_int, dLt_int, dLe_int, dGt_int, dGe_int, dEq_int, dNe_int, dEq_bool, dNe_bool, dIs_non, dIsNot_non, isN_none, isN_int, isN_tup, isN_lst, dLen_list, dLen_t2, mo_0, mo_1, beq_self_eq_true, dAbs_int, ix_t0, ix_t1, isi_tt, isi_ib, isi_ii, isi_bb, isi_ll, isi_ss, mod_2, div_2, mul_two, Option.bind_some, Option.map_some, Option.some.injEq, List.getElem?_cons_zero, List.getElem?_cons_succ, List.set_cons_zero, List.set_cons_succ, List.cons_append, List.nil_append, List.replicate_zero, List.replicate_succ, List.append_nil, Bool.not_true, Bool.not_false, decide_true, decide_false, if_true, if_false, a_late, a_nopl, a_setX, a_tryN, a_tryL, a_setT, a_clr, a_ibr, a_iow, e, hr, Int.toNat_natCast, lp']
/-- a word that is small and whose signs may stand in a text -/
def WordOk (w : Str) : Prop := w.length ≤ 1000000 ∧ ∀ m ∈ Txt.split w plusS, (PyData.str m).canLay0 = true
theorem read_turn {n : Nat} {w : Str} (hw : WordOk w) (p : List Rope) (hp : p.length ≤ 12) (s0 x y z : Sl) :
    (match (if 12 ≤ p.length then none else ropeV (Txt.split w plusS) p.length) with
      | some r => ∃ x' y' z', c_read_1 n [s0, .ow (planD p), .fz (.str w), x, y, z] = .nx [s0, .ow (planD (p ++ [r])), .fz (.str w), x', y', z']
      | none => c_read_1 n [s0, .ow (planD p), .fz (.str w), x, y, z] = .rs .noplan) := by
  obtain ⟨hl, hok⟩ := hw
  by_cases h12 : 12 ≤ p.length
  · rw [if_pos h12]
    have e : ((p.length : Int) == 12) = true := beq_iff_eq.mpr (by omega)
    unfold c_read_1
    simp only [a_nil, a_seq, a_if, a_ret, a_set, a_setO, a_sfrz, a_frz, a_mut, a_for, a_bin, a_seqv, a_var, a_c, a_un, a_tup, a_evs0, a_evs1, a_call, a_gs, a_gw, a_gnil, a_tof, a_tand, a_tor, a_tnot, a_and, a_or, a_not, a_eif, a_neg, a_lstD, a_rg1, a_rg2, a_ilst, a_itpl, a_olst, a_cat, a_ttrue, dAdd_int, dSub_int, dLt_int, dLe_int, dGt_int, dGe_int, dEq_int, dNe_int, dEq_bool, dNe_bool, dIs_non, dIsNot_non, isN_none, isN_int, isN_tup, isN_lst, dLen_list, dLen_t2, mo_0, mo_1, beq_self_eq_true, dAbs_int, ix_t0, ix_t1, isi_tt, isi_ib, isi_ii, isi_bb, isi_ll, isi_ss, mod_2, div_2, mul_two, Option.bind_some, Option.map_some, Option.some.injEq, List.getElem?_cons_zero, List.getElem?_cons_succ, List.set_cons_zero, List.set_cons_succ, List.cons_append, List.nil_append, List.replicate_zero, List.replicate_succ, List.append_nil, Bool.not_true, Bool.not_false, decide_true, decide_false, if_true, if_false, a_late, a_nopl, a_setX, a_tryN, a_tryL, a_setT, a_clr, a_ibr, a_iow, planD_len, e]
  · rw [if_neg h12]
    have e : ((p.length : Int) == 12) = false := beq_eq_false_iff_ne.mpr (by omega)
    have sp : oSplit (eVar 2) (eC (.str (Str.ofString "+"))) [s0, .ow (planD p), .fz (.str w), x, y, z] = some ((Txt.split w plusS).map PyData.str) := by
      rw [a_split]
      show (if ((plusS.length == 0) = false ∧ w.length ≤ 1000000) then some ((Txt.split w plusS).map PyData.str) else none) = _
      rw [if_pos ⟨rfl, hl⟩]
    have ap : ∀ r : Rope, lAppend (planD p) (ropeD r) = some (planD (p ++ [r])) := fun r => by
      unfold lAppend
      rw [if_pos (by rw [planD_len]; omega)]
      unfold planD
      rw [List.map_append]
      rfl
    have ne : (Txt.split w plusS) ≠ [] := fun z => by
      have h1 := congrArg List.length (split_spl w plusS (by decide) (kind_ok (by decide +kernel)))
      rw [z] at h1
      have h2 : ∀ (l : List Nat) (k : Nat) (acc : List Nat), (spl [43] k acc l).length ≠ 0 := by
        intro l
        induction l with
        | nil => intro k acc; unfold spl; simp
        | cons c l ih =>
          intro k acc
          cases k with
          | zero =>
            unfold spl
            split
            · simp
            · exact ih _ _
          | succ k => unfold spl; exact ih _ _
      exact h2 _ _ _ h1.symm
    generalize Txt.split w plusS = ms at sp hok ne
    cases ms with
    | nil => exact absurd rfl ne
    | cons a ms =>
      have ra := run_number_of (n := n) (hok a List.mem_cons_self) (show p.length ≤ 12 from hp)
      have ix0 : dIx (.list ((a :: ms).map .str)) (.int 0) = some (.str a) := atI_nat' (k := 0) rfl
      cases ms with
      | nil =>
        have l1 : decide ((1 : Int) < (([a].map PyData.str).length : Int)) = false := rfl
        show (match ((numV a p.length).map fun x => ((x, none) : Rope)) with | some r => _ | none => _)
        cases hn : numV a p.length with
        | none =>
          rw [hn] at ra
          show c_read_1 n _ = _
          unfold c_read_1
          simp only [a_seq, a_if, a_tof, a_bin, a_un, a_seqv, a_c, List.getElem?_cons_zero, List.getElem?_cons_succ, Option.bind_some, dLen_list, planD_len, dEq_int, e, a_nil, a_set, a_lstD, sp, Option.map_some, List.set_cons_zero, List.set_cons_succ]
          simp only [a_nil, a_seq, a_if, a_ret, a_set, a_setO, a_sfrz, a_frz, a_mut, a_for, a_bin, a_seqv, a_var, a_c, a_un, a_tup, a_evs0, a_evs1, a_call, a_gs, a_gw, a_gnil, a_tof, a_tand, a_tor, a_tnot, a_and, a_or, a_not, a_eif, a_neg, a_lstD, a_rg1, a_rg2, a_ilst, a_itpl, a_olst, a_cat, a_ttrue, dAdd_int, dSub_int, dLt_int, dLe_int, dGt_int, dGe_int, dEq_int, dNe_int, dEq_bool, dNe_bool, dIs_non, dIsNot_non, isN_none, isN_int, isN_tup, isN_lst, dLen_list, dLen_t2, mo_0, mo_1, beq_self_eq_true, dAbs_int, ix_t0, ix_t1, isi_tt, isi_ib, isi_ii, isi_bb, isi_ll, isi_ss, mod_2, div_2, mul_two, Option.bind_some, Option.map_some, Option.some.injEq, List.getElem?_cons_zero, List.getElem?_cons_succ, List.set_cons_zero, List.set_cons_succ, List.cons_append, List.nil_append, List.replicate_zero, List.replicate_succ, List.append_nil, Bool.not_true, Bool.not_false, decide_true, decide_false, if_true, if_false, a_late, a_nopl, a_setX, a_tryN, a_tryL, a_setT, a_clr, a_ibr, a_iow, planD_len, ix0, ra]
        | some b =>
          rw [hn] at ra
          have ap' := ap (b, none)
          unfold ropeD oD at ap'
          refine ⟨.fz (.list ([a].map .str)), .fz (.int b), .fz .none, ?_⟩
          unfold c_read_1
          simp only [a_seq, a_if, a_tof, a_bin, a_un, a_seqv, a_c, List.getElem?_cons_zero, List.getElem?_cons_succ, Option.bind_some, dLen_list, planD_len, dEq_int, e, a_nil, a_set, a_lstD, sp, Option.map_some, List.set_cons_zero, List.set_cons_succ]
          simp only [a_nil, a_seq, a_if, a_ret, a_set, a_setO, a_sfrz, a_frz, a_mut, a_for, a_bin, a_seqv, a_var, a_c, a_un, a_tup, a_evs0, a_evs1, a_call, a_gs, a_gw, a_gnil, a_tof, a_tand, a_tor, a_tnot, a_and, a_or, a_not, a_eif, a_neg, a_lstD, a_rg1, a_rg2, a_ilst, a_itpl, a_olst, a_cat, a_ttrue, dAdd_int, dSub_int, dLt_int, dLe_int, dGt_int, dGe_int, dEq_int, dNe_int, dEq_bool, dNe_bool, dIs_non, dIsNot_non, isN_none, isN_int, isN_tup, isN_lst, dLen_list, dLen_t2, mo_0, mo_1, beq_self_eq_true, dAbs_int, ix_t0, ix_t1, isi_tt, isi_ib, isi_ii, isi_bb, isi_ll, isi_ss, mod_2, div_2, mul_two, Option.bind_some, Option.map_some, Option.some.injEq, List.getElem?_cons_zero, List.getElem?_cons_succ, List.set_cons_zero, List.set_cons_succ, List.cons_append, List.nil_append, List.replicate_zero, List.replicate_succ, List.append_nil, Bool.not_true, Bool.not_false, decide_true, decide_false, if_true, if_false, a_late, a_nopl, a_setX, a_tryN, a_tryL, a_setT, a_clr, a_ibr, a_iow, planD_len, ix0, ra, l1, ap']
      | cons b ms =>
        have rb := run_number_of (n := n) (hok b (List.mem_cons_of_mem _ List.mem_cons_self)) (show p.length ≤ 12 from hp)
        have ix1 : dIx (.list ((a :: b :: ms).map .str)) (.int 1) = some (.str b) := atI_nat' (k := 1) rfl
        have l1 : decide ((1 : Int) < (((a :: b :: ms).map PyData.str).length : Int)) = true := decide_eq_true (by rw [List.length_map, List.length_cons, List.length_cons]; omega)
        have hv : ropeV (a :: b :: ms) p.length = (match numV a p.length, numV b p.length with | some x, some y => if 2 < (a :: b :: ms).length ∨ y < x then none else some (x, some y) | _, _ => none) := by
          cases ms with
          | nil =>
            show (match numV a p.length, numV b p.length with | some x, some y => if y < x then none else some (x, some y) | _, _ => none) = _
            cases numV a p.length <;> cases numV b p.length <;> try rfl
            rename_i u v
            show (if v < u then none else some (u, some v)) = (if 2 < [a, b].length ∨ v < u then none else some (u, some v))
            by_cases c : v < u
            · rw [if_pos c, if_pos (.inr c)]
            · rw [if_neg c, if_neg (fun z => c (z.resolve_left (by simp)))]
          | cons d ms =>
            show (none : Option Rope) = _
            cases numV a p.length <;> cases numV b p.length <;> rfl
        rw [hv]
        have pre : c_read_1 n [s0, .ow (planD p), .fz (.str w), x, y, z] = (sSeq (sSetX 4 (b_number_of n) 1 (gS (eBin dIx (eSeq 3) (eC (.int 0))) (gS (eUn dLen (eSeq 1)) gNil)))
    (sSeq (sSet 5 (eC .none))
    (sSeq (sIf (tOf (eBin dGt (eUn dLen (eSeq 3)) (eC (.int 1)))) (sSeq (sSetX 5 (b_number_of n) 1 (gS (eBin dIx (eSeq 3) (eC (.int 1))) (gS (eUn dLen (eSeq 1)) gNil)))
    (sIf (tOr2 (tOf (eBin dGt (eUn dLen (eSeq 3)) (eC (.int 2)))) (tOf (eBin dLt (eSeq 5) (eSeq 4)))) sNoPlan sNil)) sNil)
    (sMut 1 (eTup (evs [(eVar 4), (eVar 5)])) lAppend)))) [s0, .ow (planD p), .fz (.str w), .fz (.list ((a :: b :: ms).map .str)), y, z] := by
          unfold c_read_1
          simp only [a_seq, a_if, a_tof, a_bin, a_un, a_seqv, a_c, List.getElem?_cons_zero, List.getElem?_cons_succ, Option.bind_some, dLen_list, planD_len, dEq_int, e, a_nil, a_set, a_lstD, sp, Option.map_some, List.set_cons_zero, List.set_cons_succ]
        rw [pre]
        cases hn : numV a p.length with
        | none =>
          rw [hn] at ra
          show sSeq _ _ _ = _
          simp only [a_nil, a_seq, a_if, a_ret, a_set, a_setO, a_sfrz, a_frz, a_mut, a_for, a_bin, a_seqv, a_var, a_c, a_un, a_tup, a_evs0, a_evs1, a_call, a_gs, a_gw, a_gnil, a_tof, a_tand, a_tor, a_tnot, a_and, a_or, a_not, a_eif, a_neg, a_lstD, a_rg1, a_rg2, a_ilst, a_itpl, a_olst, a_cat, a_ttrue, dAdd_int, dSub_int, dLt_int, dLe_int, dGt_int, dGe_int, dEq_int, dNe_int, dEq_bool, dNe_bool, dIs_non, dIsNot_non, isN_none, isN_int, isN_tup, isN_lst, dLen_list, dLen_t2, mo_0, mo_1, beq_self_eq_true, dAbs_int, ix_t0, ix_t1, isi_tt, isi_ib, isi_ii, isi_bb, isi_ll, isi_ss, mod_2, div_2, mul_two, Option.bind_some, Option.map_some, Option.some.injEq, List.getElem?_cons_zero, List.getElem?_cons_succ, List.set_cons_zero, List.set_cons_succ, List.cons_append, List.nil_append, List.replicate_zero, List.replicate_succ, List.append_nil, Bool.not_true, Bool.not_false, decide_true, decide_false, if_true, if_false, a_late, a_nopl, a_setX, a_tryN, a_tryL, a_setT, a_clr, a_ibr, a_iow, planD_len, ix0, ra]
        | some u =>
          rw [hn] at ra
          cases hm : numV b p.length with
          | none =>
            rw [hm] at rb
            show sSeq _ _ _ = _
            simp only [a_nil, a_seq, a_if, a_ret, a_set, a_setO, a_sfrz, a_frz, a_mut, a_for, a_bin, a_seqv, a_var, a_c, a_un, a_tup, a_evs0, a_evs1, a_call, a_gs, a_gw, a_gnil, a_tof, a_tand, a_tor, a_tnot, a_and, a_or, a_not, a_eif, a_neg, a_lstD, a_rg1, a_rg2, a_ilst, a_itpl, a_olst, a_cat, a_ttrue, dAdd_int, dSub_int, dLt_int, dLe_int, dGt_int, dGe_int, dEq_int, dNe_int, dEq_bool, dNe_bool, dIs_non, dIsNot_non, isN_none, isN_int, isN_tup, isN_lst, dLen_list, dLen_t2, mo_0, mo_1, beq_self_eq_true, dAbs_int, ix_t0, ix_t1, isi_tt, isi_ib, isi_ii, isi_bb, isi_ll, isi_ss, mod_2, div_2, mul_two, Option.bind_some, Option.map_some, Option.some.injEq, List.getElem?_cons_zero, List.getElem?_cons_succ, List.set_cons_zero, List.set_cons_succ, List.cons_append, List.nil_append, List.replicate_zero, List.replicate_succ, List.append_nil, Bool.not_true, Bool.not_false, decide_true, decide_false, if_true, if_false, a_late, a_nopl, a_setX, a_tryN, a_tryL, a_setT, a_clr, a_ibr, a_iow, planD_len, ix0, ra, ix1, rb, l1]
          | some v =>
            rw [hm] at rb
            show (match (if 2 < (a :: b :: ms).length ∨ v < u then none else some ((u, some v) : Rope)) with | some r => _ | none => _)
            by_cases c1 : 2 < (a :: b :: ms).length
            · rw [if_pos (.inl c1)]
              have l2 : decide ((2 : Int) < (((a :: b :: ms).map PyData.str).length : Int)) = true := decide_eq_true (by rw [List.length_map]; omega)
              show sSeq _ _ _ = _
              simp only [a_nil, a_seq, a_if, a_ret, a_set, a_setO, a_sfrz, a_frz, a_mut, a_for, a_bin, a_seqv, a_var, a_c, a_un, a_tup, a_evs0, a_evs1, a_call, a_gs, a_gw, a_gnil, a_tof, a_tand, a_tor, a_tnot, a_and, a_or, a_not, a_eif, a_neg, a_lstD, a_rg1, a_rg2, a_ilst, a_itpl, a_olst, a_cat, a_ttrue, dAdd_int, dSub_int, dLt_int, dLe_int, dGt_int, dGe_int, dEq_int, dNe_int, dEq_bool, dNe_bool, dIs_non, dIsNot_non, isN_none, isN_int, isN_tup, isN_lst, dLen_list, dLen_t2, mo_0, mo_1, beq_self_eq_true, dAbs_int, ix_t0, ix_t1, isi_tt, isi_ib, isi_ii, isi_bb, isi_ll, isi_ss, mod_2, div_2, mul_two, Option.bind_some, Option.map_some, Option.some.injEq, List.getElem?_cons_zero, List.getElem?_cons_succ, List.set_cons_zero, List.set_cons_succ, List.cons_append, List.nil_append, List.replicate_zero, List.replicate_succ, List.append_nil, Bool.not_true, Bool.not_false, decide_true, decide_false, if_true, if_false, a_late, a_nopl, a_setX, a_tryN, a_tryL, a_setT, a_clr, a_ibr, a_iow, planD_len, ix0, ra, ix1, rb, l1, l2]
            · have l2 : decide ((2 : Int) < (((a :: b :: ms).map PyData.str).length : Int)) = false := decide_eq_false (by rw [List.length_map]; omega)
              by_cases c2 : v < u
              · rw [if_pos (.inr c2)]
                have l3 : decide (v < u) = true := decide_eq_true c2
                show sSeq _ _ _ = _
                simp only [a_nil, a_seq, a_if, a_ret, a_set, a_setO, a_sfrz, a_frz, a_mut, a_for, a_bin, a_seqv, a_var, a_c, a_un, a_tup, a_evs0, a_evs1, a_call, a_gs, a_gw, a_gnil, a_tof, a_tand, a_tor, a_tnot, a_and, a_or, a_not, a_eif, a_neg, a_lstD, a_rg1, a_rg2, a_ilst, a_itpl, a_olst, a_cat, a_ttrue, dAdd_int, dSub_int, dLt_int, dLe_int, dGt_int, dGe_int, dEq_int, dNe_int, dEq_bool, dNe_bool, dIs_non, dIsNot_non, isN_none, isN_int, isN_tup, isN_lst, dLen_list, dLen_t2, mo_0, mo_1, beq_self_eq_true, dAbs_int, ix_t0, ix_t1, isi_tt, isi_ib, isi_ii, isi_bb, isi_ll, isi_ss, mod_2, div_2, mul_two, Option.bind_some, Option.map_some, Option.some.injEq, List.getElem?_cons_zero, List.getElem?_cons_succ, List.set_cons_zero, List.set_cons_succ, List.cons_append, List.nil_append, List.replicate_zero, List.replicate_succ, List.append_nil, Bool.not_true, Bool.not_false, decide_true, decide_false, if_true, if_false, a_late, a_nopl, a_setX, a_tryN, a_tryL, a_setT, a_clr, a_ibr, a_iow, planD_len, ix0, ra, ix1, rb, l1, l2, l3]
              · rw [if_neg (fun z => z.elim c1 c2)]
                have l3 : decide (v < u) = false := decide_eq_false c2
                have ap' := ap (u, some v)
                unfold ropeD oD at ap'
                refine ⟨.fz (.list ((a :: b :: ms).map .str)), .fz (.int u), .fz (.int v), ?_⟩
                simp only [a_nil, a_seq, a_if, a_ret, a_set, a_setO, a_sfrz, a_frz, a_mut, a_for, a_bin, a_seqv, a_var, a_c, a_un, a_tup, a_evs0, a_evs1, a_call, a_gs, a_gw, a_gnil, a_tof, a_tand, a_tor, a_tnot, a_and, a_or, a_not, a_eif, a_neg, a_lstD, a_rg1, a_rg2, a_ilst, a_itpl, a_olst, a_cat, a_ttrue, dAdd_int, dSub_int, dLt_int, dLe_int, dGt_int, dGe_int, dEq_int, dNe_int, dEq_bool, dNe_bool, dIs_non, dIsNot_non, isN_none, isN_int, isN_tup, isN_lst, dLen_list, dLen_t2, mo_0, mo_1, beq_self_eq_true, dAbs_int, ix_t0, ix_t1, isi_tt, isi_ib, isi_ii, isi_bb, isi_ll, isi_ss, mod_2, div_2, mul_two, Option.bind_some, Option.map_some, Option.some.injEq, List.getElem?_cons_zero, List.getElem?_cons_succ, List.set_cons_zero, List.set_cons_succ, List.cons_append, List.nil_append, List.replicate_zero, List.replicate_succ, List.append_nil, Bool.not_true, Bool.not_false, decide_true, decide_false, if_true, if_false, a_late, a_nopl, a_setX, a_tryN, a_tryL, a_setT, a_clr, a_ibr, a_iow, planD_len, ix0, ra, ix1, rb, l1, l2, l3, ap']
theorem read_loop {n : Nat} (s0 : Sl) : ∀ (ws : List Str) (p : List Rope), (∀ w ∈ ws, WordOk w) → p.length ≤ 12 → ∀ u x y z,
    (match readV ws p.length with
      | some q => ∃ u' x' y' z', forL 2 (c_read_1 n) (ws.map .str) [s0, .ow (planD p), u, x, y, z] = .nx [s0, .ow (planD (p ++ q)), u', x', y', z']
      | none => forL 2 (c_read_1 n) (ws.map .str) [s0, .ow (planD p), u, x, y, z] = .rs .noplan)
  | [], p, _, _, u, x, y, z => ⟨u, x, y, z, by rw [List.append_nil]; rfl⟩
  | w :: ws, p, hw, hp, u, x, y, z => by
    have t := read_turn (n := n) (hw w List.mem_cons_self) p hp s0 x y z
    show (match (if 12 ≤ p.length then none else match ropeV (Txt.split w plusS) p.length with | some r => (readV ws (p.length + 1)).map (r :: ·) | none => none) with | some q => _ | none => _)
    have st : forL 2 (c_read_1 n) ((w :: ws).map .str) [s0, .ow (planD p), u, x, y, z] = (match c_read_1 n [s0, .ow (planD p), .fz (.str w), x, y, z] with
      | .nx ρ' => forL 2 (c_read_1 n) (ws.map .str) ρ'
      | .ct ρ' => forL 2 (c_read_1 n) (ws.map .str) ρ'
      | .bk ρ' => .nx ρ'
      | o => o) := rfl
    rw [st]
    by_cases h12 : 12 ≤ p.length
    · rw [if_pos h12] at t ⊢
      dsimp only at t ⊢
      rw [t]
    · rw [if_neg h12] at t ⊢
      cases hr : ropeV (Txt.split w plusS) p.length with
      | none =>
        rw [hr] at t
        dsimp only at t ⊢
        rw [t]
      | some r =>
        rw [hr] at t
        dsimp only at t ⊢
        obtain ⟨x1, y1, z1, t⟩ := t
        have ih := read_loop (n := n) s0 ws (p ++ [r]) (fun w h => hw w (List.mem_cons_of_mem _ h)) (by rw [List.length_append, List.length_singleton]; omega) (.fz (.str w)) x1 y1 z1
        rw [List.length_append, List.length_singleton] at ih
        rw [t]
        cases hq : readV ws (p.length + 1) with
        | none => rw [hq] at ih; exact ih
        | some q =>
          rw [hq] at ih
          obtain ⟨u', x', y', z', ih⟩ := ih
          rw [List.append_assoc] at ih
          exact ⟨u', x', y', z', ih⟩
theorem run_read {n : Nat} {t : Str} (ht : t.length ≤ 1000000) (hw : ∀ w ∈ Txt.split t commaS, WordOk w) : b_read n [.fz (.str t), .un, .un, .un, .un, .un] =
    (match readV (Txt.split t commaS) 0 with | some p => .rt (.list (planD p)) | none => .rs .noplan) := by
  have lp := read_loop (n := n) (.fz (.str t)) (Txt.split t commaS) [] hw (by decide) .un .un .un .un
  have sp : oSplit (eVar 0) (eC (.str (Str.ofString ", "))) [.fz (.str t), .ow [], .un, .un, .un, .un] = some ((Txt.split t commaS).map PyData.str) := by
    rw [a_split]
    show (if ((commaS.length == 0) = false ∧ t.length ≤ 1000000) then some ((Txt.split t commaS).map PyData.str) else none) = _
    rw [if_pos ⟨rfl, ht⟩]
  unfold b_read
  rw [show ([] : List Rope).length = 0 from rfl] at lp
  cases hr : readV (Txt.split t commaS) 0 with
  | none =>
    rw [hr] at lp
    have lp' : forL 2 (c_read_1 n) ((Txt.split t commaS).map .str) [.fz (.str t), .ow [], .un, .un, .un, .un] = .rs .noplan := lp
    simp only [a_seq, a_setO, a_evs0, a_for, a_ilst, a_lstD, List.set_cons_zero, List.set_cons_succ, sp, Option.map_some, lp']
  | some p =>
    rw [hr] at lp
    obtain ⟨u', x', y', z', lp⟩ := lp
    have lp' : forL 2 (c_read_1 n) ((Txt.split t commaS).map .str) [.fz (.str t), .ow [], .un, .un, .un, .un] = .nx [.fz (.str t), .ow (planD p), u', x', y', z'] := lp
    simp only [a_seq, a_setO, a_evs0, a_for, a_ilst, a_lstD, List.set_cons_zero, List.set_cons_succ, sp, Option.map_some, lp']
    simp only [a_nil, a_seq, a_if, a_ret, a_set, a_setO, a_sfrz, a_frz, a_mut, a_for, a_bin, a_seqv, a_var, a_c, a_un, a_tup, a_evs0, a_evs1, a_call, a_gs, a_gw, a_gnil, a_tof, a_tand, a_tor, a_tnot, a_and, a_or, a_not, a_eif, a_neg, a_lstD, a_rg1, a_rg2, a_ilst, a_itpl, a_olst, a_cat, a_ttrue, dAdd_int, dSub_int, dLt_int, dLe_int, dGt_int, dGe_int, dEq_int, dNe_int, dEq_bool, dNe_bool, dIs_non, dIsNot_non, isN_none, isN_int, isN_tup, isN_lst, dLen_list, dLen_t2, mo_0, mo_1, beq_self_eq_true, dAbs_int, ix_t0, ix_t1, isi_tt, isi_ib, isi_ii, isi_bb, isi_ll, isi_ss, mod_2, div_2, mul_two, Option.bind_some, Option.map_some, Option.some.injEq, List.getElem?_cons_zero, List.getElem?_cons_succ, List.set_cons_zero, List.set_cons_succ, List.cons_append, List.nil_append, List.replicate_zero, List.replicate_succ, List.append_nil, Bool.not_true, Bool.not_false, decide_true, decide_false, if_true, if_false, a_late, a_nopl, a_setX, a_tryN, a_tryL, a_setT, a_clr, a_ibr, a_iow]
end L2.RC

namespace L2.RC
open PySem PySem.Spec PyProof.Rows TL
theorem rp0 (r : Rope) : dIx (ropeD r) (.int 0) = some (.int r.1) := rfl
theorem rp1 (r : Rope) : dIx (ropeD r) (.int 1) = some (oD r.2) := rfl
theorem lAppend_str {l : List Str} {x : Str} (h : l.length < 1000000) : lAppend (l.map .str) (.str x) = some ((l ++ [x]).map .str) := by
  unfold lAppend
  rw [if_pos (by rw [List.length_map]; exact h), List.map_append]
  rfl
theorem add_str {x y : Str} (h : x.length + y.length ≤ 1000000) : dAdd (.str x) (.str y) = some (.str (x ++ y)) := by
  show (if x.length + y.length ≤ sizeLine then some (PyData.str (x ++ y)) else none) = _
  rw [if_pos (small1m h)]
theorem run_l_mark {n : Nat} {a : Int} (h0 : -1 ≤ a) (h1 : a ≤ 11) : b_l_mark n [.fz (.int a)] = .rt (.str (mkM a)) := by
  have ix := letters13 h0 h1
  unfold b_l_mark
  simp only [a_nil, a_seq, a_if, a_ret, a_set, a_setO, a_sfrz, a_frz, a_mut, a_for, a_bin, a_seqv, a_var, a_c, a_un, a_tup, a_evs0, a_evs1, a_call, a_gs, a_gw, a_gnil, a_tof, a_tand, a_tor, a_tnot, a_and, a_or, a_not, a_eif, a_neg, a_lstD, a_rg1, a_rg2, a_ilst, a_itpl, a_olst, a_cat, a_ttrue, dAdd_int, dSub_int, dLt_int, dLe_int, dGt_int, dGe_int, dEq_int, dNe_int, dEq_bool, dNe_bool, dIs_non, dIsNot_non, isN_none, isN_int, isN_tup, isN_lst, dLen_list, dLen_t2, mo_0, mo_1, beq_self_eq_true, dAbs_int, ix_t0, ix_t1, isi_tt, isi_ib, isi_ii, isi_bb, isi_ll, isi_ss, mod_2, div_2, mul_two, Option.bind_some, Option.map_some, Option.some.injEq, List.getElem?_cons_zero, List.getElem?_cons_succ, List.set_cons_zero, List.set_cons_succ, List.cons_append, List.nil_append, List.replicate_zero, List.replicate_succ, List.append_nil, Bool.not_true, Bool.not_false, decide_true, decide_false, if_true, if_false, a_late, a_nopl, a_setX, a_tryN, a_tryL, a_setT, a_clr, a_ibr, a_iow, ix]
def nums11 (r : Rope) : Prop := (-1 ≤ r.1 ∧ r.1 ≤ 11) ∧ ∀ b, r.2 = some b → -1 ≤ b ∧ b ≤ 11
theorem ok_nums11 {p : List Rope} (hp : PlanOk p) (hl : p.length ≤ 12) : ∀ r ∈ p, nums11 r := by
  intro r hr
  obtain ⟨i, hi⟩ := List.mem_iff_getElem?.mp hr
  have hil : i < p.length := (List.getElem?_eq_some_iff.mp hi).1
  obtain ⟨h1, h2⟩ := hp i r hi
  refine ⟨?_, fun b hb => ?_⟩
  · rcases h1 with h | h <;> omega
  · rcases (h2 b hb).1 with h | h <;> omega
theorem plus_eq : Str.ofString "+" = plusS := rfl
theorem two_len (a : Int) : (mkM a ++ plusS).length = 2 := by rw [len_tl, tl_append]; rfl
theorem l_shown_loop {n : Nat} (P : Sl) : ∀ (rs : List Rope) (ws : List Str), (∀ r ∈ rs, nums11 r) → ws.length + rs.length < 1000 → ∀ x, ∃ x',
    forL 2 (c_l_shown_1 n) (planD rs) [P, .ow (ws.map .str), x] = .nx [P, .ow ((ws ++ rs.map wordS).map .str), x']
  | [], ws, _, _, x => ⟨x, by rw [List.map_nil, List.append_nil]; rfl⟩
  | (a, o) :: rs, ws, h, hl, x => by
    rw [List.length_cons] at hl
    obtain ⟨h1, h2⟩ := h _ List.mem_cons_self
    have ma := run_l_mark (n := n) h1.1 h1.2
    obtain ⟨x', ih⟩ := l_shown_loop P rs (ws ++ [wordS (a, o)]) (fun r h' => h r (List.mem_cons_of_mem _ h')) (by rw [List.length_append, List.length_singleton]; omega) (.fz (ropeD (a, o)))
    refine ⟨x', ?_⟩
    have ap := lAppend_str (l := ws) (x := wordS (a, o)) (by omega)
    have t : c_l_shown_1 n [P, .ow (ws.map .str), .fz (ropeD (a, o))] = .nx [P, .ow ((ws ++ [wordS (a, o)]).map .str), .fz (ropeD (a, o))] := by
      unfold c_l_shown_1
      cases o with
      | none =>
        simp only [a_nil, a_seq, a_if, a_ret, a_set, a_setO, a_sfrz, a_frz, a_mut, a_for, a_bin, a_seqv, a_var, a_c, a_un, a_tup, a_evs0, a_evs1, a_call, a_gs, a_gw, a_gnil, a_tof, a_tand, a_tor, a_tnot, a_and, a_or, a_not, a_eif, a_neg, a_lstD, a_rg1, a_rg2, a_ilst, a_itpl, a_olst, a_cat, a_ttrue, dAdd_int, dSub_int, dLt_int, dLe_int, dGt_int, dGe_int, dEq_int, dNe_int, dEq_bool, dNe_bool, dIs_non, dIsNot_non, isN_none, isN_int, isN_tup, isN_lst, dLen_list, dLen_t2, mo_0, mo_1, beq_self_eq_true, dAbs_int, ix_t0, ix_t1, isi_tt, isi_ib, isi_ii, isi_bb, isi_ll, isi_ss, mod_2, div_2, mul_two, Option.bind_some, Option.map_some, Option.some.injEq, List.getElem?_cons_zero, List.getElem?_cons_succ, List.set_cons_zero, List.set_cons_succ, List.cons_append, List.nil_append, List.replicate_zero, List.replicate_succ, List.append_nil, Bool.not_true, Bool.not_false, decide_true, decide_false, if_true, if_false, a_late, a_nopl, a_setX, a_tryN, a_tryL, a_setT, a_clr, a_ibr, a_iow, rp0, rp1, oD, ma]
        have ap' : lAppend (ws.map .str) (.str (mkM a)) = _ := ap
        simp only [ap']
      | some b =>
        have mb := run_l_mark (n := n) (h2 b rfl).1 (h2 b rfl).2
        have d1 := add_str (x := mkM a) (y := plusS) (by show 1 + 1 ≤ 1000000; decide)
        have d2 := add_str (x := mkM a ++ plusS) (y := mkM b) (by rw [two_len]; show 2 + 1 ≤ 1000000; decide)
        have ap' : lAppend (ws.map .str) (.str (mkM a ++ plusS ++ mkM b)) = _ := ap
        simp only [a_nil, a_seq, a_if, a_ret, a_set, a_setO, a_sfrz, a_frz, a_mut, a_for, a_bin, a_seqv, a_var, a_c, a_un, a_tup, a_evs0, a_evs1, a_call, a_gs, a_gw, a_gnil, a_tof, a_tand, a_tor, a_tnot, a_and, a_or, a_not, a_eif, a_neg, a_lstD, a_rg1, a_rg2, a_ilst, a_itpl, a_olst, a_cat, a_ttrue, dAdd_int, dSub_int, dLt_int, dLe_int, dGt_int, dGe_int, dEq_int, dNe_int, dEq_bool, dNe_bool, dIs_non, dIsNot_non, isN_none, isN_int, isN_tup, isN_lst, dLen_list, dLen_t2, mo_0, mo_1, beq_self_eq_true, dAbs_int, ix_t0, ix_t1, isi_tt, isi_ib, isi_ii, isi_bb, isi_ll, isi_ss, mod_2, div_2, mul_two, Option.bind_some, Option.map_some, Option.some.injEq, List.getElem?_cons_zero, List.getElem?_cons_succ, List.set_cons_zero, List.set_cons_succ, List.cons_append, List.nil_append, List.replicate_zero, List.replicate_succ, List.append_nil, Bool.not_true, Bool.not_false, decide_true, decide_false, if_true, if_false, a_late, a_nopl, a_setX, a_tryN, a_tryL, a_setT, a_clr, a_ibr, a_iow, rp0, rp1, oD, ma, mb, plus_eq, d1, d2, ap']
    show forL 2 (c_l_shown_1 n) (ropeD (a, o) :: planD rs) _ = _
    rw [a_for1]
    show (match c_l_shown_1 n [P, .ow (ws.map .str), .fz (ropeD (a, o))] with | .nx ρ' => _ | .ct ρ' => _ | .bk ρ' => _ | o => o) = _
    rw [t]
    refine ih.trans ?_
    rw [List.append_assoc]
    rfl
theorem join_fit {p : List Rope} (hl : p.length ≤ 12) : ((p.map wordS).map (·.length)).sum + (p.map wordS).length * (Str.ofString ", ").length ≤ 1000000 := by
  have := sum_words p
  rw [List.length_map, show (Str.ofString ", ").length = 2 from rfl]
  omega
theorem run_l_shown {n : Nat} {p : List Rope} (hp : PlanOk p) (hl : p.length ≤ 12) : b_l_shown n [.fz (.list (planD p)), .un, .un] = .rt (.str (textS p)) := by
  obtain ⟨x', lp⟩ := l_shown_loop (n := n) (.fz (.list (planD p))) p [] (ok_nums11 hp hl) (by rw [List.length_nil]; omega) .un
  have lp' : forL 2 (c_l_shown_1 n) (planD p) [.fz (.list (planD p)), .ow [], .un] = .nx [.fz (.list (planD p)), .ow ((p.map wordS).map .str), x'] := lp
  have so := strsOf_map (p.map wordS)
  have jf := join_fit hl
  unfold b_l_shown
  simp only [a_nil, a_seq, a_if, a_ret, a_set, a_setO, a_sfrz, a_frz, a_mut, a_for, a_bin, a_seqv, a_var, a_c, a_un, a_tup, a_evs0, a_evs1, a_call, a_gs, a_gw, a_gnil, a_tof, a_tand, a_tor, a_tnot, a_and, a_or, a_not, a_eif, a_neg, a_lstD, a_rg1, a_rg2, a_ilst, a_itpl, a_olst, a_cat, a_ttrue, dAdd_int, dSub_int, dLt_int, dLe_int, dGt_int, dGe_int, dEq_int, dNe_int, dEq_bool, dNe_bool, dIs_non, dIsNot_non, isN_none, isN_int, isN_tup, isN_lst, dLen_list, dLen_t2, mo_0, mo_1, beq_self_eq_true, dAbs_int, ix_t0, ix_t1, isi_tt, isi_ib, isi_ii, isi_bb, isi_ll, isi_ss, mod_2, div_2, mul_two, Option.bind_some, Option.map_some, Option.some.injEq, List.getElem?_cons_zero, List.getElem?_cons_succ, List.set_cons_zero, List.set_cons_succ, List.cons_append, List.nil_append, List.replicate_zero, List.replicate_succ, List.append_nil, Bool.not_true, Bool.not_false, decide_true, decide_false, if_true, if_false, a_late, a_nopl, a_setX, a_tryN, a_tryL, a_setT, a_clr, a_ibr, a_iow, lp', a_join, so]
  rw [if_pos jf]
  rfl
end L2.RC

namespace L2.RC
open PySem PySem.Spec PyProof.Rows TL
theorem alpha_eq : Str.ofString "oabcdefghijkl" = alphaS := rfl
theorem run_l_number {n : Nat} (m : Str) (hm : m.length ≤ 1000000) (k : Nat) : b_l_number n [.fz (.str m), .fz (.int (k : Int)), .un] = .rt (oD (numW m k)) := by
  have dl : dLen (.str m) = some (.int m.length) := by
    show (if m.length ≤ 1000000 then some (PyData.int m.length) else none) = _
    rw [if_pos hm]
  unfold b_l_number numW
  by_cases hl : m.length ≠ 1
  · have e : ((m.length : Int) == 1) = false := beq_eq_false_iff_ne.mpr (by omega)
    rw [if_pos hl]
    simp only [a_nil, a_seq, a_if, a_ret, a_set, a_setO, a_sfrz, a_frz, a_mut, a_for, a_bin, a_seqv, a_var, a_c, a_un, a_tup, a_evs0, a_evs1, a_call, a_gs, a_gw, a_gnil, a_tof, a_tand, a_tor, a_tnot, a_and, a_or, a_not, a_eif, a_neg, a_lstD, a_rg1, a_rg2, a_ilst, a_itpl, a_olst, a_cat, a_ttrue, dAdd_int, dSub_int, dLt_int, dLe_int, dGt_int, dGe_int, dEq_int, dNe_int, dEq_bool, dNe_bool, dIs_non, dIsNot_non, isN_none, isN_int, isN_tup, isN_lst, dLen_list, dLen_t2, mo_0, mo_1, beq_self_eq_true, dAbs_int, ix_t0, ix_t1, isi_tt, isi_ib, isi_ii, isi_bb, isi_ll, isi_ss, mod_2, div_2, mul_two, Option.bind_some, Option.map_some, Option.some.injEq, List.getElem?_cons_zero, List.getElem?_cons_succ, List.set_cons_zero, List.set_cons_succ, List.cons_append, List.nil_append, List.replicate_zero, List.replicate_succ, List.append_nil, Bool.not_true, Bool.not_false, decide_true, decide_false, if_true, if_false, a_late, a_nopl, a_setX, a_tryN, a_tryL, a_setT, a_clr, a_ibr, a_iow, dl, e, dNe_int]
    rfl
  · have e : ((m.length : Int) == 1) = true := beq_iff_eq.mpr (by omega)
    rw [if_neg hl]
    have fd : eFind (eC (.str (Str.ofString "oabcdefghijkl"))) (eVar 0) [.fz (.str m), .fz (.int (k : Int)), .un] = some (.int (Txt.find alphaS m)) := rfl
    generalize Txt.find alphaS m = q at fd ⊢
    by_cases c1 : q - 1 < -1
    · rw [if_pos (.inl c1)]
      simp only [a_nil, a_seq, a_if, a_ret, a_set, a_setO, a_sfrz, a_frz, a_mut, a_for, a_bin, a_seqv, a_var, a_c, a_un, a_tup, a_evs0, a_evs1, a_call, a_gs, a_gw, a_gnil, a_tof, a_tand, a_tor, a_tnot, a_and, a_or, a_not, a_eif, a_neg, a_lstD, a_rg1, a_rg2, a_ilst, a_itpl, a_olst, a_cat, a_ttrue, dAdd_int, dSub_int, dLt_int, dLe_int, dGt_int, dGe_int, dEq_int, dNe_int, dEq_bool, dNe_bool, dIs_non, dIsNot_non, isN_none, isN_int, isN_tup, isN_lst, dLen_list, dLen_t2, mo_0, mo_1, beq_self_eq_true, dAbs_int, ix_t0, ix_t1, isi_tt, isi_ib, isi_ii, isi_bb, isi_ll, isi_ss, mod_2, div_2, mul_two, Option.bind_some, Option.map_some, Option.some.injEq, List.getElem?_cons_zero, List.getElem?_cons_succ, List.set_cons_zero, List.set_cons_succ, List.cons_append, List.nil_append, List.replicate_zero, List.replicate_succ, List.append_nil, Bool.not_true, Bool.not_false, decide_true, decide_false, if_true, if_false, a_late, a_nopl, a_setX, a_tryN, a_tryL, a_setT, a_clr, a_ibr, a_iow, dl, e, dNe_int, fd, c1]
      rfl
    · by_cases c2 : (k : Int) ≤ q - 1
      · rw [if_pos (.inr c2)]
        simp only [a_nil, a_seq, a_if, a_ret, a_set, a_setO, a_sfrz, a_frz, a_mut, a_for, a_bin, a_seqv, a_var, a_c, a_un, a_tup, a_evs0, a_evs1, a_call, a_gs, a_gw, a_gnil, a_tof, a_tand, a_tor, a_tnot, a_and, a_or, a_not, a_eif, a_neg, a_lstD, a_rg1, a_rg2, a_ilst, a_itpl, a_olst, a_cat, a_ttrue, dAdd_int, dSub_int, dLt_int, dLe_int, dGt_int, dGe_int, dEq_int, dNe_int, dEq_bool, dNe_bool, dIs_non, dIsNot_non, isN_none, isN_int, isN_tup, isN_lst, dLen_list, dLen_t2, mo_0, mo_1, beq_self_eq_true, dAbs_int, ix_t0, ix_t1, isi_tt, isi_ib, isi_ii, isi_bb, isi_ll, isi_ss, mod_2, div_2, mul_two, Option.bind_some, Option.map_some, Option.some.injEq, List.getElem?_cons_zero, List.getElem?_cons_succ, List.set_cons_zero, List.set_cons_succ, List.cons_append, List.nil_append, List.replicate_zero, List.replicate_succ, List.append_nil, Bool.not_true, Bool.not_false, decide_true, decide_false, if_true, if_false, a_late, a_nopl, a_setX, a_tryN, a_tryL, a_setT, a_clr, a_ibr, a_iow, dl, e, dNe_int, fd, c1, c2]
        rfl
      · rw [if_neg (fun z => z.elim c1 c2)]
        simp only [a_nil, a_seq, a_if, a_ret, a_set, a_setO, a_sfrz, a_frz, a_mut, a_for, a_bin, a_seqv, a_var, a_c, a_un, a_tup, a_evs0, a_evs1, a_call, a_gs, a_gw, a_gnil, a_tof, a_tand, a_tor, a_tnot, a_and, a_or, a_not, a_eif, a_neg, a_lstD, a_rg1, a_rg2, a_ilst, a_itpl, a_olst, a_cat, a_ttrue, dAdd_int, dSub_int, dLt_int, dLe_int, dGt_int, dGe_int, dEq_int, dNe_int, dEq_bool, dNe_bool, dIs_non, dIsNot_non, isN_none, isN_int, isN_tup, isN_lst, dLen_list, dLen_t2, mo_0, mo_1, beq_self_eq_true, dAbs_int, ix_t0, ix_t1, isi_tt, isi_ib, isi_ii, isi_bb, isi_ll, isi_ss, mod_2, div_2, mul_two, Option.bind_some, Option.map_some, Option.some.injEq, List.getElem?_cons_zero, List.getElem?_cons_succ, List.set_cons_zero, List.set_cons_succ, List.cons_append, List.nil_append, List.replicate_zero, List.replicate_succ, List.append_nil, Bool.not_true, Bool.not_false, decide_true, decide_false, if_true, if_false, a_late, a_nopl, a_setX, a_tryN, a_tryL, a_setT, a_clr, a_ibr, a_iow, dl, e, dNe_int, fd, c1, c2]
        rfl
def numsD (l : List (Option Int)) : List PyData := l.map oD
theorem flat_oD (o : Option Int) : Flat 0 (oD o) := by cases o with | none => exact flat_none | some b => exact flat_int b
theorem in_none (l : List (Option Int)) : dIn .none (.list (numsD l)) = some (.bool (l.any fun o => o.isNone)) := by
  have s1 : SeqAt.shaped (.list (numsD l)) = true := (flat_list (n := 0) fun d h => by obtain ⟨o, _, e⟩ := List.mem_map.mp h; rw [← e]; exact flat_oD o).sh
  show (if (SeqAt.shaped .none && SeqAt.shaped (.list (numsD l))) = true then some (PyData.bool ((numsD l).any fun z => PyData.eqv z .none)) else none) = _
  rw [s1]
  show some (PyData.bool ((numsD l).any fun z => PyData.eqv z .none)) = _
  unfold numsD
  rw [List.any_map]
  congr 2
  congr 1
  funext o
  cases o <;> rfl
theorem comp_strs {ρ : DEnv} {fe : EFn} {i : Nat} {g : Str → PyData} : ∀ l : List Str, (∀ x ∈ l, fe (ρ.set i (.fz (.str x))) = some (g x)) → compL i tTrue fe ρ (l.map .str) = some (l.map g)
  | [], _ => rfl
  | x :: l, h => by
    rw [List.map_cons, List.map_cons, a_comp1]
    simp only [a_ttrue, h x List.mem_cons_self, comp_strs l fun y hy => h y (List.mem_cons_of_mem _ hy), Option.bind_some, Option.map_some]
/-- one word -/
theorem due_turn {n : Nat} {ws : List Str} (p : List Rope) {w : Str} (hw : ws[p.length]? = some w) (hwl : w.length ≤ 10000) (hlow : Low w) (hp : p.length < 100000) (s0 x y z : Sl) :
    (match (if 12 ≤ p.length then none else ropeV (Txt.split w plusS) p.length) with
      | some r => ∃ x' y' z', c_l_due_1 n [s0, .fz (.list (ws.map .str)), .ow (planD p), .fz (.int (p.length : Int)), x, y, z] = .nx [s0, .fz (.list (ws.map .str)), .ow (planD (p ++ [r])), .fz (.int (p.length : Int)), x', y', z']
      | none => c_l_due_1 n [s0, .fz (.list (ws.map .str)), .ow (planD p), .fz (.int (p.length : Int)), x, y, z] = .rt .none) := by
  have ix : dIx (.list (ws.map .str)) (.int (p.length : Int)) = some (.str w) := atI_nat' (by rw [List.getElem?_map, hw] <;> rfl)
  have sp : oSplit (eBin dIx (eSeq 1) (eSeq 3)) (eC (.str (Str.ofString "+"))) [s0, .fz (.list (ws.map .str)), .ow (planD p), .fz (.int (p.length : Int)), x, y, z] = some ((Txt.split w plusS).map PyData.str) := by
    rw [a_split]
    have e1 : eBin dIx (eSeq 1) (eSeq 3) [s0, .fz (.list (ws.map .str)), .ow (planD p), .fz (.int (p.length : Int)), x, y, z] = some (.str w) := by simp only [a_nil, a_seq, a_if, a_ret, a_set, a_setO, a_sfrz, a_frz, a_mut, a_for, a_bin, a_seqv, a_var, a_c, a_un, a_tup, a_evs0, a_evs1, a_call, a_gs, a_gw, a_gnil, a_tof, a_tand, a_tor, a_tnot, a_and, a_or, a_not, a_eif, a_neg, a_lstD, a_rg1, a_rg2, a_ilst, a_itpl, a_olst, a_cat, a_ttrue, dAdd_int, dSub_int, dLt_int, dLe_int, dGt_int, dGe_int, dEq_int, dNe_int, dEq_bool, dNe_bool, dIs_non, dIsNot_non, isN_none, isN_int, isN_tup, isN_lst, dLen_list, dLen_t2, mo_0, mo_1, beq_self_eq_true, dAbs_int, ix_t0, ix_t1, isi_tt, isi_ib, isi_ii, isi_bb, isi_ll, isi_ss, mod_2, div_2, mul_two, Option.bind_some, Option.map_some, Option.some.injEq, List.getElem?_cons_zero, List.getElem?_cons_succ, List.set_cons_zero, List.set_cons_succ, List.cons_append, List.nil_append, List.replicate_zero, List.replicate_succ, List.append_nil, Bool.not_true, Bool.not_false, decide_true, decide_false, if_true, if_false, a_late, a_nopl, a_setX, a_tryN, a_tryL, a_setT, a_clr, a_ibr, a_iow, ix]
    rw [e1]
    show (if ((plusS.length == 0) = false ∧ w.length ≤ 1000000) then some ((Txt.split w plusS).map PyData.str) else none) = _
    rw [if_pos ⟨rfl, by omega⟩]
  have ne : Txt.split w plusS ≠ [] := split_ne (by decide) (by decide +kernel)
  have hms : ∀ m ∈ Txt.split w plusS, m.length ≤ 1000000 := fun m hm => by have := (low_marks hlow hm).1; omega
  have hcnt : (Txt.split w plusS).length ≤ 1000000 := by have := PyProof.Rows.split_le w plusS; omega
  have ap : ∀ r : Rope, lAppend (planD p) (ropeD r) = some (planD (p ++ [r])) := fun r => by
    unfold lAppend
    rw [if_pos (by rw [planD_len]; omega)]
    unfold planD
    rw [List.map_append]
    rfl
  generalize Txt.split w plusS = ms at sp ne hms hcnt ⊢
  have cp : oComp 6 (iLst (eVar 4)) tTrue (eCall (b_l_number n) 1 (gS (eVar 6) (gS (eVar 3) gNil))) [s0, .fz (.list (ws.map .str)), .ow (planD p), .fz (.int (p.length : Int)), .fz (.list (ms.map .str)), y, z] = some (numsD (ms.map fun m => numW m p.length)) := by
    rw [a_comp]
    have e1 : iLst (eVar 4) [s0, .fz (.list (ws.map .str)), .ow (planD p), .fz (.int (p.length : Int)), .fz (.list (ms.map .str)), y, z] = some (ms.map .str) := rfl
    rw [e1]
    show (if (ms.map PyData.str).length ≤ 1000000 then _ else _) = _
    rw [if_pos (by rw [List.length_map]; exact hcnt)]
    unfold numsD
    rw [List.map_map]
    refine comp_strs ms fun m hm => ?_
    have r := run_l_number (n := n) m (hms m hm) p.length
    simp only [a_nil, a_seq, a_if, a_ret, a_set, a_setO, a_sfrz, a_frz, a_mut, a_for, a_bin, a_seqv, a_var, a_c, a_un, a_tup, a_evs0, a_evs1, a_call, a_gs, a_gw, a_gnil, a_tof, a_tand, a_tor, a_tnot, a_and, a_or, a_not, a_eif, a_neg, a_lstD, a_rg1, a_rg2, a_ilst, a_itpl, a_olst, a_cat, a_ttrue, dAdd_int, dSub_int, dLt_int, dLe_int, dGt_int, dGe_int, dEq_int, dNe_int, dEq_bool, dNe_bool, dIs_non, dIsNot_non, isN_none, isN_int, isN_tup, isN_lst, dLen_list, dLen_t2, mo_0, mo_1, beq_self_eq_true, dAbs_int, ix_t0, ix_t1, isi_tt, isi_ib, isi_ii, isi_bb, isi_ll, isi_ss, mod_2, div_2, mul_two, Option.bind_some, Option.map_some, Option.some.injEq, List.getElem?_cons_zero, List.getElem?_cons_succ, List.set_cons_zero, List.set_cons_succ, List.cons_append, List.nil_append, List.replicate_zero, List.replicate_succ, List.append_nil, Bool.not_true, Bool.not_false, decide_true, decide_false, if_true, if_false, a_late, a_nopl, a_setX, a_tryN, a_tryL, a_setT, a_clr, a_ibr, a_iow, r]
    rfl
  have pre : c_l_due_1 n [s0, .fz (.list (ws.map .str)), .ow (planD p), .fz (.int (p.length : Int)), x, y, z] = (sSeq (sIf (tOr2 (tOf (eBin dGt (eUn dLen (eSeq 4)) (eC (.int 2)))) (tOr2 (tOf (eBin dIn (eC .none) (eSeq 5))) (tOf (eBin dGt (eSeq 3) (eC (.int 11)))))) (sRet (eC .none)) sNil)
    (sSeq (sIf (tAnd2 (tOf (eBin dEq (eUn dLen (eSeq 5)) (eC (.int 2)))) (tOf (eBin dLt (eBin dIx (eSeq 5) (eC (.int 1))) (eBin dIx (eSeq 5) (eC (.int 0)))))) (sRet (eC .none)) sNil)
    (sFrz 5 (sMut 2 (eTup (evs [(eBin dIx (eSeq 5) (eC (.int 0))), (eBin dIx (lstD (oCat (eVar 5) (lstD (evs [(eC .none)])))) (eC (.int 1)))])) lAppend)))) [s0, .fz (.list (ws.map .str)), .ow (planD p), .fz (.int (p.length : Int)), .fz (.list (ms.map .str)), .ow (numsD (ms.map fun m => numW m p.length)), z] := by
    unfold c_l_due_1
    simp only [a_seq, a_set, a_lstD, sp, Option.map_some, List.set_cons_zero, List.set_cons_succ, a_setO, cp]
  rw [pre]
  have i1 := in_none (ms.map fun m => numW m p.length)
  by_cases h12 : 12 ≤ p.length
  · rw [if_pos h12]
    have g11 : decide ((11 : Int) < (p.length : Int)) = true := decide_eq_true (by omega)
    show sSeq _ _ _ = _
    cases hA : (ms.map fun m => numW m p.length).any (fun o => o.isNone) <;> rw [hA] at i1 <;> by_cases c1 : (2 : Int) < ((ms.map PyData.str).length : Int) <;> simp only [a_nil, a_seq, a_if, a_ret, a_set, a_setO, a_sfrz, a_frz, a_mut, a_for, a_bin, a_seqv, a_var, a_c, a_un, a_tup, a_evs0, a_evs1, a_call, a_gs, a_gw, a_gnil, a_tof, a_tand, a_tor, a_tnot, a_and, a_or, a_not, a_eif, a_neg, a_lstD, a_rg1, a_rg2, a_ilst, a_itpl, a_olst, a_cat, a_ttrue, dAdd_int, dSub_int, dLt_int, dLe_int, dGt_int, dGe_int, dEq_int, dNe_int, dEq_bool, dNe_bool, dIs_non, dIsNot_non, isN_none, isN_int, isN_tup, isN_lst, dLen_list, dLen_t2, mo_0, mo_1, beq_self_eq_true, dAbs_int, ix_t0, ix_t1, isi_tt, isi_ib, isi_ii, isi_bb, isi_ll, isi_ss, mod_2, div_2, mul_two, Option.bind_some, Option.map_some, Option.some.injEq, List.getElem?_cons_zero, List.getElem?_cons_succ, List.set_cons_zero, List.set_cons_succ, List.cons_append, List.nil_append, List.replicate_zero, List.replicate_succ, List.append_nil, Bool.not_true, Bool.not_false, decide_true, decide_false, if_true, if_false, a_late, a_nopl, a_setX, a_tryN, a_tryL, a_setT, a_clr, a_ibr, a_iow, c1, i1, g11]
  · rw [if_neg h12]
    have g11 : decide ((11 : Int) < (p.length : Int)) = false := decide_eq_false (by omega)
    have nV : ∀ m, numW m p.length = numV m p.length := fun m => numW_V m (by omega)
    match ms, ne, i1, hcnt, hms with
    | [], ne, _, _, _ => exact absurd rfl ne
    | [a], _, i1, _, _ =>
      have c1 : decide ((2 : Int) < (([a].map PyData.str).length : Int)) = false := rfl
      have l5 : (((numsD ([a].map fun m => numW m p.length)).length : Int) == 2) = false := rfl
      show (match ((numV a p.length).map fun x => ((x, none) : Rope)) with | some r => _ | none => _)
      rw [show numsD ([a].map fun m => numW m p.length) = [oD (numV a p.length)] by rw [← nV a]; rfl] at *
      rw [show ([a].map fun m => numW m p.length).any (fun o => o.isNone) = (numV a p.length).isNone by rw [← nV a]; simp] at i1
      cases hv : numV a p.length with
      | none =>
        rw [hv] at i1
        show sSeq _ _ _ = _
        have i1' : dIn .none (.list [oD none]) = some (.bool true) := i1
        simp only [a_nil, a_seq, a_if, a_ret, a_set, a_setO, a_sfrz, a_frz, a_mut, a_for, a_bin, a_seqv, a_var, a_c, a_un, a_tup, a_evs0, a_evs1, a_call, a_gs, a_gw, a_gnil, a_tof, a_tand, a_tor, a_tnot, a_and, a_or, a_not, a_eif, a_neg, a_lstD, a_rg1, a_rg2, a_ilst, a_itpl, a_olst, a_cat, a_ttrue, dAdd_int, dSub_int, dLt_int, dLe_int, dGt_int, dGe_int, dEq_int, dNe_int, dEq_bool, dNe_bool, dIs_non, dIsNot_non, isN_none, isN_int, isN_tup, isN_lst, dLen_list, dLen_t2, mo_0, mo_1, beq_self_eq_true, dAbs_int, ix_t0, ix_t1, isi_tt, isi_ib, isi_ii, isi_bb, isi_ll, isi_ss, mod_2, div_2, mul_two, Option.bind_some, Option.map_some, Option.some.injEq, List.getElem?_cons_zero, List.getElem?_cons_succ, List.set_cons_zero, List.set_cons_succ, List.cons_append, List.nil_append, List.replicate_zero, List.replicate_succ, List.append_nil, Bool.not_true, Bool.not_false, decide_true, decide_false, if_true, if_false, a_late, a_nopl, a_setX, a_tryN, a_tryL, a_setT, a_clr, a_ibr, a_iow, c1, i1']
      | some u =>
        rw [hv] at i1
        have i1' : dIn .none (.list [.int u]) = some (.bool false) := i1
        have ap' := ap (u, none)
        unfold ropeD oD at ap'
        have x0 : dIx (.list [.int u]) (.int 0) = some (.int u) := rfl
        have x1 : dIx (.list ([.int u] ++ [.none])) (.int 1) = some .none := rfl
        have l5' : ((([PyData.int u].length : Nat) : Int) == 2) = false := rfl
        have le : [PyData.int u].length + [PyData.none].length ≤ 1000000 := by simp
        refine ⟨.fz (.list ([a].map .str)), .fz (.list [.int u]), z, ?_⟩
        simp only [a_seq, a_if, a_tor, a_tand, a_tof, a_bin, a_un, a_seqv, a_c, List.getElem?_cons_zero, List.getElem?_cons_succ, Option.bind_some, dLen_list, dGt_int, dEq_int, oD, c1, i1', g11, l5', a_nil, a_sfrz, a_frz, List.set_cons_zero, List.set_cons_succ, a_mut, a_tup, a_evs1, a_evs0, a_cat, a_lstD, a_var, Option.map_some, le, if_true, x0, x1, ap']
    | [a, b], _, i1, _, _ =>
      have c1 : decide ((2 : Int) < (([a, b].map PyData.str).length : Int)) = false := rfl
      show (match (match numV a p.length, numV b p.length with | some x, some y => if y < x then none else some ((x, some y) : Rope) | _, _ => none) with | some r => _ | none => _)
      rw [show numsD ([a, b].map fun m => numW m p.length) = [oD (numV a p.length), oD (numV b p.length)] by rw [← nV a, ← nV b]; rfl] at *
      rw [show ([a, b].map fun m => numW m p.length).any (fun o => o.isNone) = ((numV a p.length).isNone || (numV b p.length).isNone) by rw [← nV a, ← nV b]; simp] at i1
      cases hv : numV a p.length with
      | none =>
        rw [hv] at i1
        show sSeq _ _ _ = _
        have i1' : dIn .none (.list [oD none, oD (numV b p.length)]) = some (.bool true) := i1
        simp only [a_nil, a_seq, a_if, a_ret, a_set, a_setO, a_sfrz, a_frz, a_mut, a_for, a_bin, a_seqv, a_var, a_c, a_un, a_tup, a_evs0, a_evs1, a_call, a_gs, a_gw, a_gnil, a_tof, a_tand, a_tor, a_tnot, a_and, a_or, a_not, a_eif, a_neg, a_lstD, a_rg1, a_rg2, a_ilst, a_itpl, a_olst, a_cat, a_ttrue, dAdd_int, dSub_int, dLt_int, dLe_int, dGt_int, dGe_int, dEq_int, dNe_int, dEq_bool, dNe_bool, dIs_non, dIsNot_non, isN_none, isN_int, isN_tup, isN_lst, dLen_list, dLen_t2, mo_0, mo_1, beq_self_eq_true, dAbs_int, ix_t0, ix_t1, isi_tt, isi_ib, isi_ii, isi_bb, isi_ll, isi_ss, mod_2, div_2, mul_two, Option.bind_some, Option.map_some, Option.some.injEq, List.getElem?_cons_zero, List.getElem?_cons_succ, List.set_cons_zero, List.set_cons_succ, List.cons_append, List.nil_append, List.replicate_zero, List.replicate_succ, List.append_nil, Bool.not_true, Bool.not_false, decide_true, decide_false, if_true, if_false, a_late, a_nopl, a_setX, a_tryN, a_tryL, a_setT, a_clr, a_ibr, a_iow, c1, i1']
      | some u =>
        cases hq : numV b p.length with
        | none =>
          rw [hv, hq] at i1
          show sSeq _ _ _ = _
          have i1' : dIn .none (.list [oD (some u), oD none]) = some (.bool true) := i1
          simp only [a_nil, a_seq, a_if, a_ret, a_set, a_setO, a_sfrz, a_frz, a_mut, a_for, a_bin, a_seqv, a_var, a_c, a_un, a_tup, a_evs0, a_evs1, a_call, a_gs, a_gw, a_gnil, a_tof, a_tand, a_tor, a_tnot, a_and, a_or, a_not, a_eif, a_neg, a_lstD, a_rg1, a_rg2, a_ilst, a_itpl, a_olst, a_cat, a_ttrue, dAdd_int, dSub_int, dLt_int, dLe_int, dGt_int, dGe_int, dEq_int, dNe_int, dEq_bool, dNe_bool, dIs_non, dIsNot_non, isN_none, isN_int, isN_tup, isN_lst, dLen_list, dLen_t2, mo_0, mo_1, beq_self_eq_true, dAbs_int, ix_t0, ix_t1, isi_tt, isi_ib, isi_ii, isi_bb, isi_ll, isi_ss, mod_2, div_2, mul_two, Option.bind_some, Option.map_some, Option.some.injEq, List.getElem?_cons_zero, List.getElem?_cons_succ, List.set_cons_zero, List.set_cons_succ, List.cons_append, List.nil_append, List.replicate_zero, List.replicate_succ, List.append_nil, Bool.not_true, Bool.not_false, decide_true, decide_false, if_true, if_false, a_late, a_nopl, a_setX, a_tryN, a_tryL, a_setT, a_clr, a_ibr, a_iow, c1, i1']
        | some v =>
          rw [hv, hq] at i1
          have i1' : dIn .none (.list [.int u, .int v]) = some (.bool false) := i1
          have x0 : dIx (.list [.int u, .int v]) (.int 0) = some (.int u) := rfl
          have x1 : dIx (.list [.int u, .int v]) (.int 1) = some (.int v) := rfl
          have x2 : dIx (.list ([.int u, .int v] ++ [.none])) (.int 1) = some (.int v) := rfl
          have l5' : ((([PyData.int u, PyData.int v].length : Nat) : Int) == 2) = true := rfl
          have le : [PyData.int u, PyData.int v].length + [PyData.none].length ≤ 1000000 := by simp
          show (match (if v < u then none else some ((u, some v) : Rope)) with | some r => _ | none => _)
          by_cases c2 : v < u
          · rw [if_pos c2]
            have c2' : decide (v < u) = true := decide_eq_true c2
            show sSeq _ _ _ = _
            simp only [a_seq, a_if, a_tor, a_tand, a_tof, a_bin, a_un, a_seqv, a_c, List.getElem?_cons_zero, List.getElem?_cons_succ, Option.bind_some, dLen_list, dGt_int, dLt_int, dEq_int, oD, c1, i1', g11, l5', x0, x1, c2', a_nil, a_ret]
          · rw [if_neg c2]
            have c2' : decide (v < u) = false := decide_eq_false c2
            have ap' := ap (u, some v)
            unfold ropeD oD at ap'
            refine ⟨.fz (.list ([a, b].map .str)), .fz (.list [.int u, .int v]), z, ?_⟩
            simp only [a_seq, a_if, a_tor, a_tand, a_tof, a_bin, a_un, a_seqv, a_c, List.getElem?_cons_zero, List.getElem?_cons_succ, Option.bind_some, dLen_list, dGt_int, dLt_int, dEq_int, oD, c1, i1', g11, l5', c2', a_nil, a_sfrz, a_frz, List.set_cons_zero, List.set_cons_succ, a_mut, a_tup, a_evs1, a_evs0, a_cat, a_lstD, a_var, Option.map_some, le, if_true, x0, x1, x2, ap']
    | a :: b :: d :: ms, _, _, _, _ =>
      have c1 : decide ((2 : Int) < (((a :: b :: d :: ms).map PyData.str).length : Int)) = true := decide_eq_true (by rw [List.length_map, List.length_cons, List.length_cons, List.length_cons]; omega)
      show sSeq _ _ _ = _
      simp only [a_nil, a_seq, a_if, a_ret, a_set, a_setO, a_sfrz, a_frz, a_mut, a_for, a_bin, a_seqv, a_var, a_c, a_un, a_tup, a_evs0, a_evs1, a_call, a_gs, a_gw, a_gnil, a_tof, a_tand, a_tor, a_tnot, a_and, a_or, a_not, a_eif, a_neg, a_lstD, a_rg1, a_rg2, a_ilst, a_itpl, a_olst, a_cat, a_ttrue, dAdd_int, dSub_int, dLt_int, dLe_int, dGt_int, dGe_int, dEq_int, dNe_int, dEq_bool, dNe_bool, dIs_non, dIsNot_non, isN_none, isN_int, isN_tup, isN_lst, dLen_list, dLen_t2, mo_0, mo_1, beq_self_eq_true, dAbs_int, ix_t0, ix_t1, isi_tt, isi_ib, isi_ii, isi_bb, isi_ll, isi_ss, mod_2, div_2, mul_two, Option.bind_some, Option.map_some, Option.some.injEq, List.getElem?_cons_zero, List.getElem?_cons_succ, List.set_cons_zero, List.set_cons_succ, List.cons_append, List.nil_append, List.replicate_zero, List.replicate_succ, List.append_nil, Bool.not_true, Bool.not_false, decide_true, decide_false, if_true, if_false, a_late, a_nopl, a_setX, a_tryN, a_tryL, a_setT, a_clr, a_ibr, a_iow, c1]
end L2.RC

namespace L2.RC
open PySem PySem.Spec PyProof.Rows TL
theorem due_loop {n : Nat} (s0 : Sl) (ws : List Str) (hw : ∀ w ∈ ws, w.length ≤ 10000 ∧ Low w) (hlen : ws.length < 50000) : ∀ (rs : List Str) (p : List Rope), ws.drop p.length = rs → ∀ k x y z,
    (match readV rs p.length with
      | some q => ∃ k' x' y' z', forL 3 (c_l_due_1 n) (rngD (p.length : Int) rs.length) [s0, .fz (.list (ws.map .str)), .ow (planD p), k, x, y, z] = .nx [s0, .fz (.list (ws.map .str)), .ow (planD (p ++ q)), k', x', y', z']
      | none => forL 3 (c_l_due_1 n) (rngD (p.length : Int) rs.length) [s0, .fz (.list (ws.map .str)), .ow (planD p), k, x, y, z] = .rt .none)
  | [], p, _, k, x, y, z => ⟨k, x, y, z, by rw [List.append_nil]; rfl⟩
  | w :: rs, p, hd, k, x, y, z => by
    obtain ⟨hg, hd'⟩ := get_drop hd
    have hpl : p.length < ws.length := (List.getElem?_eq_some_iff.mp hg).1
    obtain ⟨w1, w2⟩ := hw w (List.mem_of_getElem? hg)
    have t := due_turn (n := n) p hg w1 w2 (by omega) s0 x y z
    show (match (if 12 ≤ p.length then none else match ropeV (Txt.split w plusS) p.length with | some r => (readV rs (p.length + 1)).map (r :: ·) | none => none) with | some q => _ | none => _)
    have st : forL 3 (c_l_due_1 n) (rngD (p.length : Int) (w :: rs).length) [s0, .fz (.list (ws.map .str)), .ow (planD p), k, x, y, z] = (match c_l_due_1 n [s0, .fz (.list (ws.map .str)), .ow (planD p), .fz (.int (p.length : Int)), x, y, z] with
      | .nx ρ' => forL 3 (c_l_due_1 n) (rngD ((p.length : Int) + 1) rs.length) ρ'
      | .ct ρ' => forL 3 (c_l_due_1 n) (rngD ((p.length : Int) + 1) rs.length) ρ'
      | .bk ρ' => .nx ρ'
      | o => o) := by rw [List.length_cons, rngD_succ, a_for1]; rfl
    rw [st]
    by_cases h12 : 12 ≤ p.length
    · rw [if_pos h12] at t ⊢
      dsimp only at t ⊢
      rw [t]
    · rw [if_neg h12] at t ⊢
      cases hr : ropeV (Txt.split w plusS) p.length with
      | none =>
        rw [hr] at t
        dsimp only at t ⊢
        rw [t]
      | some r =>
        rw [hr] at t
        dsimp only at t ⊢
        obtain ⟨x1, y1, z1, t⟩ := t
        have ih := due_loop (n := n) s0 ws hw hlen rs (p ++ [r]) (by rw [List.length_append, List.length_singleton]; exact hd') (.fz (.int p.length)) x1 y1 z1
        rw [List.length_append, List.length_singleton, show ((p.length + 1 : Nat) : Int) = (p.length : Int) + 1 by omega] at ih
        rw [t]
        cases hq : readV rs (p.length + 1) with
        | none => rw [hq] at ih; exact ih
        | some q =>
          rw [hq] at ih
          obtain ⟨k', x', y', z', ih⟩ := ih
          rw [List.append_assoc] at ih
          exact ⟨k', x', y', z', ih⟩
theorem run_l_due {n : Nat} {t : Str} (ht : t.length ≤ 10000) (hlow : Low t) : b_l_due n [.fz (.str t), .un, .un, .un, .un, .un, .un] =
    .rt (match readV (Txt.split t commaS) 0 with | some p => .list (planD p) | none => .none) := by
  have sp : oSplit (eVar 0) (eC (.str (Str.ofString ", "))) [.fz (.str t), .un, .un, .un, .un, .un, .un] = some ((Txt.split t commaS).map PyData.str) := by
    rw [a_split]
    show (if ((commaS.length == 0) = false ∧ t.length ≤ 1000000) then some ((Txt.split t commaS).map PyData.str) else none) = _
    rw [if_pos ⟨rfl, by omega⟩]
  have hcnt : (Txt.split t commaS).length < 50000 := by have := PyProof.Rows.split_le t commaS; omega
  have lp := due_loop (n := n) (.fz (.str t)) (Txt.split t commaS) (fun w hw => ⟨by have := (low_words hlow hw).1; omega, (low_words hlow hw).2⟩) hcnt (Txt.split t commaS) [] rfl .un .un .un .un
  have hr : rngOk ((Txt.split t commaS).length : Int) = true := rngOk_iff.mpr (by omega)
  generalize Txt.split t commaS = ws at *
  unfold b_l_due
  rw [show ([] : List Rope).length = 0 from rfl] at lp
  cases hq : readV ws 0 with
  | none =>
    rw [hq] at lp
    have lp' : forL 3 (c_l_due_1 n) (rngD 0 ws.length) [.fz (.str t), .fz (.list (ws.map .str)), .ow [], .un, .un, .un, .un] = .rt .none := lp
    simp only [a_seq, a_set, a_lstD, sp, Option.map_some, List.set_cons_zero, List.set_cons_succ, a_setO, a_evs0, a_for, a_rg1, a_un, a_seqv, List.getElem?_cons_zero, List.getElem?_cons_succ, Option.bind_some, dLen_list, List.length_map, hr, if_true, Int.toNat_natCast, lp']
  | some q =>
    rw [hq] at lp
    obtain ⟨k', x', y', z', lp⟩ := lp
    have lp' : forL 3 (c_l_due_1 n) (rngD 0 ws.length) [.fz (.str t), .fz (.list (ws.map .str)), .ow [], .un, .un, .un, .un] = .nx [.fz (.str t), .fz (.list (ws.map .str)), .ow (planD q), k', x', y', z'] := lp
    simp only [a_seq, a_set, a_lstD, sp, Option.map_some, List.set_cons_zero, List.set_cons_succ, a_setO, a_evs0, a_for, a_rg1, a_un, a_seqv, List.getElem?_cons_zero, List.getElem?_cons_succ, Option.bind_some, dLen_list, List.length_map, hr, if_true, Int.toNat_natCast, lp']
    simp only [a_nil, a_seq, a_if, a_ret, a_set, a_setO, a_sfrz, a_frz, a_mut, a_for, a_bin, a_seqv, a_var, a_c, a_un, a_tup, a_evs0, a_evs1, a_call, a_gs, a_gw, a_gnil, a_tof, a_tand, a_tor, a_tnot, a_and, a_or, a_not, a_eif, a_neg, a_lstD, a_rg1, a_rg2, a_ilst, a_itpl, a_olst, a_cat, a_ttrue, dAdd_int, dSub_int, dLt_int, dLe_int, dGt_int, dGe_int, dEq_int, dNe_int, dEq_bool, dNe_bool, dIs_non, dIsNot_non, isN_none, isN_int, isN_tup, isN_lst, dLen_list, dLen_t2, mo_0, mo_1, beq_self_eq_true, dAbs_int, ix_t0, ix_t1, isi_tt, isi_ib, isi_ii, isi_bb, isi_ll, isi_ss, mod_2, div_2, mul_two, Option.bind_some, Option.map_some, Option.some.injEq, List.getElem?_cons_zero, List.getElem?_cons_succ, List.set_cons_zero, List.set_cons_succ, List.cons_append, List.nil_append, List.replicate_zero, List.replicate_succ, List.append_nil, Bool.not_true, Bool.not_false, decide_true, decide_false, if_true, if_false, a_late, a_nopl, a_setX, a_tryN, a_tryL, a_setT, a_clr, a_ibr, a_iow]
/-! ### the text spoiled -/
def TextOk (t : Str) : Prop := t.length ≤ 1000 ∧ Low t
theorem a_sl {fa : EFn} {fl fh : PFn} {ρ : DEnv} : eSl fa fl fh ρ = (match fa ρ with
  | some (.str z) => (fl ρ).bind fun lo => (fh ρ).bind fun hi => if z.length ≤ 1000000 then some (.str (cutS z lo hi)) else none
  | _ => none) := rfl
theorem a_osl {fa : EFn} {fl fh : PFn} {ρ : DEnv} : oSl fa fl fh ρ = (match fa ρ with
  | some (.list xs) => (fl ρ).bind fun lo => (fh ρ).bind fun hi => some (cutD xs lo hi)
  | _ => none) := rfl
theorem a_pn {ρ : DEnv} : pNone ρ = some none := rfl
theorem a_ps {f : EFn} {ρ : DEnv} : pSome f ρ = (match f ρ with | some (.int i) => some (some i) | _ => none) := rfl
def Words (ws : List Str) : Prop := ∀ w ∈ ws, w.length ≤ 9 ∧ Low w
theorem cutD_strs (ws : List Str) (lo hi : Option Int) : ∃ vs : List Str, cutD (ws.map .str) lo hi = vs.map .str ∧ vs.length ≤ ws.length ∧ ∀ v ∈ vs, v ∈ ws := by
  unfold cutD
  rw [List.length_map]
  refine ⟨(ws.drop (HT.sIx ws.length 0 lo)).take (HT.sIx ws.length ws.length hi - HT.sIx ws.length 0 lo), by rw [List.map_take, List.map_drop], ?_, fun v hv => List.mem_of_mem_drop (List.mem_of_mem_take hv)⟩
  rw [List.length_take, List.length_drop]
  omega
theorem signs_ok (i : Int) (h0 : 0 ≤ i) (h1 : i < 21) : ∃ c, c < 256 ∧ dIx (.str (Str.ofString "oabcdefghijklmA0+-, \n")) (.int i) = some (.str ⟨#[c]⟩) := by
  obtain ⟨k, rfl⟩ := Int.eq_ofNat_of_zero_le h0
  have hk : k < 21 := by omega
  have e : tl (Str.ofString "oabcdefghijklmA0+-, \n") = [111, 97, 98, 99, 100, 101, 102, 103, 104, 105, 106, 107, 108, 109, 65, 48, 43, 45, 44, 32, 10] := by decide +kernel
  have hl : (Str.ofString "oabcdefghijklmA0+-, \n").length = 21 := by decide +kernel
  have hall : ∀ c ∈ ([111, 97, 98, 99, 100, 101, 102, 103, 104, 105, 106, 107, 108, 109, 65, 48, 43, 45, 44, 32, 10] : List Nat), c < 256 := by decide
  have hlen : k < ([111, 97, 98, 99, 100, 101, 102, 103, 104, 105, 106, 107, 108, 109, 65, 48, 43, 45, 44, 32, 10] : List Nat).length := hk
  refine ⟨_, hall _ (List.getElem_mem hlen), ?_⟩
  have at1 : atI (tl (Str.ofString "oabcdefghijklmA0+-, \n")) (k : Int) = some ([111, 97, 98, 99, 100, 101, 102, 103, 104, 105, 106, 107, 108, 109, 65, 48, 43, 45, 44, 32, 10][k]) := atI_nat (by rw [e]; exact List.getElem?_eq_getElem hlen)
  show (if (Str.ofString "oabcdefghijklmA0+-, \n").length ≤ sizeLine then (atI (tl (Str.ofString "oabcdefghijklmA0+-, \n")) (k : Int)).map fun c => PyData.str ⟨#[c]⟩ else none) = _
  rw [hl, if_pos (small1m (by decide)), at1]
  rfl
theorem run_l_spoiled {n : Nat} {p : List Rope} (hp : PlanOk p) (hl : p.length ≤ 12) (hne : p ≠ []) (way cell other : Int) (hw0 : 0 ≤ way) (hw1 : way < 10) :
    ∃ t, b_l_spoiled n [.fz (.str (textS p)), .fz (.int way), .fz (.int cell), .fz (.int other), .un, .un, .un, .un, .un, .un] = .rt (.str t) ∧ TextOk t := by
  have nms := ok_nums hp hl
  have wb := words_back hne nms
  have hT := textS_len p
  have tlow : Low (textS p) := fun c hc => by
    unfold textS at hc
    rw [join_eq, tl_join, tl_comma] at hc
    rcases joinL_mem _ _ _ hc with hc | ⟨w, hw, hc⟩
    · rcases List.mem_cons.mp hc with rfl | hc
      · decide
      · rw [List.mem_singleton.mp hc]; decide
    · obtain ⟨x, hx, rfl⟩ := List.mem_map.mp hw
      obtain ⟨r, hr, rfl⟩ := List.mem_map.mp hx
      exact (wordS_free (nms r hr) c hc).2.2
  have hwords : Words (p.map wordS) := fun w hw => by
    obtain ⟨r, hr, rfl⟩ := List.mem_map.mp hw
    exact ⟨by have := wordS_len r; omega, fun c hc => (wordS_free (nms r hr) c hc).2.2⟩
  have hwl : (p.map wordS).length = p.length := List.length_map _
  have hpos : 0 < p.length := List.length_pos_iff.mpr hne
  generalize textS p = T at *
  generalize p.map wordS = ws at *
  have sp : ∀ s1 s2 s3 s4 s5 s6 s7 s8 s9 : Sl, oSplit (eVar 0) (eC (.str (Str.ofString ", "))) [.fz (.str T), s1, s2, s3, s4, s5, s6, s7, s8, s9] = some (ws.map PyData.str) := fun s1 s2 s3 s4 s5 s6 s7 s8 s9 => by
    rw [a_split]
    show (if ((commaS.length == 0) = false ∧ T.length ≤ 1000000) then some ((Txt.split T commaS).map PyData.str) else none) = _
    rw [if_pos ⟨rfl, by omega⟩, wb]
  have lT : dLen (.str T) = some (.int T.length) := by
    show (if T.length ≤ 1000000 then some (PyData.int T.length) else none) = _
    rw [if_pos (by omega)]
  have m21 : dMod (.int other) (.int 21) = some (.int (other % 21)) := mod_p (by decide)
  obtain ⟨c, hc, sg⟩ := signs_ok (other % 21) (Int.emod_nonneg _ (by decide)) (Int.emod_lt_of_pos _ (by decide))
  have mat : dMod (.int cell) (.int ((T.length : Int) + 1)) = some (.int (cell % ((T.length : Int) + 1))) := mod_p (by omega)
  have msp : dMod (.int cell) (.int (ws.length : Int)) = some (.int (cell % (ws.length : Int))) := mod_p (by omega)
  have s0 : 0 ≤ cell % (ws.length : Int) := Int.emod_nonneg _ (by omega)
  have s1 : cell % (ws.length : Int) < (ws.length : Int) := Int.emod_lt_of_pos _ (by omega)
  generalize cell % ((T.length : Int) + 1) = at1 at mat
  obtain ⟨sn, esn⟩ := Int.eq_ofNat_of_zero_le s0
  rw [esn] at msp s1
  have hsn : sn < ws.length := by omega
  have ixw : dIx (.list (ws.map .str)) (.int (sn : Int)) = some (.str ws[sn]) := atI_nat' (by rw [List.getElem?_map, List.getElem?_eq_getElem hsn] <;> rfl)
  have hwn := hwords ws[sn] (List.getElem_mem hsn)
  have sgl : Low ⟨#[c]⟩ := fun d hd => by rw [List.mem_singleton.mp hd]; exact hc
  have cl : ∀ lo hi, (cutS T lo hi).length ≤ 60 ∧ Low (cutS T lo hi) := fun lo hi => ⟨by have := cutS_length T lo hi; omega, cut_low tlow lo hi⟩
  have cw : ∀ lo hi, (cutS ws[sn] lo hi).length ≤ 9 ∧ Low (cutS ws[sn] lo hi) := fun lo hi => ⟨by have := cutS_length ws[sn] lo hi; omega, cut_low hwn.2 lo hi⟩
  have tT : T.length ≤ 1000000 := by omega
  have tw : ws[sn].length ≤ 1000000 := by omega
  -- the words joined
  have fin' : ∀ (vs : List Str), (∀ v ∈ vs, v.length ≤ 27 ∧ Low v) → vs.length ≤ 32 → ∀ s0 s1 s2 s3 s4 s5 s6 s8 s9 : Sl, ∃ t, sRet (eJoin (eC (.str (Str.ofString ", "))) (eSeq 7)) [s0, s1, s2, s3, s4, s5, s6, .ow (vs.map .str), s8, s9] = .rt (.str t) ∧ TextOk t := by
    intro vs hv hvl s0 s1 s2 s3 s4 s5 s6 s8 s9
    obtain ⟨j1, j2, j3⟩ := join_low (L := 27) hv
    have j4 : vs.length * (27 + 2) ≤ 928 := by omega
    refine ⟨Txt.join commaS vs, ?_, by omega, j1⟩
    have so := strsOf_map vs
    simp only [a_nil, a_seq, a_if, a_ret, a_set, a_setO, a_sfrz, a_frz, a_mut, a_for, a_bin, a_seqv, a_var, a_c, a_un, a_tup, a_evs0, a_evs1, a_call, a_gs, a_gw, a_gnil, a_tof, a_tand, a_tor, a_tnot, a_and, a_or, a_not, a_eif, a_neg, a_lstD, a_rg1, a_rg2, a_ilst, a_itpl, a_olst, a_cat, a_ttrue, dAdd_int, dSub_int, dLt_int, dLe_int, dGt_int, dGe_int, dEq_int, dNe_int, dEq_bool, dNe_bool, dIs_non, dIsNot_non, isN_none, isN_int, isN_tup, isN_lst, dLen_list, dLen_t2, mo_0, mo_1, beq_self_eq_true, dAbs_int, ix_t0, ix_t1, isi_tt, isi_ib, isi_ii, isi_bb, isi_ll, isi_ss, mod_2, div_2, mul_two, Option.bind_some, Option.map_some, Option.some.injEq, List.getElem?_cons_zero, List.getElem?_cons_succ, List.set_cons_zero, List.set_cons_succ, List.cons_append, List.nil_append, List.replicate_zero, List.replicate_succ, List.append_nil, Bool.not_true, Bool.not_false, decide_true, decide_false, if_true, if_false, a_late, a_nopl, a_setX, a_tryN, a_tryL, a_setT, a_clr, a_ibr, a_iow, a_join, so]
    rw [if_pos (by show _ + vs.length * commaS.length ≤ 1000000; omega)]
    rfl
  have fin := fun (vs : List Str) (hv : Words vs) (hvl : vs.length ≤ 32) => fin' vs (fun v h => ⟨by have := (hv v h).1; omega, (hv v h).2⟩) hvl
  unfold b_l_spoiled
  have hcase : way = 0 ∨ way = 1 ∨ way = 2 ∨ way = 3 ∨ way = 4 ∨ way = 5 ∨ way = 6 ∨ way = 7 ∨ way = 8 ∨ way = 9 := by omega
  rcases hcase with rfl | rfl | rfl | rfl | rfl | rfl | rfl | rfl | rfl | rfl
  · obtain ⟨t, f1, f2⟩ := fin ws hwords (by omega) (.fz (.str T)) (.fz (.int 0)) (.fz (.int cell)) (.fz (.int other)) (.fz (.str (Str.ofString "oabcdefghijklmA0+-, \n"))) (.fz (.str ⟨#[c]⟩)) (.fz (.int at1)) (.fz (.int (sn : Int))) .un
    refine ⟨t, ?_, f2⟩
    generalize sRet (eJoin (eC (.str (Str.ofString ", "))) (eSeq 7)) = R at f1 ⊢
    simp only [a_nil, a_seq, a_if, a_ret, a_set, a_setO, a_sfrz, a_frz, a_mut, a_for, a_bin, a_seqv, a_var, a_c, a_un, a_tup, a_evs0, a_evs1, a_call, a_gs, a_gw, a_gnil, a_tof, a_tand, a_tor, a_tnot, a_and, a_or, a_not, a_eif, a_neg, a_lstD, a_rg1, a_rg2, a_ilst, a_itpl, a_olst, a_cat, a_ttrue, dAdd_int, dSub_int, dLt_int, dLe_int, dGt_int, dGe_int, dEq_int, dNe_int, dEq_bool, dNe_bool, dIs_non, dIsNot_non, isN_none, isN_int, isN_tup, isN_lst, dLen_list, dLen_t2, mo_0, mo_1, beq_self_eq_true, dAbs_int, ix_t0, ix_t1, isi_tt, isi_ib, isi_ii, isi_bb, isi_ll, isi_ss, mod_2, div_2, mul_two, Option.bind_some, Option.map_some, Option.some.injEq, List.getElem?_cons_zero, List.getElem?_cons_succ, List.set_cons_zero, List.set_cons_succ, List.cons_append, List.nil_append, List.replicate_zero, List.replicate_succ, List.append_nil, Bool.not_true, Bool.not_false, decide_true, decide_false, if_true, if_false, a_late, a_nopl, a_setX, a_tryN, a_tryL, a_setT, a_clr, a_ibr, a_iow, sg, m21, lT, mat, sp, msp, List.length_map, show (((0 : Int)) == 1) = false from rfl, show (((0 : Int)) == 2) = false from rfl, show (((0 : Int)) == 3) = false from rfl, show (((0 : Int)) == 4) = false from rfl, show (((0 : Int)) == 5) = false from rfl, show (((0 : Int)) == 6) = false from rfl, show (((0 : Int)) == 7) = false from rfl, f1]
  · have c1 := cl none (some at1)
    have c2 := cl (some at1) none
    have one : (⟨#[c]⟩ : Str).length = 1 := rfl
    have d1 := add_str (x := cutS T none (some at1)) (y := ⟨#[c]⟩) (by omega)
    have d2 := add_str (x := cutS T none (some at1) ++ ⟨#[c]⟩) (y := cutS T (some at1) none) (by rw [app_len]; omega)
    refine ⟨cutS T none (some at1) ++ ⟨#[c]⟩ ++ cutS T (some at1) none, ?_, by rw [app_len, app_len]; omega, app_low (app_low c1.2 sgl) c2.2⟩
    simp only [a_nil, a_seq, a_if, a_ret, a_set, a_setO, a_sfrz, a_frz, a_mut, a_for, a_bin, a_seqv, a_var, a_c, a_un, a_tup, a_evs0, a_evs1, a_call, a_gs, a_gw, a_gnil, a_tof, a_tand, a_tor, a_tnot, a_and, a_or, a_not, a_eif, a_neg, a_lstD, a_rg1, a_rg2, a_ilst, a_itpl, a_olst, a_cat, a_ttrue, dAdd_int, dSub_int, dLt_int, dLe_int, dGt_int, dGe_int, dEq_int, dNe_int, dEq_bool, dNe_bool, dIs_non, dIsNot_non, isN_none, isN_int, isN_tup, isN_lst, dLen_list, dLen_t2, mo_0, mo_1, beq_self_eq_true, dAbs_int, ix_t0, ix_t1, isi_tt, isi_ib, isi_ii, isi_bb, isi_ll, isi_ss, mod_2, div_2, mul_two, Option.bind_some, Option.map_some, Option.some.injEq, List.getElem?_cons_zero, List.getElem?_cons_succ, List.set_cons_zero, List.set_cons_succ, List.cons_append, List.nil_append, List.replicate_zero, List.replicate_succ, List.append_nil, Bool.not_true, Bool.not_false, decide_true, decide_false, if_true, if_false, a_late, a_nopl, a_setX, a_tryN, a_tryL, a_setT, a_clr, a_ibr, a_iow, sg, m21, lT, mat, sp, msp, List.length_map, show (((1 : Int)) == 1) = true from rfl, show (((1 : Int)) == 2) = false from rfl, show (((1 : Int)) == 3) = false from rfl, show (((1 : Int)) == 4) = false from rfl, show (((1 : Int)) == 5) = false from rfl, show (((1 : Int)) == 6) = false from rfl, show (((1 : Int)) == 7) = false from rfl, a_sl, a_pn, a_ps, tT, d1, d2]
  · have c1 := cl none (some at1)
    have c2 := cl (some (at1 + 1)) none
    have one : (⟨#[c]⟩ : Str).length = 1 := rfl
    have d1 := add_str (x := cutS T none (some at1)) (y := ⟨#[c]⟩) (by omega)
    have d2 := add_str (x := cutS T none (some at1) ++ ⟨#[c]⟩) (y := cutS T (some (at1 + 1)) none) (by rw [app_len]; omega)
    refine ⟨cutS T none (some at1) ++ ⟨#[c]⟩ ++ cutS T (some (at1 + 1)) none, ?_, by rw [app_len, app_len]; omega, app_low (app_low c1.2 sgl) c2.2⟩
    simp only [a_nil, a_seq, a_if, a_ret, a_set, a_setO, a_sfrz, a_frz, a_mut, a_for, a_bin, a_seqv, a_var, a_c, a_un, a_tup, a_evs0, a_evs1, a_call, a_gs, a_gw, a_gnil, a_tof, a_tand, a_tor, a_tnot, a_and, a_or, a_not, a_eif, a_neg, a_lstD, a_rg1, a_rg2, a_ilst, a_itpl, a_olst, a_cat, a_ttrue, dAdd_int, dSub_int, dLt_int, dLe_int, dGt_int, dGe_int, dEq_int, dNe_int, dEq_bool, dNe_bool, dIs_non, dIsNot_non, isN_none, isN_int, isN_tup, isN_lst, dLen_list, dLen_t2, mo_0, mo_1, beq_self_eq_true, dAbs_int, ix_t0, ix_t1, isi_tt, isi_ib, isi_ii, isi_bb, isi_ll, isi_ss, mod_2, div_2, mul_two, Option.bind_some, Option.map_some, Option.some.injEq, List.getElem?_cons_zero, List.getElem?_cons_succ, List.set_cons_zero, List.set_cons_succ, List.cons_append, List.nil_append, List.replicate_zero, List.replicate_succ, List.append_nil, Bool.not_true, Bool.not_false, decide_true, decide_false, if_true, if_false, a_late, a_nopl, a_setX, a_tryN, a_tryL, a_setT, a_clr, a_ibr, a_iow, sg, m21, lT, mat, sp, msp, List.length_map, show (((2 : Int)) == 1) = false from rfl, show (((2 : Int)) == 2) = true from rfl, show (((2 : Int)) == 3) = false from rfl, show (((2 : Int)) == 4) = false from rfl, show (((2 : Int)) == 5) = false from rfl, show (((2 : Int)) == 6) = false from rfl, show (((2 : Int)) == 7) = false from rfl, a_sl, a_pn, a_ps, tT, d1, d2]
  · have c1 := cl none (some at1)
    have c2 := cl (some (at1 + 1)) none
    have d1 := add_str (x := cutS T none (some at1)) (y := cutS T (some (at1 + 1)) none) (by omega)
    refine ⟨cutS T none (some at1) ++ cutS T (some (at1 + 1)) none, ?_, by rw [app_len]; omega, app_low c1.2 c2.2⟩
    simp only [a_nil, a_seq, a_if, a_ret, a_set, a_setO, a_sfrz, a_frz, a_mut, a_for, a_bin, a_seqv, a_var, a_c, a_un, a_tup, a_evs0, a_evs1, a_call, a_gs, a_gw, a_gnil, a_tof, a_tand, a_tor, a_tnot, a_and, a_or, a_not, a_eif, a_neg, a_lstD, a_rg1, a_rg2, a_ilst, a_itpl, a_olst, a_cat, a_ttrue, dAdd_int, dSub_int, dLt_int, dLe_int, dGt_int, dGe_int, dEq_int, dNe_int, dEq_bool, dNe_bool, dIs_non, dIsNot_non, isN_none, isN_int, isN_tup, isN_lst, dLen_list, dLen_t2, mo_0, mo_1, beq_self_eq_true, dAbs_int, ix_t0, ix_t1, isi_tt, isi_ib, isi_ii, isi_bb, isi_ll, isi_ss, mod_2, div_2, mul_two, Option.bind_some, Option.map_some, Option.some.injEq, List.getElem?_cons_zero, List.getElem?_cons_succ, List.set_cons_zero, List.set_cons_succ, List.cons_append, List.nil_append, List.replicate_zero, List.replicate_succ, List.append_nil, Bool.not_true, Bool.not_false, decide_true, decide_false, if_true, if_false, a_late, a_nopl, a_setX, a_tryN, a_tryL, a_setT, a_clr, a_ibr, a_iow, sg, m21, lT, mat, sp, msp, List.length_map, show (((3 : Int)) == 1) = false from rfl, show (((3 : Int)) == 2) = false from rfl, show (((3 : Int)) == 3) = true from rfl, show (((3 : Int)) == 4) = false from rfl, show (((3 : Int)) == 5) = false from rfl, show (((3 : Int)) == 6) = false from rfl, show (((3 : Int)) == 7) = false from rfl, a_sl, a_pn, a_ps, tT, d1]
  · have c1 := cw (some 2) none
    have c2 := cw (some 1) (some 2)
    have c3 := cw none (some 1)
    have d1 := add_str (x := cutS ws[sn] (some 2) none) (y := cutS ws[sn] (some 1) (some 2)) (by omega)
    have d2 := add_str (x := cutS ws[sn] (some 2) none ++ cutS ws[sn] (some 1) (some 2)) (y := cutS ws[sn] none (some 1)) (by rw [app_len]; omega)
    have hb : (cutS ws[sn] (some 2) none ++ cutS ws[sn] (some 1) (some 2) ++ cutS ws[sn] none (some 1)).length ≤ 27 := by rw [app_len, app_len]; omega
    have hbl : Low (cutS ws[sn] (some 2) none ++ cutS ws[sn] (some 1) (some 2) ++ cutS ws[sn] none (some 1)) := app_low (app_low c1.2 c2.2) c3.2
    generalize cutS ws[sn] (some 2) none ++ cutS ws[sn] (some 1) (some 2) ++ cutS ws[sn] none (some 1) = nw at d2 hb hbl
    have ixn : ixN ws.length (sn : Int) = some sn := by
      unfold ixN
      rw [if_pos (by omega), if_pos (by omega), Int.toNat_natCast]
    have hset : (ws.map PyData.str).set sn (.str nw) = (ws.set sn nw).map .str := by rw [List.map_set]
    obtain ⟨t, f1, f2⟩ := fin' (ws.set sn nw) (fun v hv => by
      rcases List.mem_or_eq_of_mem_set hv with h | h
      · exact ⟨by have := (hwords v h).1; omega, (hwords v h).2⟩
      · rw [h]; exact ⟨by omega, hbl⟩) (by rw [List.length_set]; omega) (.fz (.str T)) (.fz (.int 4)) (.fz (.int cell)) (.fz (.int other)) (.fz (.str (Str.ofString "oabcdefghijklmA0+-, \n"))) (.fz (.str ⟨#[c]⟩)) (.fz (.int at1)) (.fz (.int (sn : Int))) .un
    refine ⟨t, ?_, f2⟩
    generalize sRet (eJoin (eC (.str (Str.ofString ", "))) (eSeq 7)) = R at f1 ⊢
    simp only [a_nil, a_seq, a_if, a_ret, a_set, a_setO, a_sfrz, a_frz, a_mut, a_for, a_bin, a_seqv, a_var, a_c, a_un, a_tup, a_evs0, a_evs1, a_call, a_gs, a_gw, a_gnil, a_tof, a_tand, a_tor, a_tnot, a_and, a_or, a_not, a_eif, a_neg, a_lstD, a_rg1, a_rg2, a_ilst, a_itpl, a_olst, a_cat, a_ttrue, dAdd_int, dSub_int, dLt_int, dLe_int, dGt_int, dGe_int, dEq_int, dNe_int, dEq_bool, dNe_bool, dIs_non, dIsNot_non, isN_none, isN_int, isN_tup, isN_lst, dLen_list, dLen_t2, mo_0, mo_1, beq_self_eq_true, dAbs_int, ix_t0, ix_t1, isi_tt, isi_ib, isi_ii, isi_bb, isi_ll, isi_ss, mod_2, div_2, mul_two, Option.bind_some, Option.map_some, Option.some.injEq, List.getElem?_cons_zero, List.getElem?_cons_succ, List.set_cons_zero, List.set_cons_succ, List.cons_append, List.nil_append, List.replicate_zero, List.replicate_succ, List.append_nil, Bool.not_true, Bool.not_false, decide_true, decide_false, if_true, if_false, a_late, a_nopl, a_setX, a_tryN, a_tryL, a_setT, a_clr, a_ibr, a_iow, sg, m21, lT, mat, sp, msp, List.length_map, show (((4 : Int)) == 1) = false from rfl, show (((4 : Int)) == 2) = false from rfl, show (((4 : Int)) == 3) = false from rfl, show (((4 : Int)) == 4) = true from rfl, show (((4 : Int)) == 5) = false from rfl, show (((4 : Int)) == 6) = false from rfl, show (((4 : Int)) == 7) = false from rfl, a_put, ixw, a_sl, a_pn, a_ps, tw, d1, d2, ixn, hset, f1]
  · obtain ⟨v1, e1, l1, h1⟩ := cutD_strs ws none (some (sn : Int))
    obtain ⟨v2, e2, l2, h2⟩ := cutD_strs ws (some (sn : Int)) none
    have ev : v1.map PyData.str ++ [.str ws[sn], .str ws[sn]] ++ v2.map .str = (v1 ++ [ws[sn], ws[sn]] ++ v2).map .str := by rw [List.map_append, List.map_append]; rfl
    have k1 : (v1.map PyData.str).length + [PyData.str ws[sn], PyData.str ws[sn]].length ≤ 1000000 := by rw [List.length_map]; simp; omega
    have k2 : (v1.map PyData.str ++ [PyData.str ws[sn], PyData.str ws[sn]]).length + (v2.map PyData.str).length ≤ 1000000 := by rw [List.length_append, List.length_map, List.length_map]; simp; omega
    obtain ⟨t, f1, f2⟩ := fin (v1 ++ [ws[sn], ws[sn]] ++ v2) (fun v hv => by
      rcases List.mem_append.mp hv with hv | hv
      · rcases List.mem_append.mp hv with hv | hv
        · exact hwords v (h1 v hv)
        · rcases List.mem_cons.mp hv with rfl | hv
          · exact hwn
          · rw [List.mem_singleton.mp hv]; exact hwn
      · exact hwords v (h2 v hv)) (by rw [List.length_append, List.length_append]; simp; omega) (.fz (.str T)) (.fz (.int 5)) (.fz (.int cell)) (.fz (.int other)) (.fz (.str (Str.ofString "oabcdefghijklmA0+-, \n"))) (.fz (.str ⟨#[c]⟩)) (.fz (.int at1)) (.fz (.int (sn : Int))) .un
    rw [← ev] at f1
    refine ⟨t, ?_, f2⟩
    generalize sRet (eJoin (eC (.str (Str.ofString ", "))) (eSeq 7)) = R at f1 ⊢
    have oc : ∀ fr : Nat → SFn, oCat (lstD (oCat (lstD (oSl (eSeq 7) pNone (pSome (eVar 8)))) (lstD (evs [(eBin dIx (eSeq 7) (eSeq 8)), (eBin dIx (eSeq 7) (eSeq 8))])))) (lstD (oSl (eSeq 7) (pSome (eVar 8)) pNone)) [.fz (.str T), .fz (.int 5), .fz (.int cell), .fz (.int other), .fz (.str (Str.ofString "oabcdefghijklmA0+-, \n")), .fz (.str ⟨#[c]⟩), .fz (.int at1), .ow (ws.map .str), .fz (.int (sn : Int)), .un] = some (v1.map PyData.str ++ [.str ws[sn], .str ws[sn]] ++ v2.map .str) := fun _ => by
      simp only [a_cat, a_lstD, a_osl, a_seqv, a_pn, a_ps, a_var, a_evs1, a_evs0, a_bin, List.getElem?_cons_zero, List.getElem?_cons_succ, Option.bind_some, Option.map_some, e1, e2, ixw]
      rw [if_pos k1]
      simp only [Option.map_some]
      rw [if_pos k2]
    have oc := oc (fun _ => sNil)
    generalize oCat (lstD (oCat (lstD (oSl (eSeq 7) pNone (pSome (eVar 8)))) (lstD (evs [(eBin dIx (eSeq 7) (eSeq 8)), (eBin dIx (eSeq 7) (eSeq 8))])))) (lstD (oSl (eSeq 7) (pSome (eVar 8)) pNone)) = OC at oc ⊢
    simp only [a_nil, a_seq, a_if, a_ret, a_set, a_setO, a_sfrz, a_frz, a_mut, a_for, a_bin, a_seqv, a_var, a_c, a_un, a_tup, a_evs0, a_evs1, a_call, a_gs, a_gw, a_gnil, a_tof, a_tand, a_tor, a_tnot, a_and, a_or, a_not, a_eif, a_neg, a_lstD, a_rg1, a_rg2, a_ilst, a_itpl, a_olst, a_cat, a_ttrue, dAdd_int, dSub_int, dLt_int, dLe_int, dGt_int, dGe_int, dEq_int, dNe_int, dEq_bool, dNe_bool, dIs_non, dIsNot_non, isN_none, isN_int, isN_tup, isN_lst, dLen_list, dLen_t2, mo_0, mo_1, beq_self_eq_true, dAbs_int, ix_t0, ix_t1, isi_tt, isi_ib, isi_ii, isi_bb, isi_ll, isi_ss, mod_2, div_2, mul_two, Option.bind_some, Option.map_some, Option.some.injEq, List.getElem?_cons_zero, List.getElem?_cons_succ, List.set_cons_zero, List.set_cons_succ, List.cons_append, List.nil_append, List.replicate_zero, List.replicate_succ, List.append_nil, Bool.not_true, Bool.not_false, decide_true, decide_false, if_true, if_false, a_late, a_nopl, a_setX, a_tryN, a_tryL, a_setT, a_clr, a_ibr, a_iow, sg, m21, lT, mat, sp, msp, List.length_map, show (((5 : Int)) == 1) = false from rfl, show (((5 : Int)) == 2) = false from rfl, show (((5 : Int)) == 3) = false from rfl, show (((5 : Int)) == 4) = false from rfl, show (((5 : Int)) == 5) = true from rfl, show (((5 : Int)) == 6) = false from rfl, show (((5 : Int)) == 7) = false from rfl, oc, f1]
  · have m2 : dMod (.int other) (.int 2) = some (.int (other % 2)) := mod_2 _
    have z0 : 0 ≤ other % 2 := Int.emod_nonneg _ (by decide)
    have z1 : other % 2 < 2 := Int.emod_lt_of_pos _ (by decide)
    obtain ⟨q, eq, hq⟩ : ∃ q : Nat, (13 - (ws.length : Int) + other % 2) = (q : Int) ∧ q ≤ 14 := ⟨(13 - (ws.length : Int) + other % 2).toNat, by omega, by omega⟩
    have rk' : rngOk (q : Int) = true := rngOk_iff.mpr (by omega)
    have cmp : ∀ s : List Sl, compL 9 tTrue (eC (.str (Str.ofString "o"))) s (rngD 0 q) = some ((List.replicate q (Str.ofString "o")).map .str) := fun s => by
      have h := comp_rng (ρ := s) (fe := eC (.str (Str.ofString "o"))) (i := 9) ((List.replicate q (Str.ofString "o")).map .str) 0 (fun j d hd => by
        have hm := List.mem_of_getElem? hd
        obtain ⟨x, hx, rfl⟩ := List.mem_map.mp hm
        rw [(List.mem_replicate.mp hx).2]
        rfl)
      rw [List.length_map, List.length_replicate] at h
      exact h
    have k2 : ws.length + q ≤ 1000000 := by omega
    obtain ⟨t, f1, f2⟩ := fin (ws ++ List.replicate q (Str.ofString "o")) (fun v hv => by
      rcases List.mem_append.mp hv with hv | hv
      · exact hwords v hv
      · rw [(List.mem_replicate.mp hv).2]; exact ⟨by decide, by show ∀ c ∈ [111], c < 256; decide⟩) (by rw [List.length_append, List.length_replicate]; omega) (.fz (.str T)) (.fz (.int 6)) (.fz (.int cell)) (.fz (.int other)) (.fz (.str (Str.ofString "oabcdefghijklmA0+-, \n"))) (.fz (.str ⟨#[c]⟩)) (.fz (.int at1)) (.fz (.int (sn : Int))) .un
    rw [List.map_append] at f1
    refine ⟨t, ?_, f2⟩
    generalize sRet (eJoin (eC (.str (Str.ofString ", "))) (eSeq 7)) = R at f1 ⊢
    have oc : oCat (eVar 7) (lstD (oComp 9 (iRg1 (eBin dAdd (eBin dSub (eC (.int 13)) (eUn dLen (eSeq 7))) (eBin dMod (eSeq 3) (eC (.int 2))))) tTrue (eC (.str (Str.ofString "o"))))) [.fz (.str T), .fz (.int 6), .fz (.int cell), .fz (.int other), .fz (.str (Str.ofString "oabcdefghijklmA0+-, \n")), .fz (.str ⟨#[c]⟩), .fz (.int at1), .fz (.list (ws.map .str)), .fz (.int (sn : Int)), .un] = some (ws.map PyData.str ++ (List.replicate q (Str.ofString "o")).map .str) := by
      have e1 : iRg1 (eBin dAdd (eBin dSub (eC (.int 13)) (eUn dLen (eSeq 7))) (eBin dMod (eSeq 3) (eC (.int 2)))) [.fz (.str T), .fz (.int 6), .fz (.int cell), .fz (.int other), .fz (.str (Str.ofString "oabcdefghijklmA0+-, \n")), .fz (.str ⟨#[c]⟩), .fz (.int at1), .fz (.list (ws.map .str)), .fz (.int (sn : Int)), .un] = some (rngD 0 q) := by
        simp only [a_rg1, a_seqv, a_bin, a_un, a_c, List.getElem?_cons_zero, List.getElem?_cons_succ, Option.bind_some, dLen_list, List.length_map, dSub_int, m2, dAdd_int, eq, rk', if_true, Int.toNat_natCast]
      have cpx : oComp 9 (iRg1 (eBin dAdd (eBin dSub (eC (.int 13)) (eUn dLen (eSeq 7))) (eBin dMod (eSeq 3) (eC (.int 2))))) tTrue (eC (.str (Str.ofString "o"))) [.fz (.str T), .fz (.int 6), .fz (.int cell), .fz (.int other), .fz (.str (Str.ofString "oabcdefghijklmA0+-, \n")), .fz (.str ⟨#[c]⟩), .fz (.int at1), .fz (.list (ws.map .str)), .fz (.int (sn : Int)), .un] = some ((List.replicate q (Str.ofString "o")).map .str) := by
        rw [a_comp, e1]
        show (if (rngD 0 q).length ≤ 1000000 then _ else _) = _
        rw [rngD_len, if_pos (show q ≤ 1000000 by omega)]
        exact cmp _
      simp only [a_cat, a_lstD, a_var, List.getElem?_cons_zero, List.getElem?_cons_succ, cpx, Option.map_some, List.length_map, List.length_replicate]
      rw [if_pos k2]
    generalize oCat (eVar 7) (lstD (oComp 9 (iRg1 (eBin dAdd (eBin dSub (eC (.int 13)) (eUn dLen (eSeq 7))) (eBin dMod (eSeq 3) (eC (.int 2))))) tTrue (eC (.str (Str.ofString "o"))))) = OC at oc ⊢
    simp only [a_nil, a_seq, a_if, a_ret, a_set, a_setO, a_sfrz, a_frz, a_mut, a_for, a_bin, a_seqv, a_var, a_c, a_un, a_tup, a_evs0, a_evs1, a_call, a_gs, a_gw, a_gnil, a_tof, a_tand, a_tor, a_tnot, a_and, a_or, a_not, a_eif, a_neg, a_lstD, a_rg1, a_rg2, a_ilst, a_itpl, a_olst, a_cat, a_ttrue, dAdd_int, dSub_int, dLt_int, dLe_int, dGt_int, dGe_int, dEq_int, dNe_int, dEq_bool, dNe_bool, dIs_non, dIsNot_non, isN_none, isN_int, isN_tup, isN_lst, dLen_list, dLen_t2, mo_0, mo_1, beq_self_eq_true, dAbs_int, ix_t0, ix_t1, isi_tt, isi_ib, isi_ii, isi_bb, isi_ll, isi_ss, mod_2, div_2, mul_two, Option.bind_some, Option.map_some, Option.some.injEq, List.getElem?_cons_zero, List.getElem?_cons_succ, List.set_cons_zero, List.set_cons_succ, List.cons_append, List.nil_append, List.replicate_zero, List.replicate_succ, List.append_nil, Bool.not_true, Bool.not_false, decide_true, decide_false, if_true, if_false, a_late, a_nopl, a_setX, a_tryN, a_tryL, a_setT, a_clr, a_ibr, a_iow, sg, m21, lT, mat, sp, msp, List.length_map, show (((6 : Int)) == 1) = false from rfl, show (((6 : Int)) == 2) = false from rfl, show (((6 : Int)) == 3) = false from rfl, show (((6 : Int)) == 4) = false from rfl, show (((6 : Int)) == 5) = false from rfl, show (((6 : Int)) == 6) = true from rfl, show (((6 : Int)) == 7) = false from rfl, oc, f1]
  · refine ⟨Str.ofString "", ?_, by show (0 : Nat) ≤ 1000; decide, fun d hd => by cases hd⟩
    simp only [a_nil, a_seq, a_if, a_ret, a_set, a_setO, a_sfrz, a_frz, a_mut, a_for, a_bin, a_seqv, a_var, a_c, a_un, a_tup, a_evs0, a_evs1, a_call, a_gs, a_gw, a_gnil, a_tof, a_tand, a_tor, a_tnot, a_and, a_or, a_not, a_eif, a_neg, a_lstD, a_rg1, a_rg2, a_ilst, a_itpl, a_olst, a_cat, a_ttrue, dAdd_int, dSub_int, dLt_int, dLe_int, dGt_int, dGe_int, dEq_int, dNe_int, dEq_bool, dNe_bool, dIs_non, dIsNot_non, isN_none, isN_int, isN_tup, isN_lst, dLen_list, dLen_t2, mo_0, mo_1, beq_self_eq_true, dAbs_int, ix_t0, ix_t1, isi_tt, isi_ib, isi_ii, isi_bb, isi_ll, isi_ss, mod_2, div_2, mul_two, Option.bind_some, Option.map_some, Option.some.injEq, List.getElem?_cons_zero, List.getElem?_cons_succ, List.set_cons_zero, List.set_cons_succ, List.cons_append, List.nil_append, List.replicate_zero, List.replicate_succ, List.append_nil, Bool.not_true, Bool.not_false, decide_true, decide_false, if_true, if_false, a_late, a_nopl, a_setX, a_tryN, a_tryL, a_setT, a_clr, a_ibr, a_iow, sg, m21, lT, mat, sp, msp, List.length_map, show (((7 : Int)) == 1) = false from rfl, show (((7 : Int)) == 2) = false from rfl, show (((7 : Int)) == 3) = false from rfl, show (((7 : Int)) == 4) = false from rfl, show (((7 : Int)) == 5) = false from rfl, show (((7 : Int)) == 6) = false from rfl, show (((7 : Int)) == 7) = true from rfl]
  · obtain ⟨t, f1, f2⟩ := fin ws hwords (by omega) (.fz (.str T)) (.fz (.int 8)) (.fz (.int cell)) (.fz (.int other)) (.fz (.str (Str.ofString "oabcdefghijklmA0+-, \n"))) (.fz (.str ⟨#[c]⟩)) (.fz (.int at1)) (.fz (.int (sn : Int))) .un
    refine ⟨t, ?_, f2⟩
    generalize sRet (eJoin (eC (.str (Str.ofString ", "))) (eSeq 7)) = R at f1 ⊢
    simp only [a_nil, a_seq, a_if, a_ret, a_set, a_setO, a_sfrz, a_frz, a_mut, a_for, a_bin, a_seqv, a_var, a_c, a_un, a_tup, a_evs0, a_evs1, a_call, a_gs, a_gw, a_gnil, a_tof, a_tand, a_tor, a_tnot, a_and, a_or, a_not, a_eif, a_neg, a_lstD, a_rg1, a_rg2, a_ilst, a_itpl, a_olst, a_cat, a_ttrue, dAdd_int, dSub_int, dLt_int, dLe_int, dGt_int, dGe_int, dEq_int, dNe_int, dEq_bool, dNe_bool, dIs_non, dIsNot_non, isN_none, isN_int, isN_tup, isN_lst, dLen_list, dLen_t2, mo_0, mo_1, beq_self_eq_true, dAbs_int, ix_t0, ix_t1, isi_tt, isi_ib, isi_ii, isi_bb, isi_ll, isi_ss, mod_2, div_2, mul_two, Option.bind_some, Option.map_some, Option.some.injEq, List.getElem?_cons_zero, List.getElem?_cons_succ, List.set_cons_zero, List.set_cons_succ, List.cons_append, List.nil_append, List.replicate_zero, List.replicate_succ, List.append_nil, Bool.not_true, Bool.not_false, decide_true, decide_false, if_true, if_false, a_late, a_nopl, a_setX, a_tryN, a_tryL, a_setT, a_clr, a_ibr, a_iow, sg, m21, lT, mat, sp, msp, List.length_map, show (((8 : Int)) == 1) = false from rfl, show (((8 : Int)) == 2) = false from rfl, show (((8 : Int)) == 3) = false from rfl, show (((8 : Int)) == 4) = false from rfl, show (((8 : Int)) == 5) = false from rfl, show (((8 : Int)) == 6) = false from rfl, show (((8 : Int)) == 7) = false from rfl, f1]
  · obtain ⟨t, f1, f2⟩ := fin ws hwords (by omega) (.fz (.str T)) (.fz (.int 9)) (.fz (.int cell)) (.fz (.int other)) (.fz (.str (Str.ofString "oabcdefghijklmA0+-, \n"))) (.fz (.str ⟨#[c]⟩)) (.fz (.int at1)) (.fz (.int (sn : Int))) .un
    refine ⟨t, ?_, f2⟩
    generalize sRet (eJoin (eC (.str (Str.ofString ", "))) (eSeq 7)) = R at f1 ⊢
    simp only [a_nil, a_seq, a_if, a_ret, a_set, a_setO, a_sfrz, a_frz, a_mut, a_for, a_bin, a_seqv, a_var, a_c, a_un, a_tup, a_evs0, a_evs1, a_call, a_gs, a_gw, a_gnil, a_tof, a_tand, a_tor, a_tnot, a_and, a_or, a_not, a_eif, a_neg, a_lstD, a_rg1, a_rg2, a_ilst, a_itpl, a_olst, a_cat, a_ttrue, dAdd_int, dSub_int, dLt_int, dLe_int, dGt_int, dGe_int, dEq_int, dNe_int, dEq_bool, dNe_bool, dIs_non, dIsNot_non, isN_none, isN_int, isN_tup, isN_lst, dLen_list, dLen_t2, mo_0, mo_1, beq_self_eq_true, dAbs_int, ix_t0, ix_t1, isi_tt, isi_ib, isi_ii, isi_bb, isi_ll, isi_ss, mod_2, div_2, mul_two, Option.bind_some, Option.map_some, Option.some.injEq, List.getElem?_cons_zero, List.getElem?_cons_succ, List.set_cons_zero, List.set_cons_succ, List.cons_append, List.nil_append, List.replicate_zero, List.replicate_succ, List.append_nil, Bool.not_true, Bool.not_false, decide_true, decide_false, if_true, if_false, a_late, a_nopl, a_setX, a_tryN, a_tryL, a_setT, a_clr, a_ibr, a_iow, sg, m21, lT, mat, sp, msp, List.length_map, show (((9 : Int)) == 1) = false from rfl, show (((9 : Int)) == 2) = false from rfl, show (((9 : Int)) == 3) = false from rfl, show (((9 : Int)) == 4) = false from rfl, show (((9 : Int)) == 5) = false from rfl, show (((9 : Int)) == 6) = false from rfl, show (((9 : Int)) == 7) = false from rfl, f1]
end L2.RC

namespace L2.RC
open PySem PySem.Spec PyProof.Rows TL
theorem a_tryP {i j : Nat} {s1 s2 : Str} {b : SFn} {m : Nat} {fg : LFn} {ρ : DEnv} : sTryP i j s1 s2 b m fg ρ = (match fg ρ, ρ[j]? with
  | some ss, some .un => (match b (ss ++ List.replicate m .un) with
    | .rt d => .nx (ρ.set i (.fz (.tuple [.str s1, d])))
    | .rs .noplan => .nx (ρ.set i (.fz (.tuple [.str s2, .bool true])))
    | _ => .no)
  | _, _ => .no) := rfl
theorem law_true (ns : List Int) (h : ns.length ≤ 63) : ∃ n, b_law n (Sl.br (ns.map .int) :: List.replicate (N_law.length - 1) .un) = .rt (.bool true) := by
  refine ⟨1000, ?_⟩
  have c0 : b_l_cell_at 1000 [.br (ns.map .int), .fz (.int 0)] = .rt (.int (cell ns 0)) := run_l_cell_at ns 0
  have c1 : b_l_cell_at 1000 [.br (ns.map .int), .fz (.int 1)] = .rt (.int (cell ns 1)) := run_l_cell_at ns 1
  have c2 : b_l_cell_at 1000 [.br (ns.map .int), .fz (.int 2)] = .rt (.int (cell ns 2)) := run_l_cell_at ns 2
  have c3 : b_l_cell_at 1000 [.br (ns.map .int), .fz (.int 3)] = .rt (.int (cell ns 3)) := run_l_cell_at ns 3
  have m12 : dMod (.int (cell ns 0)) (.int 12) = some (.int (cell ns 0 % 12)) := mod_p (by decide)
  have m10 : dMod (.int (cell ns 1)) (.int 10) = some (.int (cell ns 1 % 10)) := mod_p (by decide)
  have q0 : 0 ≤ cell ns 0 % 12 := Int.emod_nonneg _ (by decide)
  have q1 : cell ns 0 % 12 < 12 := Int.emod_lt_of_pos _ (by decide)
  obtain ⟨m, hm0, hm, em⟩ : ∃ m : Nat, 0 < m ∧ m ≤ 12 ∧ 1 + cell ns 0 % 12 = (m : Int) := ⟨(1 + cell ns 0 % 12).toNat, by omega, by omega, by omega⟩
  have pl : b_l_plan 1000 [.br (ns.map .int), .fz (.int 4), .fz (.int (1 + cell ns 0 % 12)), .un, .un, .un, .un] = .rt (.list (planD (drawnPlan ns 4 0 m))) := by
    rw [em]; exact run_l_plan ns 4 m (by omega)
  have hl := drawnPlan_len ns 4 m 0
  have ok := drawnPlan_ok ns 4 m
  generalize drawnPlan ns 4 0 m = p at pl hl ok
  have hpl : p.length ≤ 12 := by omega
  have hne : p ≠ [] := fun z => by rw [z] at hl; simp at hl; omega
  have ls := run_l_shown (n := 1000) ok hpl
  obtain ⟨t, st, tk⟩ := run_l_spoiled (n := 1000) ok hpl hne (cell ns 1 % 10) (cell ns 2) (cell ns 3) (Int.emod_nonneg _ (by decide)) (Int.emod_lt_of_pos _ (by decide))
  obtain ⟨tl1, tl2⟩ := tk
  have du := run_l_due (n := 1000) (t := t) (by omega) tl2
  have rd := run_read (n := 1000) (t := t) (by omega) (fun w hw => ⟨by have := (low_words tl2 hw).1; omega, fun x hx => ((low_marks (low_words tl2 hw).2 hx).2).ok⟩)
  show b_law 1000 [.br (ns.map .int), .un, .un, .un, .un, .un] = _
  cases hq : readV (Txt.split t commaS) 0 with
  | none =>
    rw [hq] at du rd
    dsimp only at du rd
    have tt : b_l_told 1000 [.fz (.str t), .un, .un] = .rt (.tuple [.str (Str.ofString "refused"), .bool true]) := by
      unfold b_l_told
      simp only [a_nil, a_seq, a_if, a_ret, a_set, a_setO, a_sfrz, a_frz, a_mut, a_for, a_bin, a_seqv, a_var, a_c, a_un, a_tup, a_evs0, a_evs1, a_call, a_gs, a_gw, a_gnil, a_tof, a_tand, a_tor, a_tnot, a_and, a_or, a_not, a_eif, a_neg, a_lstD, a_rg1, a_rg2, a_ilst, a_itpl, a_olst, a_cat, a_ttrue, dAdd_int, dSub_int, dLt_int, dLe_int, dGt_int, dGe_int, dEq_int, dNe_int, dEq_bool, dNe_bool, dIs_non, dIsNot_non, isN_none, isN_int, isN_tup, isN_lst, dLen_list, dLen_t2, mo_0, mo_1, beq_self_eq_true, dAbs_int, ix_t0, ix_t1, isi_tt, isi_ib, isi_ii, isi_bb, isi_ll, isi_ss, mod_2, div_2, mul_two, Option.bind_some, Option.map_some, Option.some.injEq, List.getElem?_cons_zero, List.getElem?_cons_succ, List.set_cons_zero, List.set_cons_succ, List.cons_append, List.nil_append, List.replicate_zero, List.replicate_succ, List.append_nil, Bool.not_true, Bool.not_false, decide_true, decide_false, if_true, if_false, a_late, a_nopl, a_setX, a_tryN, a_tryL, a_setT, a_clr, a_ibr, a_iow, a_tryP, rd]
    have te : dEq (.tuple [.str (Str.ofString "refused"), .bool true]) (.tuple [.str (Str.ofString "refused"), .bool true]) = some (.bool true) := dEq_self (flat_tuple (n := 0) fun d h => by
      rcases List.mem_cons.mp h with rfl | h
      · exact flat_str
      · rw [List.mem_singleton.mp h]; exact ⟨rfl, Nat.le_refl _⟩)
    unfold b_law
    simp only [a_nil, a_seq, a_if, a_ret, a_set, a_setO, a_sfrz, a_frz, a_mut, a_for, a_bin, a_seqv, a_var, a_c, a_un, a_tup, a_evs0, a_evs1, a_call, a_gs, a_gw, a_gnil, a_tof, a_tand, a_tor, a_tnot, a_and, a_or, a_not, a_eif, a_neg, a_lstD, a_rg1, a_rg2, a_ilst, a_itpl, a_olst, a_cat, a_ttrue, dAdd_int, dSub_int, dLt_int, dLe_int, dGt_int, dGe_int, dEq_int, dNe_int, dEq_bool, dNe_bool, dIs_non, dIsNot_non, isN_none, isN_int, isN_tup, isN_lst, dLen_list, dLen_t2, mo_0, mo_1, beq_self_eq_true, dAbs_int, ix_t0, ix_t1, isi_tt, isi_ib, isi_ii, isi_bb, isi_ll, isi_ss, mod_2, div_2, mul_two, Option.bind_some, Option.map_some, Option.some.injEq, List.getElem?_cons_zero, List.getElem?_cons_succ, List.set_cons_zero, List.set_cons_succ, List.cons_append, List.nil_append, List.replicate_zero, List.replicate_succ, List.append_nil, Bool.not_true, Bool.not_false, decide_true, decide_false, if_true, if_false, a_late, a_nopl, a_setX, a_tryN, a_tryL, a_setT, a_clr, a_ibr, a_iow, c0, c1, c2, c3, m12, m10, pl, ls, st, du, tt, te]
  | some q =>
    rw [hq] at du rd
    dsimp only at du rd
    have tt : b_l_told 1000 [.fz (.str t), .un, .un] = .rt (.tuple [.str (Str.ofString "plan"), .list (planD q)]) := by
      unfold b_l_told
      simp only [a_nil, a_seq, a_if, a_ret, a_set, a_setO, a_sfrz, a_frz, a_mut, a_for, a_bin, a_seqv, a_var, a_c, a_un, a_tup, a_evs0, a_evs1, a_call, a_gs, a_gw, a_gnil, a_tof, a_tand, a_tor, a_tnot, a_and, a_or, a_not, a_eif, a_neg, a_lstD, a_rg1, a_rg2, a_ilst, a_itpl, a_olst, a_cat, a_ttrue, dAdd_int, dSub_int, dLt_int, dLe_int, dGt_int, dGe_int, dEq_int, dNe_int, dEq_bool, dNe_bool, dIs_non, dIsNot_non, isN_none, isN_int, isN_tup, isN_lst, dLen_list, dLen_t2, mo_0, mo_1, beq_self_eq_true, dAbs_int, ix_t0, ix_t1, isi_tt, isi_ib, isi_ii, isi_bb, isi_ll, isi_ss, mod_2, div_2, mul_two, Option.bind_some, Option.map_some, Option.some.injEq, List.getElem?_cons_zero, List.getElem?_cons_succ, List.set_cons_zero, List.set_cons_succ, List.cons_append, List.nil_append, List.replicate_zero, List.replicate_succ, List.append_nil, Bool.not_true, Bool.not_false, decide_true, decide_false, if_true, if_false, a_late, a_nopl, a_setX, a_tryN, a_tryL, a_setT, a_clr, a_ibr, a_iow, a_tryP, rd]
    have te : dEq (.tuple [.str (Str.ofString "plan"), .list (planD q)]) (.tuple [.str (Str.ofString "plan"), .list (planD q)]) = some (.bool true) := dEq_self (flat_tuple (n := 2) fun d h => by
      rcases List.mem_cons.mp h with rfl | h
      · exact Flat.up flat_str (by decide)
      · rw [List.mem_singleton.mp h]; exact flat_plan q)
    unfold b_law
    simp only [a_nil, a_seq, a_if, a_ret, a_set, a_setO, a_sfrz, a_frz, a_mut, a_for, a_bin, a_seqv, a_var, a_c, a_un, a_tup, a_evs0, a_evs1, a_call, a_gs, a_gw, a_gnil, a_tof, a_tand, a_tor, a_tnot, a_and, a_or, a_not, a_eif, a_neg, a_lstD, a_rg1, a_rg2, a_ilst, a_itpl, a_olst, a_cat, a_ttrue, dAdd_int, dSub_int, dLt_int, dLe_int, dGt_int, dGe_int, dEq_int, dNe_int, dEq_bool, dNe_bool, dIs_non, dIsNot_non, isN_none, isN_int, isN_tup, isN_lst, dLen_list, dLen_t2, mo_0, mo_1, beq_self_eq_true, dAbs_int, ix_t0, ix_t1, isi_tt, isi_ib, isi_ii, isi_bb, isi_ll, isi_ss, mod_2, div_2, mul_two, Option.bind_some, Option.map_some, Option.some.injEq, List.getElem?_cons_zero, List.getElem?_cons_succ, List.set_cons_zero, List.set_cons_succ, List.cons_append, List.nil_append, List.replicate_zero, List.replicate_succ, List.append_nil, Bool.not_true, Bool.not_false, decide_true, decide_false, if_true, if_false, a_late, a_nopl, a_setX, a_tryN, a_tryL, a_setT, a_clr, a_ibr, a_iow, c0, c1, c2, c3, m12, m10, pl, ls, st, du, tt, te]
end L2.RC

namespace L2.RC
open PySem PySem.Spec PyProof.Rows
/-- the law's promise: True -/
def spLaw (K : PySem.W.Frag) : Sp := fun vs H Q _ => ∃ (a : Addr) (ns : List Int), vs = [.ref a] ∧ SqL K H a (ns.map V.int) ∧ ns.length ≤ 63 ∧ ∀ H', Q (.bl true) H'
theorem all_mk {l : PySem.W.OpenLaw} {w : World} {K : PySem.W.Frag} {h : Heap} {mg : Str → Option Value} {fa : Addr} (X : K.In h) (G : h.Ns mainGlobals mg) (hfa : mg "law" = some (.ref fa))
    {f1 : Addr} {od1 an1 : Option Addr} {sl1 : Array (Option Value)} {oc1 kV1 dc1 pm1 cd1 ct1 : Value}
    {f2 : Addr} {od2 an2 : Option Addr} {sl2 : Array (Option Value)} {oc2 kV2 dc2 pm2 cd2 ct2 : Value}
    {f3 : Addr} {od3 an3 : Option Addr} {sl3 : Array (Option Value)} {oc3 kV3 dc3 pm3 cd3 ct3 : Value}
    {f4 : Addr} {od4 an4 : Option Addr} {sl4 : Array (Option Value)} {oc4 kV4 dc4 pm4 cd4 ct4 : Value}
    {f5 : Addr} {od5 an5 : Option Addr} {sl5 : Array (Option Value)} {oc5 kV5 dc5 pm5 cd5 ct5 : Value}
    {f6 : Addr} {od6 an6 : Option Addr} {sl6 : Array (Option Value)} {oc6 kV6 dc6 pm6 cd6 ct6 : Value}
    {f7 : Addr} {od7 an7 : Option Addr} {sl7 : Array (Option Value)} {oc7 kV7 dc7 pm7 cd7 ct7 : Value}
    {f8 : Addr} {od8 an8 : Option Addr} {sl8 : Array (Option Value)} {oc8 kV8 dc8 pm8 cd8 ct8 : Value}
    {f9 : Addr} {od9 an9 : Option Addr} {sl9 : Array (Option Value)} {oc9 kV9 dc9 pm9 cd9 ct9 : Value}
    {f10 : Addr} {od10 an10 : Option Addr} {sl10 : Array (Option Value)} {oc10 kV10 dc10 pm10 cd10 ct10 : Value}
    {f11 : Addr} {od11 an11 : Option Addr} {sl11 : Array (Option Value)} {oc11 kV11 dc11 pm11 cd11 ct11 : Value}
    {CR : Addr}
    {CLa fI : Addr} {nmL qL : Str} {NL : Addr} {bsL : List Value} {snL : List Str} {subL : List Value} {abL : Bool} {colL : Option Bool} {ddL : Option Addr} {m0 m1 m2 m3 m5 : Option Value} {odL anL : Option Addr} {slL : Array (Option Value)} {ocL dcL pmL cdL ctL : Value}
    {CNa : Addr}
    {lettersT : Tok}
    (a1 : PySem.W.nsIn K mainGlobals "number_of" = some (some (.ref f1))) (l1 : K.lookup f1 = some ⟨oc1, od1, .func (PySem.W.fnOf "number_of" "number_of" (defArgs (topS 6)) (defBody (topS 6)) (defScope (topS 6)) .none kV1 dc1 pm1 an1 cd1 ct1), sl1⟩) (c1 : PySem.W.codeIn K cd1 "number_of" = true) (k1 : PySem.W.keepIn K (.ref f1) = true)
    (a2 : PySem.W.nsIn K mainGlobals "read" = some (some (.ref f2))) (l2 : K.lookup f2 = some ⟨oc2, od2, .func (PySem.W.fnOf "read" "read" (defArgs (topS 7)) (defBody (topS 7)) (defScope (topS 7)) .none kV2 dc2 pm2 an2 cd2 ct2), sl2⟩) (c2 : PySem.W.codeIn K cd2 "read" = true) (k2 : PySem.W.keepIn K (.ref f2) = true)
    (a3 : PySem.W.nsIn K mainGlobals "_law_cell_at" = some (some (.ref f3))) (l3 : K.lookup f3 = some ⟨oc3, od3, .func (PySem.W.fnOf "_law_cell_at" "_law_cell_at" (defArgs (topS 9)) (defBody (topS 9)) (defScope (topS 9)) .none kV3 dc3 pm3 an3 cd3 ct3), sl3⟩) (c3 : PySem.W.codeIn K cd3 "_law_cell_at" = true) (k3 : PySem.W.keepIn K (.ref f3) = true)
    (a4 : PySem.W.nsIn K mainGlobals "_law_plan" = some (some (.ref f4))) (l4 : K.lookup f4 = some ⟨oc4, od4, .func (PySem.W.fnOf "_law_plan" "_law_plan" (defArgs (topS 10)) (defBody (topS 10)) (defScope (topS 10)) .none kV4 dc4 pm4 an4 cd4 ct4), sl4⟩) (c4 : PySem.W.codeIn K cd4 "_law_plan" = true) (k4 : PySem.W.keepIn K (.ref f4) = true)
    (a5 : PySem.W.nsIn K mainGlobals "_law_mark" = some (some (.ref f5))) (l5 : K.lookup f5 = some ⟨oc5, od5, .func (PySem.W.fnOf "_law_mark" "_law_mark" (defArgs (topS 11)) (defBody (topS 11)) (defScope (topS 11)) .none kV5 dc5 pm5 an5 cd5 ct5), sl5⟩) (c5 : PySem.W.codeIn K cd5 "_law_mark" = true) (k5 : PySem.W.keepIn K (.ref f5) = true)
    (a6 : PySem.W.nsIn K mainGlobals "_law_shown" = some (some (.ref f6))) (l6 : K.lookup f6 = some ⟨oc6, od6, .func (PySem.W.fnOf "_law_shown" "_law_shown" (defArgs (topS 12)) (defBody (topS 12)) (defScope (topS 12)) .none kV6 dc6 pm6 an6 cd6 ct6), sl6⟩) (c6 : PySem.W.codeIn K cd6 "_law_shown" = true) (k6 : PySem.W.keepIn K (.ref f6) = true)
    (a7 : PySem.W.nsIn K mainGlobals "_law_spoiled" = some (some (.ref f7))) (l7 : K.lookup f7 = some ⟨oc7, od7, .func (PySem.W.fnOf "_law_spoiled" "_law_spoiled" (defArgs (topS 13)) (defBody (topS 13)) (defScope (topS 13)) .none kV7 dc7 pm7 an7 cd7 ct7), sl7⟩) (c7 : PySem.W.codeIn K cd7 "_law_spoiled" = true) (k7 : PySem.W.keepIn K (.ref f7) = true)
    (a8 : PySem.W.nsIn K mainGlobals "_law_number" = some (some (.ref f8))) (l8 : K.lookup f8 = some ⟨oc8, od8, .func (PySem.W.fnOf "_law_number" "_law_number" (defArgs (topS 14)) (defBody (topS 14)) (defScope (topS 14)) .none kV8 dc8 pm8 an8 cd8 ct8), sl8⟩) (c8 : PySem.W.codeIn K cd8 "_law_number" = true) (k8 : PySem.W.keepIn K (.ref f8) = true)
    (a9 : PySem.W.nsIn K mainGlobals "_law_due" = some (some (.ref f9))) (l9 : K.lookup f9 = some ⟨oc9, od9, .func (PySem.W.fnOf "_law_due" "_law_due" (defArgs (topS 15)) (defBody (topS 15)) (defScope (topS 15)) .none kV9 dc9 pm9 an9 cd9 ct9), sl9⟩) (c9 : PySem.W.codeIn K cd9 "_law_due" = true) (k9 : PySem.W.keepIn K (.ref f9) = true)
    (a10 : PySem.W.nsIn K mainGlobals "_law_told" = some (some (.ref f10))) (l10 : K.lookup f10 = some ⟨oc10, od10, .func (PySem.W.fnOf "_law_told" "_law_told" (defArgs (topS 16)) (defBody (topS 16)) (defScope (topS 16)) .none kV10 dc10 pm10 an10 cd10 ct10), sl10⟩) (c10 : PySem.W.codeIn K cd10 "_law_told" = true) (k10 : PySem.W.keepIn K (.ref f10) = true)
    (a11 : PySem.W.nsIn K mainGlobals "law" = some (some (.ref f11))) (l11 : K.lookup f11 = some ⟨oc11, od11, .func (PySem.W.fnOf "law" "law" (defArgs (topS 17)) (defBody (topS 17)) (defScope (topS 17)) .none kV11 dc11 pm11 an11 cd11 ct11), sl11⟩) (c11 : PySem.W.codeIn K cd11 "law" = true) (k11 : PySem.W.keepIn K (.ref f11) = true)
    (z1 : PySem.W.nsIn K mainGlobals "ValueError" = some none)
    (z2 : PySem.W.nsIn K mainGlobals "isinstance" = some none)
    (z3 : PySem.W.nsIn K mainGlobals "len" = some none)
    (z4 : PySem.W.nsIn K mainGlobals "range" = some none)
    (aL : PySem.W.nsIn K mainGlobals "Late" = some (some (.ref CLa)))
    (xL : K.lookup CLa = some (excClassObj nmL qL CLa NL bsL [.ref CR, .type "ValueError", .type "Exception", .type "BaseException", .type "object"] true snL subL abL colL ddL m0 m1 m2 m3 m5 "ValueError.__new__"))
    (saL : PySem.W.findIn K (.ref CLa) "__setattr__" = some (some (.builtin "object.__setattr__")))
    (gaL : PySem.W.findIn K (.ref CLa) "__getattribute__" = some (some (.builtin "BaseException.__getattribute__")))
    (ggL : PySem.W.findIn K (.ref CLa) "__getattr__" = some none)
    (nbL : PySem.W.findIn K (.ref CLa) "rope" = some none)
    (inL : PySem.W.findIn K (.ref CLa) "__init__" = some (some (.ref fI)))
    (tfL : PySem.W.typeIn K (.ref fI) = some (.type "function"))
    (lfL : K.lookup fI = some ⟨ocL, odL, .func (PySem.W.fnOf "__init__" "Late.__init__" (PySem.LateX.iA ⟨8, 17, 8, 21⟩ ⟨8, 23, 8, 27⟩) (PySem.LateX.iB ⟨9, 8, 9, 12⟩ ⟨9, 8, 9, 17⟩ ⟨9, 20, 9, 24⟩ ⟨9, 8, 9, 24⟩) PySem.LateX.iS .none .none dcL pmL anL cdL ctL), slL⟩)
    (cfL : PySem.W.codeIn K cdL "Late.__init__" = true)
    (kL : PySem.W.keepIn K (.ref CLa) = true)
    (eL : PySem.W.subIn K (.ref CLa) (.type "BaseException") = some true)
    (tL : PySem.W.typeIn K (.ref CLa) = some (.type "type"))
    (hL : PySem.W.hasDictIn K CLa = true)
    (sL : PySem.W.subIn K (.ref CLa) (.ref CLa) = some true)
    (aN : PySem.W.nsIn K mainGlobals "NoPlan" = some (some (.ref CNa)))
    (xN : PySem.W.excIn K CNa [.type "ValueError", .type "Exception", .type "BaseException", .type "object"] "ValueError.__new__" = true)
    (kN : PySem.W.keepIn K (.ref CNa) = true)
    (eN : PySem.W.subIn K (.ref CNa) (.type "BaseException") = some true)
    (tN : PySem.W.typeIn K (.ref CNa) = some (.type "type"))
    (aR : PySem.W.nsIn K mainGlobals "RopeError" = some (some (.ref CR)))
    (eR : PySem.W.subIn K (.ref CR) (.type "BaseException") = some true)
    (hR : PySem.W.hasDictIn K CR = true)
    (tyR : PySem.W.typeIn K (.ref CR) = some (.type "type"))
    (sR : PySem.W.subIn K (.ref CNa) (.ref CR) = some true)
    (icE : PySem.W.isClsIn K CNa = true)
    (gaE : PySem.W.findIn K (.ref CNa) "__getattribute__" = some (some (.builtin "BaseException.__getattribute__")))
    (ggE : PySem.W.findIn K (.ref CNa) "__getattr__" = some none)
    (sE : PySem.W.subIn K (.ref CNa) (.ref CNa) = some true)
    (caE : PySem.W.findIn K (.ref CNa) "__class__" = some (some (.builtin "object.__class__")))
    (hnE : PySem.W.specialIn K (.builtin "object.__class__") "__get__" = some (some (.builtin "getset_descriptor.__get__")))
    (tkE : PySem.W.takesIn K (.builtin "object.__class__") = some true)
    (mrE : PySem.W.mroIn K CNa (.type "object") = some true)
    (svE : PySem.W.subIn K (.ref CNa) (.type "ValueError") = some true)
    (icO : PySem.W.isClsIn K CLa = true)
    (snE : PySem.W.subIn K (.ref CNa) (.ref CLa) = some false)
    (aT : PySem.W.nsIn K mainGlobals "LETTERS" = some (some (.str (Str.ofString "abcdefghijkl") lettersT))) :
    ∃ fd : FuncData, (∀ (s : Shared) (v : Value), BindsTo s fd ⟨[v], []⟩ [("script", v)]) ∧ ∀ base : Heap, K.In base → base.Ns mainGlobals mg → FnOk l.prog w K mg base CX0 6 fa fd ["script"] (spLaw K) := by
  have e := hfa.symm.trans (PySem.W.mg_of X G a11)
  cases e
  let T : Txt K mg := { CL := CLa, CN := CNa, f_number_of := f1, d_number_of := _, a_number_of := ⟨fun_mk (st := topS 6) l1 c1 k1, PySem.W.mg_of X G a1⟩, f_read := f2, d_read := _, a_read := ⟨fun_mk (st := topS 7) l2 c2 k2, PySem.W.mg_of X G a2⟩, f_l_cell_at := f3, d_l_cell_at := _, a_l_cell_at := ⟨fun_mk (st := topS 9) l3 c3 k3, PySem.W.mg_of X G a3⟩, f_l_plan := f4, d_l_plan := _, a_l_plan := ⟨fun_mk (st := topS 10) l4 c4 k4, PySem.W.mg_of X G a4⟩, f_l_mark := f5, d_l_mark := _, a_l_mark := ⟨fun_mk (st := topS 11) l5 c5 k5, PySem.W.mg_of X G a5⟩, f_l_shown := f6, d_l_shown := _, a_l_shown := ⟨fun_mk (st := topS 12) l6 c6 k6, PySem.W.mg_of X G a6⟩, f_l_spoiled := f7, d_l_spoiled := _, a_l_spoiled := ⟨fun_mk (st := topS 13) l7 c7 k7, PySem.W.mg_of X G a7⟩, f_l_number := f8, d_l_number := _, a_l_number := ⟨fun_mk (st := topS 14) l8 c8 k8, PySem.W.mg_of X G a8⟩, f_l_due := f9, d_l_due := _, a_l_due := ⟨fun_mk (st := topS 15) l9 c9 k9, PySem.W.mg_of X G a9⟩, f_l_told := f10, d_l_told := _, a_l_told := ⟨fun_mk (st := topS 16) l10 c10 k10, PySem.W.mg_of X G a10⟩, f_law := fa, d_law := _, a_law := ⟨fun_mk (st := topS 17) l11 c11 k11, PySem.W.mg_of X G a11⟩, z_ValueError := PySem.W.mg_none_of X G z1, z_isinstance := PySem.W.mg_none_of X G z2, z_len := PySem.W.mg_none_of X G z3, z_range := PySem.W.mg_none_of X G z4, fI := fI, late := { gC := PySem.W.mg_of X G aL, cls := ⟨nmL, qL, NL, bsL, _, snL, subL, abL, colL, ddL, m0, m1, m2, m3, m5, xL, by first | rfl | decide +kernel⟩, sa := saL, ga := gaL, gg := ggL, noN := nbL, iC := inL, tC := tfL, kC := kL, exC := eL, tyC := tL, hdC := hL, te := PySem.W.exm_ref eL hL tL sL, fn := ⟨_, _, _, _, _, _, _, _, _, _, _, _, _, _, lfL, cfL⟩ }, noplan := ⟨PySem.W.mg_of X G aN, xN, kN, eN, tN⟩, gL := PySem.W.mg_of X G aL, CR := CR, excN := ⟨icE, gaE, ggE, eN, caE, hnE, tkE, mrE⟩, gR := PySem.W.mg_of X G aR, tR := PySem.W.exm_ref eR hR tyR sR, oL := kit_self, oV := kit_ty2 svE, oN := kit_not icO tL snE sE, letters_t := lettersT, letters := PySem.W.mg_of X G aT }
  refine ⟨_, fun s v => .of_eq rfl, fun base _ _ => (ok_law T).imp fun vs H Q E q => ?_⟩
  obtain ⟨a, ns, rfl, hS, hl, q⟩ := q
  exact law_sp hS (law_true ns hl) q
end L2.RC
open PySem PySem.W PyProof.Rows
set_option maxHeartbeats 0 in
theorem PySem.Challenge.cw_ropeclock_k10_texts_read_holds : PySem.Challenge.rw_ropeclock_k10_texts_read.Holds := by
  w_on; o_law; k_head; (case hw => w_witness2)
  k_fill
  refine L2.walk_of (l := PySem.Challenge.rw_ropeclock_k10_texts_read) (n := 63) (k := 6) (x := "script") (CX := fun _ => L2.CX0) (sp := fun w => L2.RC.spLaw _) rfl (by decide) rfl ⟨rfl, by decide, by decide⟩ (fun w h Y => PySem.W.kIn_of Y) ?F (fun _ _ a ns hl _ hS => ⟨a, ns, rfl, hS, hl, fun _ => rfl⟩) (fun _ _ _ _ _ h => h)
  case F =>
    intro w mg fa h KX G hmg
    refine' L2.RC.all_mk KX G hmg ?a1 ?l1 ?c1 ?k1 ?a2 ?l2 ?c2 ?k2 ?a3 ?l3 ?c3 ?k3 ?a4 ?l4 ?c4 ?k4 ?a5 ?l5 ?c5 ?k5 ?a6 ?l6 ?c6 ?k6 ?a7 ?l7 ?c7 ?k7 ?a8 ?l8 ?c8 ?k8 ?a9 ?l9 ?c9 ?k9 ?a10 ?l10 ?c10 ?k10 ?a11 ?l11 ?c11 ?k11 ?z1 ?z2 ?z3 ?z4 ?aL ?xL ?saL ?gaL ?ggL ?nbL ?inL ?tfL ?lfL ?cfL ?kL ?eL ?tL ?hL ?sL ?aN ?xN ?kN ?eN ?tN ?aR ?eR ?hR ?tyR ?sR ?icE ?gaE ?ggE ?sE ?caE ?hnE ?tkE ?mrE ?svE ?icO ?snE ?aT
    (case a1 => k_is); (case l1 => k_is); (case c1 => k_is); (case k1 => k_is); (case a2 => k_is); (case l2 => k_is); (case c2 => k_is); (case k2 => k_is)
    (case a3 => k_is); (case l3 => k_is); (case c3 => k_is); (case k3 => k_is); (case a4 => k_is); (case l4 => k_is); (case c4 => k_is); (case k4 => k_is)
    (case a5 => k_is); (case l5 => k_is); (case c5 => k_is); (case k5 => k_is); (case a6 => k_is); (case l6 => k_is); (case c6 => k_is); (case k6 => k_is)
    (case a7 => k_is); (case l7 => k_is); (case c7 => k_is); (case k7 => k_is); (case a8 => k_is); (case l8 => k_is); (case c8 => k_is); (case k8 => k_is)
    (case a9 => k_is); (case l9 => k_is); (case c9 => k_is); (case k9 => k_is); (case a10 => k_is); (case l10 => k_is); (case c10 => k_is); (case k10 => k_is)
    (case a11 => k_is); (case l11 => k_is); (case c11 => k_is); (case k11 => k_is); (case z1 => k_is); (case z2 => k_is); (case z3 => k_is); (case z4 => k_is)
    (case aL => k_is); (case xL => k_is); (case saL => k_is); (case gaL => k_is); (case ggL => k_is); (case nbL => k_is); (case inL => k_is); (case tfL => k_is)
    (case lfL => k_is); (case cfL => k_is); (case kL => k_is); (case eL => k_is); (case tL => k_is); (case hL => k_is); (case sL => k_is); (case aN => k_is)
    (case xN => k_exc); (case kN => k_is); (case eN => k_is); (case tN => k_is); (case aR => k_is); (case eR => k_is); (case hR => k_is); (case tyR => k_is)
    (case sR => k_is); (case icE => k_is); (case gaE => k_is); (case ggE => k_is); (case sE => k_is); (case caE => k_is); (case hnE => k_is); (case tkE => k_is)
    (case mrE => k_is); (case svE => k_is); (case icO => k_is); (case snE => k_is); (case aT => k_is)

