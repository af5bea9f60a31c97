import PyProof.Rows.All
import Wide.All
import OpenK.AllK
import Wide.FinOn
import PyProof.EqAt
import PyProof.EqKinds
import PyProof.TupleCall
import HandS.ForMost
import HandS.ForExc
import HandS.IsInst
import HandS.More
import HandS.Deep
import HandS.Flow
import HandS.Strs
import PySem.Challenge.RW_ropeclock_k01_times_reckoned
set_option Elab.async false
set_option linter.all false
set_option maxRecDepth 100000
set_option maxHeartbeats 4000000
namespace L2.RC
open PySem PySem.Spec PyProof.Rows

/-! ### data in the tracked heap -/
mutual
inductive Rp (K : PySem.W.Frag) (F : Hp) : V → PyData → Prop
  | non : Rp K F .non .none
  | bl (b : Bool) : Rp K F (.bl b) (.bool b)
  | int (i : Int) : Rp K F (.int i) (.int i)
  | str (x : Str) : Rp K F (.str x) (.str x)
  | lst {a : Addr} {xs : List V} {ds : List PyData} : F a = some (.lst xs) → RpAll K F xs ds → Rp K F (.ref a) (.list ds)
  | tup {a : Addr} {xs : List V} {ds : List PyData} : SqT K F a xs → RpAll K F xs ds → Rp K F (.ref a) (.tuple ds)
inductive RpAll (K : PySem.W.Frag) (F : Hp) : List V → List PyData → Prop
  | nil : RpAll K F [] []
  | cons {v : V} {vs : List V} {d : PyData} {ds : List PyData} : Rp K F v d → RpAll K F vs ds → RpAll K F (v :: vs) (d :: ds)
end
theorem seqT_same {K : PySem.W.Frag} {H H' : Hp} {a : Addr} {xs : List V} (e : Same H H') (h : SqT K H a xs) : SqT K H' a xs := by
  rcases h with (h | ⟨o, h⟩) | h
  · exact .inl (.inl (e _ _ h))
  · exact .inl (.inr ⟨o, e _ _ h⟩)
  · exact .inr h
section
variable {K : PySem.W.Frag} {F F' H H' : Hp}
mutual
theorem Rp.mono (s : Same F F') : ∀ (d : PyData) (v : V), Rp K F v d → Rp K F' v d
  | .none, _, h => by cases h; exact .non
  | .bool b, _, h => by cases h; exact .bl b
  | .int i, _, h => by cases h; exact .int i
  | .str x, _, h => by cases h; exact .str x
  | .list ds, _, h => by
    cases h with
    | lst h1 h2 => exact .lst (s _ _ h1) (RpAll.mono s ds _ h2)
  | .tuple ds, _, h => by
    cases h with
    | tup h1 h2 => exact .tup (seqT_same s h1) (RpAll.mono s ds _ h2)
  | .dict _, _, h => by cases h
theorem RpAll.mono (s : Same F F') : ∀ (ds : List PyData) (vs : List V), RpAll K F vs ds → RpAll K F' vs ds
  | [], _, h => by cases h; exact .nil
  | d :: ds, _, h => by
    cases h with
    | cons h1 h2 => exact .cons (Rp.mono s d _ h1) (RpAll.mono s ds _ h2)
end
mutual
theorem Rp.dp (s : Same F H) : ∀ (d : PyData) (v : V), Rp K F v d → Dp K H v d
  | .none, _, h => by cases h; exact .non
  | .bool b, _, h => by cases h; exact .bl b
  | .int i, _, h => by cases h; exact .int i
  | .str x, _, h => by cases h; exact .str x
  | .list ds, _, h => by
    cases h with
    | lst h1 h2 => exact .lst (SqL.of (s _ _ h1)) (RpAll.dp s ds _ h2)
  | .tuple ds, _, h => by
    cases h with
    | tup h1 h2 => exact .tup (seqT_same s h1) (RpAll.dp s ds _ h2)
  | .dict _, _, h => by cases h
theorem RpAll.dp (s : Same F H) : ∀ (ds : List PyData) (vs : List V), RpAll K F vs ds → DpAll K H vs ds
  | [], _, h => by cases h; exact .nil
  | d :: ds, _, h => by
    cases h with
    | cons h1 h2 => exact .cons (Rp.dp s d _ h1) (RpAll.dp s ds _ h2)
end
theorem RpAll.length : ∀ {vs : List V} {ds : List PyData}, RpAll K F vs ds → vs.length = ds.length
  | _, _, .nil => rfl
  | _, _, .cons _ t => congrArg (· + 1) (RpAll.length t)
theorem RpAll.get : ∀ {vs : List V} {ds : List PyData} {i : Nat} {d : PyData}, RpAll K F vs ds → ds[i]? = some d → ∃ v, vs[i]? = some v ∧ Rp K F v d
  | _, _, _, _, .nil, e => by simp at e
  | _, _, 0, _, .cons r _, e => by simp at e; subst e; exact ⟨_, rfl, r⟩
  | _, _, i + 1, d, .cons _ t, e => by
    obtain ⟨v, h1, h2⟩ := RpAll.get (i := i) (d := d) t (by simpa using e)
    exact ⟨v, by simpa using h1, h2⟩
theorem RpAll.getV : ∀ {vs : List V} {ds : List PyData} {i : Nat} {v : V}, RpAll K F vs ds → vs[i]? = some v → ∃ d, ds[i]? = some d ∧ Rp K F v d
  | _, _, _, _, .nil, e => by simp at e
  | _, _, 0, _, .cons r _, e => by simp at e; subst e; exact ⟨_, rfl, r⟩
  | _, _, i + 1, v, .cons _ t, e => by
    obtain ⟨d, h1, h2⟩ := RpAll.getV (i := i) (v := v) t (by simpa using e)
    exact ⟨d, by simpa using h1, h2⟩
theorem RpAll.append : ∀ {vs ws : List V} {ds es : List PyData}, RpAll K F vs ds → RpAll K F ws es → RpAll K F (vs ++ ws) (ds ++ es)
  | _, _, _, _, .nil, h => h
  | _, _, _, _, .cons r t, h => .cons r (RpAll.append t h)
theorem RpAll.take : ∀ {vs : List V} {ds : List PyData} (n : Nat), RpAll K F vs ds → RpAll K F (vs.take n) (ds.take n)
  | _, _, 0, _ => .nil
  | _, _, _ + 1, .nil => .nil
  | _, _, n + 1, .cons r t => .cons r (RpAll.take n t)
theorem RpAll.drop : ∀ {vs : List V} {ds : List PyData} (n : Nat), RpAll K F vs ds → RpAll K F (vs.drop n) (ds.drop n)
  | _, _, 0, h => h
  | _, _, _ + 1, .nil => .nil
  | _, _, n + 1, .cons _ t => RpAll.drop n t
theorem RpAll.set : ∀ {vs : List V} {ds : List PyData} {v : V} {d : PyData} (n : Nat), RpAll K F vs ds → Rp K F v d → RpAll K F (vs.set n v) (ds.set n d)
  | _, _, _, _, _, .nil, _ => .nil
  | _, _, _, _, 0, .cons _ t, r => .cons r t
  | _, _, _, _, n + 1, .cons q t, r => .cons q (RpAll.set n t r)
theorem RpAll.ints : ∀ {vs : List V} {ns : List Int}, RpAll K F vs (ns.map PyData.int) → vs = ns.map V.int
  | _, [], h => by cases h; rfl
  | _, n :: ns, h => by
    cases h with
    | cons h1 h2 => cases h1; exact congrArg _ (RpAll.ints h2)
theorem rpAll_ints : ∀ (ns : List Int), RpAll K F (ns.map V.int) (ns.map PyData.int)
  | [] => .nil
  | n :: ns => .cons (.int n) (rpAll_ints ns)
theorem RpAll.strs : ∀ {vs : List V} {ns : List Str}, RpAll K F vs (ns.map PyData.str) → vs = ns.map V.str
  | _, [], h => by cases h; rfl
  | _, n :: ns, h => by
    cases h with
    | cons h1 h2 => cases h1; exact congrArg _ (RpAll.strs h2)
theorem rpAll_strs : ∀ (ns : List Str), RpAll K F (ns.map V.str) (ns.map PyData.str)
  | [] => .nil
  | n :: ns => .cons (.str n) (rpAll_strs ns)
theorem RpAll.bls : ∀ {vs : List V} {ns : List Bool}, RpAll K F vs (ns.map PyData.bool) → vs = ns.map V.bl
  | _, [], h => by cases h; rfl
  | _, n :: ns, h => by
    cases h with
    | cons h1 h2 => cases h1; exact congrArg _ (RpAll.bls h2)
end

/-! ### growth -/
structure Grow (F H F' H' : Hp) : Prop where
  hh : Same H H'
  ff : Same F F'
  fh : Same F' H'
  ag : ∀ a o, H a = some o → F' a = F a
theorem Grow.refl {F H : Hp} (s : Same F H) : Grow F H F H := ⟨.refl _, .refl _, s, fun _ _ _ => rfl⟩
theorem Grow.trans {F H F1 H1 F2 H2 : Hp} (a : Grow F H F1 H1) (b : Grow F1 H1 F2 H2) : Grow F H F2 H2 :=
  ⟨a.hh.trans b.hh, a.ff.trans b.ff, b.fh, fun c o h => (b.ag c o (a.hh c o h)).trans (a.ag c o h)⟩
theorem same_upd {H : Hp} {p : Addr} {o : HO} (h : H p = none) : Same H (upd H p o) := fun b x e => by
  rw [upd_ne (ne_of_none e h)]
  exact e
theorem none_of {F H : Hp} {p : Addr} (s : Same F H) (h : H p = none) : F p = none := s.free h
/-- a new frozen object -/
theorem Grow.froz {F H : Hp} {p : Addr} {o : HO} (s : Same F H) (h : H p = none) : Grow F H (upd F p o) (upd H p o) :=
  ⟨same_upd h, same_upd (none_of s h), fun b x e => by
    by_cases hb : b = p
    · subst hb; rw [upd_same] at e ⊢; exact e
    · rw [upd_ne hb] at e ⊢; exact s _ _ e, fun a x e => by rw [upd_ne (ne_of_none e h)]⟩
/-- a new object that is not frozen -/
theorem Grow.own {F H : Hp} {p : Addr} {o : HO} (s : Same F H) (h : H p = none) : Grow F H F (upd H p o) :=
  ⟨same_upd h, .refl _, s.trans (same_upd h), fun _ _ _ => rfl⟩

/-! ### the slots of a def as data -/
inductive Sl where
  | un
  | fz (d : PyData)
  | ow (ds : List PyData)
  | br (ds : List PyData)
abbrev DEnv := List Sl
def SlOk (K : PySem.W.Frag) (F H0 H : Hp) (o : Option (Option V)) : Sl → Prop
  | .un => True
  | .fz d => ∃ v, o = some (some v) ∧ Rp K F v d
  | .ow ds => ∃ a vs, o = some (some (.ref a)) ∧ H a = some (.lst vs) ∧ F a = none ∧ H0 a = none ∧ RpAll K F vs ds
  | .br ds => ∃ a vs, o = some (some (.ref a)) ∧ SqL K H0 a vs ∧ RpAll K F vs ds
structure StF (K : PySem.W.Frag) (F0 H0 F : Hp) (ρ : DEnv) (σ : St) (H : Hp) : Prop where
  gr : Grow F0 H0 F H
  sl : ∀ (i : Nat) (s : Sl), ρ[i]? = some s → SlOk K F H0 H σ[i]? s
  sep : ∀ (i j : Nat) (a : Addr) ds es, ρ[i]? = some (.ow ds) → ρ[j]? = some (.ow es) → σ[i]? = some (some (.ref a)) → σ[j]? = some (some (.ref a)) → i = j
  len : ρ.length = σ.length
/-- a value, whose own list (if it is one) need not be frozen -/
def Rw (K : PySem.W.Frag) (F H : Hp) (v : V) (d : PyData) : Prop :=
  Rp K F v d ∨ ∃ a vs ds, v = .ref a ∧ d = .list ds ∧ SqL K H a vs ∧ RpAll K F vs ds
section
variable {K : PySem.W.Frag} {F F' H H' F0 H0 F1 H1 : Hp} {ρ : DEnv} {σ : St} {v : V} {d : PyData}
theorem SlOk.grow {o : Option (Option V)} {s : Sl} (h : SlOk K F H0 H o s) (g : Grow F H F' H') : SlOk K F' H0 H' o s := by
  cases s with
  | un => trivial
  | fz d => obtain ⟨v, e, r⟩ := h; exact ⟨v, e, Rp.mono g.ff _ _ r⟩
  | ow ds => obtain ⟨a, vs, e, r, f, z, q⟩ := h; exact ⟨a, vs, e, g.hh _ _ r, (g.ag _ _ r).trans f, z, RpAll.mono g.ff _ _ q⟩
  | br ds => obtain ⟨a, vs, e, r, q⟩ := h; exact ⟨a, vs, e, r, RpAll.mono g.ff _ _ q⟩
theorem StF.grow (s : StF K F0 H0 F ρ σ H) (g : Grow F H F' H') : StF K F0 H0 F' ρ σ H' :=
  ⟨s.gr.trans g, fun i x e => (s.sl i x e).grow g, s.sep, s.len⟩
theorem Rw.grow (h : Rw K F H v d) (g : Grow F H F' H') : Rw K F' H' v d := by
  rcases h with h | ⟨a, vs, ds, e1, e2, h1, h2⟩
  · exact .inl (Rp.mono g.ff _ _ h)
  · exact .inr ⟨a, vs, ds, e1, e2, g.hh.seq h1, RpAll.mono g.ff _ _ h2⟩
theorem Rw.int {i : Int} (h : Rw K F H v (.int i)) : v = .int i := by
  rcases h with h | ⟨_, _, _, _, e, _⟩
  · cases h; rfl
  · cases e
theorem Rw.bool {i : Bool} (h : Rw K F H v (.bool i)) : v = .bl i := by
  rcases h with h | ⟨_, _, _, _, e, _⟩
  · cases h; rfl
  · cases e
theorem Rw.str {i : Str} (h : Rw K F H v (.str i)) : v = .str i := by
  rcases h with h | ⟨_, _, _, _, e, _⟩
  · cases h; rfl
  · cases e
theorem Rw.list {ds : List PyData} (s : Same F H) (h : Rw K F H v (.list ds)) : ∃ a vs, v = .ref a ∧ SqL K H a vs ∧ RpAll K F vs ds := by
  rcases h with h | ⟨a, vs, ds', e1, e2, h1, h2⟩
  · cases h with
    | lst h1 h2 => exact ⟨_, _, rfl, SqL.of (s _ _ h1), h2⟩
  · cases e2; exact ⟨a, vs, e1, h1, h2⟩
theorem Rw.tuple {ds : List PyData} (s : Same F H) (h : Rw K F H v (.tuple ds)) : ∃ a vs, v = .ref a ∧ SqT K H a vs ∧ RpAll K F vs ds := by
  rcases h with h | ⟨a, vs, ds', e1, e2, h1, h2⟩
  · cases h with
    | tup h1 h2 => exact ⟨_, _, rfl, seqT_same s h1, h2⟩
  · cases e2
theorem Rw.dp (s : Same F H) (h : Rw K F H v d) : Dp K H v d := by
  rcases h with h | ⟨a, vs, ds', e1, e2, h1, h2⟩
  · exact Rp.dp s _ _ h
  · subst e1; subst e2; exact .lst h1 (RpAll.dp s _ _ h2)
theorem Rw.isNone (h : Rw K F H v d) : decide (v = .non) = (match d with | .none => true | _ => false) := by
  rcases h with h | ⟨a, vs, ds', e1, e2, h1, h2⟩
  · cases h <;> simp
  · subst e1; subst e2; simp
end

/-! ### outcomes -/
inductive Ex where
  | late (k : Int)
  | noplan
inductive Out where
  | nx (ρ : DEnv)
  | bk (ρ : DEnv)
  | ct (ρ : DEnv)
  | rt (d : PyData)
  | rs (x : Ex)
  | no
/-- what an exception must come to -/
abbrev EXX := Ex → Hp → Prop
def OutOk (K : PySem.W.Frag) (F0 H0 : Hp) (D : Ends) (EX : EXX) : Out → Prop
  | .nx ρ => ∀ F σ H, StF K F0 H0 F ρ σ H → D.nx σ H
  | .bk ρ => ∀ F σ H, StF K F0 H0 F ρ σ H → D.bk σ H
  | .ct ρ => ∀ F σ H, StF K F0 H0 F ρ σ H → D.ct σ H
  | .rt d => ∀ v F H, Grow F0 H0 F H → Rp K F v d → D.rt v H
  | .rs x => EX x H0
  | .no => False

/-! ### judgements -/
abbrev EFn := DEnv → Option PyData
abbrev OFn := DEnv → Option (List PyData)
abbrev TFn := DEnv → Option Bool
abbrev SFn := DEnv → Out
def EsOk (K : PySem.W.Frag) (te : TE) (f : EFn) : Prop := ∀ F0 H0 F ρ σ H Q d, StF K F0 H0 F ρ σ H → f ρ = some d → (∀ v F' H', Grow F H F' H' → Rp K F' v d → Q v H') → te σ H Q
def EwOk (K : PySem.W.Frag) (te : TE) (f : EFn) : Prop := ∀ F0 H0 F ρ σ H Q d, StF K F0 H0 F ρ σ H → f ρ = some d → (∀ v F' H', Grow F H F' H' → Rw K F' H' v d → Q v H') → te σ H Q
def EoOk (K : PySem.W.Frag) (te : TE) (f : OFn) : Prop := ∀ F0 H0 F ρ σ H Q ds, StF K F0 H0 F ρ σ H → f ρ = some ds →
  (∀ p vs F' H', Grow F H F' H' → H p = none → F' p = none → H' p = some (.lst vs) → RpAll K F' vs ds → Q (.ref p) H') → te σ H Q
def ETOk (K : PySem.W.Frag) (tt : TT) (f : TFn) : Prop := ∀ F0 H0 F ρ σ H Q b, StF K F0 H0 F ρ σ H → f ρ = some b → (∀ F' H', Grow F H F' H' → Q b H') → tt σ H Q
def SsOk (K : PySem.W.Frag) (EX : EXX) (ts : TS) (f : SFn) : Prop := ∀ F0 H0 F ρ σ H D, StF K F0 H0 F ρ σ H → OutOk K F0 H0 D EX (f ρ) → ts D σ H
structure DEs (X : Cx) (e : Expr) (f : EFn) : Prop where
  ex : ∃ te, PE X e te ∧ EsOk X.K te f
structure DEw (X : Cx) (e : Expr) (f : EFn) : Prop where
  ex : ∃ te, PE X e te ∧ EwOk X.K te f
structure DEo (X : Cx) (e : Expr) (f : OFn) : Prop where
  ex : ∃ te, PE X e te ∧ EoOk X.K te f
structure DT (X : Cx) (e : Expr) (f : TFn) : Prop where
  ex : ∃ tt, PT X e tt ∧ ETOk X.K tt f
structure DW (X : Cx) (e : Expr) (f : TFn) : Prop where
  ex : ∃ tt, PW X e tt ∧ ETOk X.K tt f
structure DS (X : Cx) (EX : EXX) (st : Stmt) (f : SFn) : Prop where
  ex : ∃ ts, PS X st ts ∧ SsOk X.K EX ts f
structure DSs (X : Cx) (EX : EXX) (st : List Stmt) (f : SFn) : Prop where
  ex : ∃ ts, PSs X st ts ∧ SsOk X.K EX ts f

section
variable {X : Cx} {EX : EXX} {e a b : Expr} {pos : Pos} {f fa fb : EFn}
theorem DEs.w (h : DEs X e f) : DEw X e f := by
  obtain ⟨te, p, h⟩ := h.ex
  exact ⟨te, p, fun F0 H0 F ρ σ H Q d S e q => h F0 H0 F ρ σ H Q d S e fun v F' H' g r => q v F' H' g (.inl r)⟩
def lstD (f : OFn) : EFn := fun ρ => (f ρ).map PyData.list
theorem DEo.s {fo : OFn} (h : DEo X e fo) : DEs X e (lstD fo) := by
  obtain ⟨te, p, h⟩ := h.ex
  refine ⟨te, p, fun F0 H0 F ρ σ H Q d S e q => ?_⟩
  obtain ⟨ds, e1, e2⟩ := Option.map_eq_some_iff.mp e
  subst e2
  refine h F0 H0 F ρ σ H Q ds S e1 fun p vs F' H' g n1 n2 hp r => ?_
  refine q _ (upd F' p (.lst vs)) H' ⟨g.hh, g.ff.trans (same_upd n2), fun b x e => ?_, fun b x e => ?_⟩ (.lst upd_same (RpAll.mono (same_upd n2) _ _ r))
  · by_cases hb : b = p
    · subst hb; rw [upd_same] at e; rw [hp]; exact e
    · rw [upd_ne hb] at e; exact g.fh _ _ e
  · rw [upd_ne (ne_of_none e n1)]; exact g.ag b x e

/-! ### names and constants -/
def eVar (i : Nat) : EFn := fun ρ => match ρ[i]? with | some (.fz d) => some d | _ => none
/-- a list's name, read -/
def eSeq (i : Nat) : EFn := fun ρ => match ρ[i]? with | some (.fz d) => some d | some (.ow ds) => some (.list ds) | some (.br ds) => some (.list ds) | _ => none
theorem de_var (i : Nat) {x : Str} (hN : X.N[i]? = some x := by rfl) (hv : Vis X.env.scope x := by first | exact Or.inl rfl | exact Or.inr (Or.inl rfl) | exact Or.inr (Or.inr rfl)) (hd : (x == ("__debug__" : Str)) = false := by decide)
    (hcd : (x == ("__classdict__" : Str)) = false := by decide) : DEs X (.Name x pos) (eVar i) := by
  refine ⟨_, pe_var hN hv hd hcd, fun F0 H0 F ρ σ H Q d S e q => ?_⟩
  unfold eVar at e
  cases hs : ρ[i]? with
  | none => rw [hs] at e; cases e
  | some s =>
    rw [hs] at e
    cases s with
    | fz d' =>
      cases e
      obtain ⟨v, e1, r⟩ := S.sl i _ hs
      exact ⟨v, e1, q v F H (.refl S.gr.fh) r⟩
    | un => cases e
    | ow ds => cases e
    | br ds => cases e
theorem de_seq (i : Nat) {x : Str} (hN : X.N[i]? = some x := by rfl) (hv : Vis X.env.scope x := by first | exact Or.inl rfl | exact Or.inr (Or.inl rfl) | exact Or.inr (Or.inr rfl)) (hd : (x == ("__debug__" : Str)) = false := by decide)
    (hcd : (x == ("__classdict__" : Str)) = false := by decide) : DEw X (.Name x pos) (eSeq i) := by
  refine ⟨_, pe_var hN hv hd hcd, fun F0 H0 F ρ σ H Q d S e q => ?_⟩
  unfold eSeq at e
  cases hs : ρ[i]? with
  | none => rw [hs] at e; cases e
  | some s =>
    rw [hs] at e
    cases s with
    | fz d' =>
      cases e
      obtain ⟨v, e1, r⟩ := S.sl i _ hs
      exact ⟨v, e1, q v F H (.refl S.gr.fh) (.inl r)⟩
    | un => cases e
    | ow ds =>
      cases e
      obtain ⟨a, vs, e1, h1, _, _, r⟩ := S.sl i _ hs
      exact ⟨_, e1, q _ F H (.refl S.gr.fh) (.inr ⟨a, vs, ds, rfl, rfl, SqL.of h1, r⟩)⟩
    | br ds =>
      cases e
      obtain ⟨a, vs, e1, h1, r⟩ := S.sl i _ hs
      exact ⟨_, e1, q _ F H (.refl S.gr.fh) (.inr ⟨a, vs, ds, rfl, rfl, S.gr.hh.seq h1, r⟩)⟩
def eC (d : PyData) : EFn := fun _ => some d
theorem des_c {te : TE} {v : V} {d : PyData} (h : PE X e (tC v)) (r : ∀ F, Rp X.K F v d) : DEs X e (eC d) :=
  ⟨_, h, fun F0 H0 F ρ σ H Q d' S e q => by cases e; exact q v F H (.refl S.gr.fh) (r F)⟩
theorem de_int {i j} : DEs X (.Constant (.int i) j pos) (eC (.int i)) := des_c (te := tC (.int i)) pe_int fun _ => .int i
theorem de_bl {i j} : DEs X (.Constant (.bool i) j pos) (eC (.bool i)) := des_c (te := tC (.bl i)) pe_bl fun _ => .bl i
theorem de_non {j} : DEs X (.Constant .none j pos) (eC .none) := des_c (te := tC .non) pe_non fun _ => .non
theorem de_str {i j} : DEs X (.Constant (.str i) j pos) (eC (.str i)) := des_c (te := tC (.str i)) pe_str fun _ => .str i
/-- a module's constant: a text -/
theorem de_gstr {x : Str} {z : Str} {t : Tok} (hm : X.mg x = some (.str z t)) (hg : Gl X x := by rfl) (hd : (x == ("__debug__" : Str)) = false := by decide) : DEs X (.Name x pos) (eC (.str z)) := des_c (te := tC (.str z)) (pe_glob (v := .str z) hg hm ⟨_, rfl⟩ hd) fun _ => .str z
/-- a module's constant: a pair of ints -/
theorem de_gpair {x : Str} {c : Addr} {i j : Int} {o : Obj} {n : Nat} {t u : Tok} (hm : X.mg x = some (.ref c)) (hk : X.K.lookup c = some o) (hc : o.cls = .type "tuple") (ho : o.data = .seq #[.int i t, .int j u] n) (hg : Gl X x := by rfl) (hd : (x == ("__debug__" : Str)) = false := by decide) :
    DEs X (.Name x pos) (eC (.tuple [.int i, .int j])) :=
  des_c (te := tC (.ref c)) (pe_glob (v := .ref c) hg hm rfl hd) fun _ => .tup (xs := [.int i, .int j]) (.inr ⟨o, _, n, hk, hc, ho, by show 2 ≤ sizeLine; decide, .cons ⟨_, rfl⟩ (.cons ⟨_, rfl⟩ .nil)⟩) (.cons (.int i) (.cons (.int j) .nil))

/-! ### operators -/
def eBin (g : PyData → PyData → Option PyData) (fa fb : EFn) : EFn := fun ρ => (fa ρ).bind fun x => (fb ρ).bind fun y => g x y
theorem bind2 {g : PyData → PyData → Option PyData} {ρ : DEnv} {d : PyData} (e : eBin g fa fb ρ = some d) : ∃ x y, fa ρ = some x ∧ fb ρ = some y ∧ g x y = some d := by
  unfold eBin at e
  obtain ⟨x, e1, e⟩ := Option.bind_eq_some_iff.mp e
  obtain ⟨y, e2, e⟩ := Option.bind_eq_some_iff.mp e
  exact ⟨x, y, e1, e2, e⟩
def VOk2 (K : PySem.W.Frag) (r : R2) (g : PyData → PyData → Option PyData) : Prop :=
  ∀ F H x y d e z Q, Same F H → Rw K F H x d → Rw K F H y e → g d e = some z → (∀ v F' H', Grow F H F' H' → Rp K F' v z → Q v H') → r x y H Q
theorem es_bin {r : R2} {ta tb : TE} {g : PyData → PyData → Option PyData} (hg : VOk2 X.K r g) (ha : EwOk X.K ta fa) (hb : EwOk X.K tb fb) : EsOk X.K (tOp r ta tb) (eBin g fa fb) := by
  intro F0 H0 F ρ σ H Q d S e q
  obtain ⟨x, y, e1, e2, e3⟩ := bind2 e
  refine ha F0 H0 F ρ σ H _ x S e1 fun v F1 H1 g1 r1 => ?_
  refine hb F0 H0 F1 ρ σ H1 _ y (S.grow g1) e2 fun w F2 H2 g2 r2 => ?_
  exact hg F2 H2 v w x y d Q g2.fh (r1.grow g2) r2 e3 fun u F3 H3 g3 r3 => q u F3 H3 ((g1.trans g2).trans g3) r3
theorem de_bin {op : Operator} {r : R2} {g : PyData → PyData → Option PyData} (ho : OpR X (binaryOp op) r) (hg : VOk2 X.K r g) (ha : DEw X a fa) (hb : DEw X b fb) : DEs X (.BinOp a op b pos) (eBin g fa fb) := by
  obtain ⟨ta, pa, ha⟩ := ha.ex
  obtain ⟨tb, pb, hb⟩ := hb.ex
  exact ⟨_, pe_op ho pa pb, es_bin hg ha hb⟩
def mulOk (i j : Int) : Bool := decide (i.natAbs < 2 ^ 64) || decide (j.natAbs < 2 ^ 64)
def dAdd : PyData → PyData → Option PyData
  | .int i, .int j => some (.int (i + j))
  | .str i, .str j => if i.length + j.length ≤ sizeLine then some (.str (i ++ j)) else none
  | _, _ => none
def dSub : PyData → PyData → Option PyData
  | .int i, .int j => some (.int (i - j))
  | _, _ => none
def dMul : PyData → PyData → Option PyData
  | .int i, .int j => if mulOk i j = true then some (.int (i * j)) else none
  | _, _ => none
def dDiv : PyData → PyData → Option PyData
  | .int i, .int j => if 0 < j ∧ j < 1073741824 then some (.int (i / j)) else none
  | _, _ => none
def dMod : PyData → PyData → Option PyData
  | .int i, .int j => if 0 < j then some (.int (i % j)) else none
  | _, _ => none
def dPow : PyData → PyData → Option PyData
  | .int i, .int j => if 0 ≤ j ∧ j ≤ 1000000 ∧ i.natAbs < 2 ^ 64 then some (.int (i ^ j.toNat)) else none
  | _, _ => none
theorem vok_add {K : PySem.W.Frag} : VOk2 K (fun x y H Q => rI0 (fun i j => .int (i + j)) x y H Q ∨ ∃ i j, x = .str i ∧ y = .str j ∧ i.length + j.length ≤ sizeLine ∧ Q (.str (i ++ j)) H) dAdd := by
  intro F H x y d e z Q s rx ry hz q
  cases d <;> cases e <;> simp only [dAdd, reduceCtorEq, Option.ite_none_right_eq_some, Option.some.injEq] at hz
  · subst hz
    exact .inl ⟨_, _, rx.int, ry.int, q _ F H (.refl s) (.int _)⟩
  · obtain ⟨h1, h2⟩ := hz
    subst h2
    exact .inr ⟨_, _, rx.str, ry.str, h1, q _ F H (.refl s) (.str _)⟩
theorem vok_sub {K : PySem.W.Frag} : VOk2 K (rI0 fun i j => .int (i - j)) dSub := by
  intro F H x y d e z Q s rx ry hz q
  cases d <;> cases e <;> simp only [dSub, reduceCtorEq, Option.some.injEq] at hz
  subst hz
  exact ⟨_, _, rx.int, ry.int, q _ F H (.refl s) (.int _)⟩
theorem natAbs_lt {i : Int} (h : i.natAbs < 2 ^ 64) : -(2 ^ 64) < i ∧ i < 2 ^ 64 := by omega
theorem vok_mul {K : PySem.W.Frag} : VOk2 K (rI CMul fun i j => .int (i * j)) dMul := by
  intro F H x y d e z Q s rx ry hz q
  cases d <;> cases e <;> simp only [dMul, reduceCtorEq, Option.ite_none_right_eq_some, Option.some.injEq] at hz
  obtain ⟨h1, h2⟩ := hz
  subst h2
  refine ⟨_, _, rx.int, ry.int, ?_, q _ F H (.refl s) (.int _)⟩
  unfold mulOk at h1
  rw [Bool.or_eq_true] at h1
  rcases h1 with h1 | h1
  · exact .inl (natAbs_lt (of_decide_eq_true h1))
  · exact .inr (natAbs_lt (of_decide_eq_true h1))
theorem vok_div {K : PySem.W.Frag} : VOk2 K (rI CDiv fun i j => .int (i / j)) dDiv := by
  intro F H x y d e z Q s rx ry hz q
  cases d <;> cases e <;> simp only [dDiv, reduceCtorEq, Option.ite_none_right_eq_some, Option.some.injEq] at hz
  obtain ⟨h1, h2⟩ := hz
  subst h2
  exact ⟨_, _, rx.int, ry.int, h1, q _ F H (.refl s) (.int _)⟩
theorem vok_mod {K : PySem.W.Frag} : VOk2 K (rI (fun _ j => 0 < j) fun i j => .int (i % j)) dMod := by
  intro F H x y d e z Q s rx ry hz q
  cases d <;> cases e <;> simp only [dMod, reduceCtorEq, Option.ite_none_right_eq_some, Option.some.injEq] at hz
  obtain ⟨h1, h2⟩ := hz
  subst h2
  exact ⟨_, _, rx.int, ry.int, h1, q _ F H (.refl s) (.int _)⟩
theorem vok_pow {K : PySem.W.Frag} : VOk2 K (rI CPow fun i j => .int (i ^ j.toNat)) dPow := by
  intro F H x y d e z Q s rx ry hz q
  cases d <;> cases e <;> simp only [dPow, reduceCtorEq, Option.ite_none_right_eq_some, Option.some.injEq] at hz
  obtain ⟨h1, h2⟩ := hz
  subst h2
  exact ⟨_, _, rx.int, ry.int, h1, q _ F H (.refl s) (.int _)⟩
theorem de_add (ha : DEw X a fa) (hb : DEw X b fb) : DEs X (.BinOp a .Add b pos) (eBin dAdd fa fb) := de_bin (op_add.or op_add_str) vok_add ha hb
theorem de_sub (ha : DEw X a fa) (hb : DEw X b fb) : DEs X (.BinOp a .Sub b pos) (eBin dSub fa fb) := de_bin op_sub vok_sub ha hb
theorem de_mul (ha : DEw X a fa) (hb : DEw X b fb) : DEs X (.BinOp a .Mult b pos) (eBin dMul fa fb) := de_bin op_mul vok_mul ha hb
theorem de_div (ha : DEw X a fa) (hb : DEw X b fb) : DEs X (.BinOp a .FloorDiv b pos) (eBin dDiv fa fb) := de_bin op_fdiv vok_div ha hb
theorem de_mod (ha : DEw X a fa) (hb : DEw X b fb) : DEs X (.BinOp a .Mod b pos) (eBin dMod fa fb) := de_bin op_mod vok_mod ha hb
theorem de_pow (ha : DEw X a fa) (hb : DEw X b fb) : DEs X (.BinOp a .Pow b pos) (eBin dPow fa fb) := de_bin op_pow vok_pow ha hb
end
end L2.RC

namespace L2.RC
open PySem PySem.Spec PyProof.Rows
section
variable {X : Cx} {EX : EXX} {e a b c : Expr} {pos : Pos} {f fa fb : EFn}
/-! ### the one reading of a function of the slots -/
def cEs (K : PySem.W.Frag) (f : EFn) : TE := fun σ H Q => ∃ F0 H0 F ρ d, StF K F0 H0 F ρ σ H ∧ f ρ = some d ∧ ∀ v F' H', Grow F H F' H' → Rp K F' v d → Q v H'
def cET (K : PySem.W.Frag) (f : TFn) : TT := fun σ H Q => ∃ F0 H0 F ρ d, StF K F0 H0 F ρ σ H ∧ f ρ = some d ∧ ∀ F' H', Grow F H F' H' → Q d H'
theorem DEs.can (h : DEs X e f) : PE X e (cEs X.K f) := by
  obtain ⟨te, p, h⟩ := h.ex
  exact ⟨fun pins s σ H Q I ⟨F0, H0, F, ρ, d, S, e, q⟩ => p.run pins s σ H Q I (h F0 H0 F ρ σ H Q d S e q)⟩
theorem DT.can {ft : TFn} (h : DT X e ft) : PT X e (cET X.K ft) := by
  obtain ⟨te, p, h⟩ := h.ex
  exact ⟨fun pins s σ H Q I ⟨F0, H0, F, ρ, d, S, e, q⟩ => p.run pins s σ H Q I (h F0 H0 F ρ σ H Q d S e q)⟩

/-! ### comparisons -/
theorem de_cmp {op : CmpOp} {r : R2} {g : PyData → PyData → Option PyData} (ho : OpR X (compareOp op) r) (hg : VOk2 X.K r g) (ha : DEw X a fa) (hb : DEw X b fb) (hm : behindInMarks op b = false) : DEs X (.Compare a [op] [b] pos) (eBin g fa fb) := by
  obtain ⟨ta, pa, ha⟩ := ha.ex
  obtain ⟨tb, pb, hb⟩ := hb.ex
  exact ⟨_, pe_cmpR ho pa pb hm, es_bin hg ha hb⟩
/-- a bool's value as a test -/
def tOf (f : EFn) : TFn := fun ρ => match f ρ with | some (.bool b) => some b | _ => none
theorem tOf_some {ρ : DEnv} {k : Bool} (e : tOf f ρ = some k) : f ρ = some (.bool k) := by
  unfold tOf at e
  cases q : f ρ with
  | none => rw [q] at e; cases e
  | some d =>
    rw [q] at e
    cases d <;> first | (cases e; rfl) | cases e
theorem et_of {K : PySem.W.Frag} {te : TE} (h : EsOk K te f) : ETOk K (tTest te) (tOf f) := by
  intro F0 H0 F ρ σ H Q k S e q
  refine h F0 H0 F ρ σ H _ _ S (tOf_some e) fun v F' H' g r => ?_
  cases r
  exact ⟨k, rfl, q F' H' g⟩
theorem dt_cmp {op : CmpOp} {r : R2} {g : PyData → PyData → Option PyData} (ho : OpR X (compareOp op) r) (hg : VOk2 X.K r g) (ha : DEw X a fa) (hb : DEw X b fb) (hm : behindInMarks op b = false) : DT X (.Compare a [op] [b] pos) (tOf (eBin g fa fb)) := by
  obtain ⟨ta, pa, ha⟩ := ha.ex
  obtain ⟨tb, pb, hb⟩ := hb.ex
  exact ⟨_, pt_cmpR ho pa pb hm, et_of (es_bin hg ha hb)⟩
def dLt : PyData → PyData → Option PyData
  | .int i, .int j => some (.bool (decide (i < j)))
  | _, _ => none
def dLe : PyData → PyData → Option PyData
  | .int i, .int j => some (.bool (decide (i ≤ j)))
  | _, _ => none
def dGt : PyData → PyData → Option PyData
  | .int i, .int j => some (.bool (decide (j < i)))
  | _, _ => none
def dGe : PyData → PyData → Option PyData
  | .int i, .int j => some (.bool (decide (j ≤ i)))
  | _, _ => none
def dEq (x y : PyData) : Option PyData := if (SeqAt.shaped x && SeqAt.shaped y) = true then some (.bool (PyData.eqv x y)) else none
def dNe (x y : PyData) : Option PyData := if (SeqAt.shaped x && SeqAt.shaped y) = true then some (.bool (!PyData.eqv x y)) else none
def isN : PyData → Bool
  | .none => true
  | _ => false
def dIs (x y : PyData) : Option PyData := match y with
  | .none => some (.bool (isN x))
  | _ => none
def dIsNot (x y : PyData) : Option PyData := match y with
  | .none => some (.bool (!isN x))
  | _ => none
def dIn (x y : PyData) : Option PyData := match y with
  | .list ds => if (SeqAt.shaped x && SeqAt.shaped (.list ds)) = true then some (.bool (ds.any fun z => PyData.eqv z x)) else none
  | _ => none
def dNotIn (x y : PyData) : Option PyData := match y with
  | .list ds => if (SeqAt.shaped x && SeqAt.shaped (.list ds)) = true then some (.bool (!ds.any fun z => PyData.eqv z x)) else none
  | _ => none
section
variable {K : PySem.W.Frag}
theorem vok_lt : VOk2 K (rI0 fun i j => .bl (decide (i < j))) dLt := by
  intro F H x y d e z Q s rx ry hz q
  cases d <;> cases e <;> simp only [dLt, reduceCtorEq, Option.some.injEq] at hz
  subst hz
  exact ⟨_, _, rx.int, ry.int, q _ F H (.refl s) (.bl _)⟩
theorem vok_le : VOk2 K (rI0 fun i j => .bl (decide (i ≤ j))) dLe := by
  intro F H x y d e z Q s rx ry hz q
  cases d <;> cases e <;> simp only [dLe, reduceCtorEq, Option.some.injEq] at hz
  subst hz
  exact ⟨_, _, rx.int, ry.int, q _ F H (.refl s) (.bl _)⟩
theorem vok_gt : VOk2 K (rI0 fun i j => .bl (decide (j < i))) dGt := by
  intro F H x y d e z Q s rx ry hz q
  cases d <;> cases e <;> simp only [dGt, reduceCtorEq, Option.some.injEq] at hz
  subst hz
  exact ⟨_, _, rx.int, ry.int, q _ F H (.refl s) (.bl _)⟩
theorem vok_ge : VOk2 K (rI0 fun i j => .bl (decide (j ≤ i))) dGe := by
  intro F H x y d e z Q s rx ry hz q
  cases d <;> cases e <;> simp only [dGe, reduceCtorEq, Option.some.injEq] at hz
  subst hz
  exact ⟨_, _, rx.int, ry.int, q _ F H (.refl s) (.bl _)⟩
theorem vok_eq : VOk2 K (rEqD K) dEq := by
  intro F H x y d e z Q s rx ry hz q
  unfold dEq at hz
  rw [Option.ite_none_right_eq_some, Bool.and_eq_true] at hz
  obtain ⟨⟨h1, h2⟩, h3⟩ := hz
  cases h3
  exact ⟨d, e, rx.dp s, ry.dp s, h1, h2, q _ F H (.refl s) (.bl _)⟩
theorem vok_ne : VOk2 K (rNeD K) dNe := by
  intro F H x y d e z Q s rx ry hz q
  unfold dNe at hz
  rw [Option.ite_none_right_eq_some, Bool.and_eq_true] at hz
  obtain ⟨⟨h1, h2⟩, h3⟩ := hz
  cases h3
  exact ⟨d, e, rx.dp s, ry.dp s, h1, h2, q _ F H (.refl s) (.bl _)⟩
theorem rw_isN {F H : Hp} {v : V} {d : PyData} (h : Rw K F H v d) : decide (v = .non) = isN d := by
  rcases h with h | ⟨a, vs, ds', e1, e2, h1, h2⟩
  · cases h <;> simp [isN]
  · subst e1; subst e2; simp [isN]
theorem rw_none {F H : Hp} {v : V} (h : Rw K F H v .none) : v = .non := by
  rcases h with h | ⟨a, vs, ds', e1, e2, h1, h2⟩
  · cases h; rfl
  · cases e2
theorem vok_is : VOk2 K (fun x y H Q => y = .non ∧ Q (.bl (decide (x = .non))) H) dIs := by
  intro F H x y d e z Q s rx ry hz q
  cases e <;> simp only [dIs, reduceCtorEq, Option.some.injEq] at hz
  subst hz
  refine ⟨rw_none ry, ?_⟩
  rw [rw_isN rx]
  exact q _ F H (.refl s) (.bl _)
theorem vok_isnot : VOk2 K (fun x y H Q => y = .non ∧ Q (.bl (!decide (x = .non))) H) dIsNot := by
  intro F H x y d e z Q s rx ry hz q
  cases e <;> simp only [dIsNot, reduceCtorEq, Option.some.injEq] at hz
  subst hz
  refine ⟨rw_none ry, ?_⟩
  rw [rw_isN rx]
  exact q _ F H (.refl s) (.bl _)
theorem vok_in : VOk2 K (rInD K) dIn := by
  intro F H x y d e z Q s rx ry hz q
  cases e <;> simp only [dIn, reduceCtorEq] at hz
  rw [Option.ite_none_right_eq_some, Bool.and_eq_true] at hz
  obtain ⟨⟨h1, h2⟩, h3⟩ := hz
  cases h3
  exact ⟨d, _, rx.dp s, ry.dp s, h1, h2, q _ F H (.refl s) (.bl _)⟩
theorem vok_notin : VOk2 K (rNotInD K) dNotIn := by
  intro F H x y d e z Q s rx ry hz q
  cases e <;> simp only [dNotIn, reduceCtorEq] at hz
  rw [Option.ite_none_right_eq_some, Bool.and_eq_true] at hz
  obtain ⟨⟨h1, h2⟩, h3⟩ := hz
  cases h3
  exact ⟨d, _, rx.dp s, ry.dp s, h1, h2, q _ F H (.refl s) (.bl _)⟩
end
theorem hu65 {A : Around} {k : Nat} (hr : Room k A) : A.units + 65 < cLine := by have := hr.un; omega
theorem hu64 {A : Around} {k : Nat} (hr : Room k A) : A.units + 64 < cLine := hr.units

/-! ### and, or, not, if -/
def eAnd (fa fb : EFn) : EFn := fun ρ => match fa ρ with | some (.bool true) => fb ρ | some (.bool false) => some (.bool false) | _ => none
def eOr (fa fb : EFn) : EFn := fun ρ => match fa ρ with | some (.bool true) => some (.bool true) | some (.bool false) => fb ρ | _ => none
def eNot (fa : EFn) : EFn := fun ρ => match fa ρ with | some (.bool k) => some (.bool !k) | _ => none
def tAnd2 (fa fb : TFn) : TFn := fun ρ => match fa ρ with | some true => fb ρ | some false => some false | none => none
def tOr2 (fa fb : TFn) : TFn := fun ρ => match fa ρ with | some true => some true | some false => fb ρ | none => none
def tNot2 (fa : TFn) : TFn := fun ρ => (fa ρ).map (!·)
def eIf (ft : TFn) (fa fb : EFn) : EFn := fun ρ => match ft ρ with | some true => fa ρ | some false => fb ρ | none => none
variable {rest : List Expr} {ft fu : TFn}
theorem de_and (ha : DEs X a fa) (hb : DEs X (.BoolOp .And (b :: rest) pos) fb) : DEs X (.BoolOp .And (a :: b :: rest) pos) (eAnd fa fb) := by
  obtain ⟨ta, pa, ha⟩ := ha.ex
  obtain ⟨tb, pb, hb⟩ := hb.ex
  refine ⟨_, pe_and pa pb, fun F0 H0 F ρ σ H Q d S e q => ?_⟩
  unfold eAnd at e
  cases h : fa ρ with
  | none => rw [h] at e; cases e
  | some d' =>
    rw [h] at e
    refine ha F0 H0 F ρ σ H _ d' S h fun v F1 H1 g r => ?_
    cases d' <;> first | cases e | skip
    rename_i k
    cases r
    refine ⟨k, rfl, ?_⟩
    cases k with
    | true => exact iteT (hb F0 H0 F1 ρ σ H1 Q d (S.grow g) e fun v F2 H2 g2 r2 => q v F2 H2 (g.trans g2) r2)
    | false => cases e; exact iteF (q _ F1 H1 g (.bl _))
theorem de_or (ha : DEs X a fa) (hb : DEs X (.BoolOp .Or (b :: rest) pos) fb) : DEs X (.BoolOp .Or (a :: b :: rest) pos) (eOr fa fb) := by
  obtain ⟨ta, pa, ha⟩ := ha.ex
  obtain ⟨tb, pb, hb⟩ := hb.ex
  refine ⟨_, pe_or pa pb, fun F0 H0 F ρ σ H Q d S e q => ?_⟩
  unfold eOr at e
  cases h : fa ρ with
  | none => rw [h] at e; cases e
  | some d' =>
    rw [h] at e
    refine ha F0 H0 F ρ σ H _ d' S h fun v F1 H1 g r => ?_
    cases d' <;> first | cases e | skip
    rename_i k
    cases r
    refine ⟨k, rfl, ?_⟩
    cases k with
    | false => exact iteF (hb F0 H0 F1 ρ σ H1 Q d (S.grow g) e fun v F2 H2 g2 r2 => q v F2 H2 (g.trans g2) r2)
    | true => cases e; exact iteT (q _ F1 H1 g (.bl _))
theorem de_one {op} (ha : DEs X a fa) : DEs X (.BoolOp op [a] pos) fa := by
  obtain ⟨ta, pa, ha⟩ := ha.ex
  exact ⟨_, pe_one pa, ha⟩
theorem de_not (ha : DEs X a fa) : DEs X (.UnaryOp .Not a pos) (eNot fa) := by
  obtain ⟨ta, pa, ha⟩ := ha.ex
  refine ⟨_, pe_not pa, fun F0 H0 F ρ σ H Q d S e q => ?_⟩
  unfold eNot at e
  cases h : fa ρ with
  | none => rw [h] at e; cases e
  | some d' =>
    rw [h] at e
    refine ha F0 H0 F ρ σ H _ d' S h fun v F1 H1 g r => ?_
    cases d' <;> first | (cases e; done) | skip
    rename_i k
    cases e
    cases r
    exact ⟨k, rfl, q _ F1 H1 g (.bl _)⟩
theorem et_and {K : PySem.W.Frag} {tx ty : TT} (ha : ETOk K tx ft) (hb : ETOk K ty fu) : ETOk K (tAnd tx ty) (tAnd2 ft fu) := by
  intro F0 H0 F ρ σ H Q d S e q
  unfold tAnd2 at e
  cases h : ft ρ with
  | none => rw [h] at e; cases e
  | some k =>
    rw [h] at e
    refine ha F0 H0 F ρ σ H _ k S h fun F1 H1 g => ?_
    cases k with
    | true => exact iteT (hb F0 H0 F1 ρ σ H1 Q d (S.grow g) e fun F2 H2 g2 => q F2 H2 (g.trans g2))
    | false => cases e; exact iteF (q F1 H1 g)
theorem et_or {K : PySem.W.Frag} {tx ty : TT} (ha : ETOk K tx ft) (hb : ETOk K ty fu) : ETOk K (tOr tx ty) (tOr2 ft fu) := by
  intro F0 H0 F ρ σ H Q d S e q
  unfold tOr2 at e
  cases h : ft ρ with
  | none => rw [h] at e; cases e
  | some k =>
    rw [h] at e
    refine ha F0 H0 F ρ σ H _ k S h fun F1 H1 g => ?_
    cases k with
    | false => exact iteF (hb F0 H0 F1 ρ σ H1 Q d (S.grow g) e fun F2 H2 g2 => q F2 H2 (g.trans g2))
    | true => cases e; exact iteT (q F1 H1 g)
theorem dw_and1 (ha : DT X a ft) : DW X (.BoolOp .And [a] pos) ft := by
  obtain ⟨ta, pa, ha⟩ := ha.ex
  exact ⟨_, pw_and1 pa, ha⟩
theorem dw_or1 (ha : DT X a ft) : DW X (.BoolOp .Or [a] pos) ft := by
  obtain ⟨ta, pa, ha⟩ := ha.ex
  exact ⟨_, pw_or1 pa, ha⟩
theorem dw_and (ha : DT X a ft) (hb : DW X (.BoolOp .And (b :: rest) pos) fu) : DW X (.BoolOp .And (a :: b :: rest) pos) (tAnd2 ft fu) := by
  obtain ⟨ta, pa, ha⟩ := ha.ex
  obtain ⟨tb, pb, hb⟩ := hb.ex
  exact ⟨_, pw_and pa pb, et_and ha hb⟩
theorem dw_or (ha : DT X a ft) (hb : DW X (.BoolOp .Or (b :: rest) pos) fu) : DW X (.BoolOp .Or (a :: b :: rest) pos) (tOr2 ft fu) := by
  obtain ⟨ta, pa, ha⟩ := ha.ex
  obtain ⟨tb, pb, hb⟩ := hb.ex
  exact ⟨_, pw_or pa pb, et_or ha hb⟩
theorem dt_w (h : DW X e ft) : DT X e ft := by
  obtain ⟨ta, pa, ha⟩ := h.ex
  exact ⟨_, pa.pt, ha⟩
theorem dt_not (ha : DT X a ft) : DT X (.UnaryOp .Not a pos) (tNot2 ft) := by
  obtain ⟨ta, pa, ha⟩ := ha.ex
  refine ⟨_, pt_not pa, fun F0 H0 F ρ σ H Q d S e q => ?_⟩
  obtain ⟨k, e1, e2⟩ := Option.map_eq_some_iff.mp e
  subst e2
  exact ha F0 H0 F ρ σ H _ k S e1 q
theorem dt_val (h : DEs X e f) (he : ∀ whole, isTrue e X.env whole = (do let v ← whole; standAt e.pos; holding [v] (truthy v)) := by intro _; rfl) : DT X e (tOf f) := by
  obtain ⟨te, p, h⟩ := h.ex
  exact ⟨_, pt_val p he, et_of h⟩
theorem de_if (hc : DT X c ft) (ha : DEs X a fa) (hb : DEs X b fb) : DEs X (.IfExp c a b pos) (eIf ft fa fb) := by
  obtain ⟨tc, pc, hc⟩ := hc.ex
  obtain ⟨ta, pa, ha⟩ := ha.ex
  obtain ⟨tb, pb, hb⟩ := hb.ex
  refine ⟨_, pe_ifExp pc pa pb, fun F0 H0 F ρ σ H Q d S e q => ?_⟩
  unfold eIf at e
  cases h : ft ρ with
  | none => rw [h] at e; cases e
  | some k =>
    rw [h] at e
    refine hc F0 H0 F ρ σ H _ k S h fun F1 H1 g => ?_
    cases k with
    | true => exact iteT (ha F0 H0 F1 ρ σ H1 Q d (S.grow g) e fun v F2 H2 g2 r => q v F2 H2 (g.trans g2) r)
    | false => exact iteF (hb F0 H0 F1 ρ σ H1 Q d (S.grow g) e fun v F2 H2 g2 r => q v F2 H2 (g.trans g2) r)

/-! ### an item -/
theorem atI_rp {K : PySem.W.Frag} {F : Hp} {vs : List V} {ds : List PyData} {i : Int} {d : PyData} (r : RpAll K F vs ds) (e : atI ds i = some d) : ∃ v, atI vs i = some v ∧ Rp K F v d := by
  unfold atI at e ⊢
  rw [r.length]
  obtain ⟨j, e1, e2⟩ := Option.bind_eq_some_iff.mp e
  obtain ⟨v, h1, h2⟩ := r.get e2
  exact ⟨v, by rw [e1]; exact h1, h2⟩
def dIx (x y : PyData) : Option PyData := match x, y with
  | .list ds, .int i => atI ds i
  | .tuple ds, .int i => atI ds i
  | .str z, .int i => if z.length ≤ sizeLine then (atI z.cps.toList i).map fun c => .str ⟨#[c]⟩ else none
  | _, _ => none
theorem vok_ix {K : PySem.W.Frag} : VOk2 K (rIx K) dIx := by
  intro F H x y d e z Q s rx ry hz q
  cases d <;> cases e <;> simp only [dIx, reduceCtorEq] at hz
  · rename_i zs i
    rw [Option.ite_none_right_eq_some] at hz
    obtain ⟨h1, h2⟩ := hz
    obtain ⟨c, h3, h4⟩ := Option.map_eq_some_iff.mp h2
    subst h4
    exact .inr (.inr ⟨zs, i, c, rx.str, ry.int, h1, h3, q _ F H (.refl s) (.str _)⟩)
  · obtain ⟨p, vs, rfl, h1, h2⟩ := rx.list s
    obtain ⟨v, h3, h4⟩ := atI_rp h2 hz
    exact .inl ⟨p, vs, _, v, rfl, ry.int, h1, h3, q v F H (.refl s) h4⟩
  · obtain ⟨p, vs, rfl, h1, h2⟩ := rx.tuple s
    obtain ⟨v, h3, h4⟩ := atI_rp h2 hz
    exact .inr (.inl ⟨p, vs, _, v, rfl, ry.int, h1, h3, q v F H (.refl s) h4⟩)
theorem de_ix (ha : DEw X a fa) (hb : DEw X b fb) (hs : PlainIx b := by exact fun _ _ => rfl) : DEs X (.Subscript a b pos) (eBin dIx fa fb) := by
  obtain ⟨ta, pa, ha⟩ := ha.ex
  obtain ⟨tb, pb, hb⟩ := hb.ex
  exact ⟨_, pe_ix ix_seq pa pb hs, es_bin vok_ix ha hb⟩

/-! ### -x -/
def eNeg (fa : EFn) : EFn := fun ρ => match fa ρ with | some (.int i) => some (.int (-i)) | _ => none
theorem de_neg (ha : DEs X a fa) : DEs X (.UnaryOp .USub a pos) (eNeg fa) := by
  obtain ⟨ta, pa, ha⟩ := ha.ex
  refine ⟨_, pe_un un_neg pa, fun F0 H0 F ρ σ H Q d S e q => ?_⟩
  unfold eNeg at e
  cases h : fa ρ with
  | none => rw [h] at e; cases e
  | some d' =>
    rw [h] at e
    refine ha F0 H0 F ρ σ H _ d' S h fun v F1 H1 g r => ?_
    cases d' <;> first | (cases e; done) | skip
    cases e
    cases r
    exact ⟨_, rfl, q _ F1 H1 g (.int _)⟩

/-! ### displays -/
abbrev AFn := DEnv → Option (List PyData)
def evs : List EFn → AFn
  | [], _ => some []
  | f :: fs, ρ => (f ρ).bind fun d => (evs fs ρ).map (d :: ·)
def EaOk (K : PySem.W.Frag) (ta : TA) (n : Nat) (f : AFn) : Prop := ∀ F0 H0 F ρ σ H Q ds, StF K F0 H0 F ρ σ H → f ρ = some ds → (∀ vs F' H', Grow F H F' H' → RpAll K F' vs ds → vs.length = n → Q vs H') → ta σ H Q
structure DA (X : Cx) (es : List Expr) (f : AFn) : Prop where
  ex : ∃ ta, PA X es ta ∧ EaOk X.K ta es.length f
theorem da_nil : DA X [] (evs []) := ⟨_, pa_nil, fun F0 H0 F ρ σ H Q ds S e q => by cases e; exact q [] F H (.refl S.gr.fh) .nil rfl⟩
theorem da_cons {es : List Expr} {fs : List EFn} (ha : DEs X a fa) (hr : DA X es (evs fs)) (hs : starEach (a :: es) X.env = (false, eval a X.env) :: starEach es X.env := by rfl) : DA X (a :: es) (evs (fa :: fs)) := by
  obtain ⟨ta, pa, ha⟩ := ha.ex
  obtain ⟨tr, pr, hr⟩ := hr.ex
  refine ⟨_, pa_cons pa pr hs, fun F0 H0 F ρ σ H Q ds S e q => ?_⟩
  obtain ⟨d, e1, e2⟩ := Option.bind_eq_some_iff.mp (show (fa ρ).bind (fun d => (evs fs ρ).map (d :: ·)) = some ds from e)
  obtain ⟨es', e3, e4⟩ := Option.map_eq_some_iff.mp e2
  subst e4
  refine ha F0 H0 F ρ σ H _ d S e1 fun v F1 H1 g r => ?_
  refine hr F0 H0 F1 ρ σ H1 _ es' (S.grow g) e3 fun vs F2 H2 g2 r2 hl => ?_
  exact q (v :: vs) F2 H2 (g.trans g2) (.cons (Rp.mono g2.ff _ _ r) r2) (by rw [List.length_cons, hl, List.length_cons])
def eTup (f : AFn) : EFn := fun ρ => (f ρ).map .tuple
theorem small100 {n : Nat} (h : n ≤ 100) : n ≤ sizeLine := by rw [sizeLine_eq]; omega
theorem de_tup {es : List Expr} {x1} {fs : AFn} (h : DA X es fs) (hn : es.length ≤ 100 := by decide) : DEs X (.Tuple es x1 pos) (eTup fs) := by
  obtain ⟨ta, pa, h⟩ := h.ex
  refine ⟨_, pe_tup pa, fun F0 H0 F ρ σ H Q d S e q => ?_⟩
  obtain ⟨ds, e1, e2⟩ := Option.map_eq_some_iff.mp e
  subst e2
  refine h F0 H0 F ρ σ H _ ds S e1 fun vs F1 H1 g r hl => ⟨by rw [hl]; exact small100 hn, fun p hp => ?_⟩
  have g2 := Grow.froz (o := .tup vs) g.fh hp
  exact q _ _ _ (g.trans g2) (.tup (SqT.of upd_same) (RpAll.mono g2.ff _ _ r))
theorem de_lst {es : List Expr} {fs : AFn} (h : DA X es fs) (hn : es.length ≤ 100 := by decide) : DEo X (.List es pos) fs := by
  obtain ⟨ta, pa, h⟩ := h.ex
  refine ⟨_, pe_lst pa, fun F0 H0 F ρ σ H Q ds S e q => ?_⟩
  refine h F0 H0 F ρ σ H _ ds S e fun vs F1 H1 g r hl => ⟨by rw [hl]; exact small100 hn, fun p hp => ?_⟩
  have hp0 : H p = none := g.hh.free hp
  exact q p vs F1 _ (g.trans (Grow.own g.fh hp)) hp0 (none_of g.fh hp) upd_same r

/-! ### list + list, slices, list(..) -/
def rCatQ (K : PySem.W.Frag) : R2 := fun x y H Q => ∃ l b xs zs, x = .ref l ∧ y = .ref b ∧ SqL K H l xs ∧ SqL K H b zs ∧ xs.length + zs.length ≤ sizeLine ∧ ∀ p, H p = none → Q (.ref p) (upd H p (.lst (xs ++ zs)))
def oCat (fa fb : EFn) : OFn := fun ρ => match fa ρ with
  | some (.list xs) => (match fb ρ with | some (.list ys) => if xs.length + ys.length ≤ 1000000 then some (xs ++ ys) else none | _ => none)
  | _ => none
theorem small1m {n : Nat} (h : n ≤ 1000000) : n ≤ sizeLine := by rw [sizeLine_eq]; omega
theorem small1l {n : Nat} (h : n ≤ 1000000) : n < sizeLine := by rw [sizeLine_eq]; omega
theorem de_cat (ha : DEs X a fa) (hb : DEs X b fb) : DEo X (.BinOp a .Add b pos) (oCat fa fb) := by
  obtain ⟨ta, pa, ha⟩ := ha.ex
  obtain ⟨tb, pb, hb⟩ := hb.ex
  refine ⟨_, pe_op op_cat pa pb, fun F0 H0 F ρ σ H Q ds S e q => ?_⟩
  unfold oCat at e
  cases h1 : fa ρ with
  | none => rw [h1] at e; cases e
  | some x =>
    rw [h1] at e
    cases x <;> first | (cases e; done) | skip
    rename_i xs
    cases h2 : fb ρ with
    | none => rw [h2] at e; cases e
    | some y =>
      rw [h2] at e
      cases y <;> first | (cases e; done) | skip
      rename_i ys
      have e' : (if xs.length + ys.length ≤ 1000000 then some (xs ++ ys) else none) = some ds := e
      rw [Option.ite_none_right_eq_some] at e'
      obtain ⟨hl, e3⟩ := e'
      cases e3
      refine ha F0 H0 F ρ σ H _ _ S h1 fun v F1 H1 g1 r1 => ?_
      refine hb F0 H0 F1 ρ σ H1 _ _ (S.grow g1) h2 fun w F2 H2 g2 r2 => ?_
      cases r1 with
      | lst f1 a1 =>
        cases r2 with
        | lst f2 a2 =>
          refine ⟨_, _, _, _, rfl, rfl, g2.fh _ _ (g2.ff _ _ f1), g2.fh _ _ f2, by rw [a1.length, a2.length]; exact small1m hl, fun p hp => ?_⟩
          have g12 := g1.trans g2
          exact q p _ F2 _ (g12.trans (Grow.own g12.fh hp)) (g12.hh.free hp) (none_of g12.fh hp) upd_same ((RpAll.mono g2.ff _ _ a1).append a2)
/-- a slice's end -/
abbrev PFn := DEnv → Option (Option Int)
def EpOk (K : PySem.W.Frag) (to : TO) (f : PFn) : Prop := ∀ F0 H0 F ρ σ H Q o, StF K F0 H0 F ρ σ H → f ρ = some o → (∀ F' H', Grow F H F' H' → Q o H') → to σ H Q
structure DP (X : Cx) (e : Option Expr) (f : PFn) : Prop where
  ex : ∃ to, PO X e to ∧ EpOk X.K to f
def pNone : PFn := fun _ => some none
def pSome (f : EFn) : PFn := fun ρ => match f ρ with | some (.int i) => some (some i) | _ => none
theorem dp_none : DP X none pNone := ⟨_, po_none, fun F0 H0 F ρ σ H Q o S e q => by cases e; exact q F H (.refl S.gr.fh)⟩
theorem dp_some (h : DEs X e f) : DP X (some e) (pSome f) := by
  obtain ⟨te, p, h⟩ := h.ex
  refine ⟨_, po_some p, fun F0 H0 F ρ σ H Q o S e q => ?_⟩
  unfold pSome at e
  cases h1 : f ρ with
  | none => rw [h1] at e; cases e
  | some x =>
    rw [h1] at e
    cases x <;> first | (cases e; done) | skip
    cases e
    refine h F0 H0 F ρ σ H _ _ S h1 fun v F1 H1 g1 r1 => ?_
    cases r1
    exact ⟨_, rfl, q F1 H1 g1⟩
def cutD (xs : List PyData) (lo hi : Option Int) : List PyData := (xs.drop (HT.sIx xs.length 0 lo)).take (HT.sIx xs.length xs.length hi - HT.sIx xs.length 0 lo)
theorem cut_rp {K : PySem.W.Frag} {F : Hp} {vs : List V} {ds : List PyData} (r : RpAll K F vs ds) (lo hi : Option Int) : RpAll K F (cutV vs lo hi) (cutD ds lo hi) := by
  unfold cutV cutD
  rw [r.length]
  exact (r.drop _).take _
def oSl (fa : EFn) (fl fh : PFn) : OFn := fun ρ => match fa ρ with
  | some (.list xs) => (fl ρ).bind fun lo => (fh ρ).bind fun hi => some (cutD xs lo hi)
  | _ => none
def eSl (fa : EFn) (fl fh : PFn) : EFn := fun ρ => match fa ρ with
  | some (.str z) => (fl ρ).bind fun lo => (fh ρ).bind fun hi => if z.length ≤ 1000000 then some (.str (cutS z lo hi)) else none
  | _ => none
theorem de_slL {lo hi : Option Expr} {p2} {fl fh : PFn} (ha : DEw X a fa) (hl : DP X lo fl) (hh : DP X hi fh) : DEo X (.Subscript a (.Slice lo hi none p2) pos) (oSl fa fl fh) := by
  obtain ⟨ta, pa, ha⟩ := ha.ex
  obtain ⟨tl, pl, hl⟩ := hl.ex
  obtain ⟨th, ph, hh⟩ := hh.ex
  refine ⟨_, pe_slice sl_list pa pl ph, fun F0 H0 F ρ σ H Q ds S e q => ?_⟩
  unfold oSl at e
  cases h1 : fa ρ with
  | none => rw [h1] at e; cases e
  | some x =>
    rw [h1] at e
    cases x <;> first | (cases e; done) | skip
    rename_i xs
    obtain ⟨l, e1, e2⟩ := Option.bind_eq_some_iff.mp (show (fl ρ).bind (fun lo => (fh ρ).bind fun hi => some (cutD xs lo hi)) = some ds from e)
    obtain ⟨h, e3, e4⟩ := Option.bind_eq_some_iff.mp e2
    cases e4
    refine ha F0 H0 F ρ σ H _ _ S h1 fun v F1 H1 g1 r1 => ?_
    refine hl F0 H0 F1 ρ σ H1 _ l (S.grow g1) e1 fun F2 H2 g2 => ?_
    refine hh F0 H0 F2 ρ σ H2 _ h ((S.grow g1).grow g2) e3 fun F3 H3 g3 => ?_
    have g23 := g2.trans g3
    obtain ⟨a', vs, rfl, q1, q2⟩ := (r1.grow g23).list g3.fh
    refine ⟨a', vs, rfl, q1, fun p hp => ?_⟩
    have g := g1.trans g23
    exact q p _ F3 _ (g.trans (Grow.own g.fh hp)) (g.hh.free hp) (none_of g.fh hp) upd_same (cut_rp q2 l h)
theorem de_slS {lo hi : Option Expr} {p2} {fl fh : PFn} (ha : DEw X a fa) (hl : DP X lo fl) (hh : DP X hi fh) : DEs X (.Subscript a (.Slice lo hi none p2) pos) (eSl fa fl fh) := by
  obtain ⟨ta, pa, ha⟩ := ha.ex
  obtain ⟨tl, pl, hl⟩ := hl.ex
  obtain ⟨th, ph, hh⟩ := hh.ex
  refine ⟨_, pe_slice sl_str pa pl ph, fun F0 H0 F ρ σ H Q d S e q => ?_⟩
  unfold eSl at e
  cases h1 : fa ρ with
  | none => rw [h1] at e; cases e
  | some x =>
    rw [h1] at e
    cases x <;> first | (cases e; done) | skip
    rename_i z
    obtain ⟨l, e1, e2⟩ := Option.bind_eq_some_iff.mp (show (fl ρ).bind (fun lo => (fh ρ).bind fun hi => if z.length ≤ 1000000 then some (PyData.str (cutS z lo hi)) else none) = some d from e)
    obtain ⟨h, e3, e4⟩ := Option.bind_eq_some_iff.mp e2
    rw [Option.ite_none_right_eq_some] at e4
    obtain ⟨hz, e5⟩ := e4
    cases e5
    refine ha F0 H0 F ρ σ H _ _ S h1 fun v F1 H1 g1 r1 => ?_
    refine hl F0 H0 F1 ρ σ H1 _ l (S.grow g1) e1 fun F2 H2 g2 => ?_
    refine hh F0 H0 F2 ρ σ H2 _ h ((S.grow g1).grow g2) e3 fun F3 H3 g3 => ?_
    exact ⟨z, r1.str, small1m hz, q _ F3 H3 (g1.trans (g2.trans g3)) (.str _)⟩
end
end L2.RC

namespace L2.RC
open PySem PySem.Spec PyProof.Rows
section
variable {X : Cx} {EX : EXX} {e a b c : Expr} {pos p : Pos} {f fa fb : EFn}
/-! ### built-in functions of one argument -/
def eUn (g : PyData → Option PyData) (fa : EFn) : EFn := fun ρ => (fa ρ).bind g
def COk1 (K : PySem.W.Frag) (r : List V → Hp → VK → Prop) (g : PyData → Option PyData) : Prop :=
  ∀ F H x d z Q, Same F H → Rw K F H x d → g d = some z → (∀ v F' H', Grow F H F' H' → Rp K F' v z → Q v H') → r [x] H Q
theorem es_cb {K : PySem.W.Frag} {r : List V → Hp → VK → Prop} {g : PyData → Option PyData} {ta : TE} (hr : COk1 K r g) (ha : EwOk K ta fa) : EsOk K (tCB r (tCons ta tNil)) (eUn g fa) := by
  intro F0 H0 F ρ σ H Q d S e q
  obtain ⟨x, e1, e2⟩ := Option.bind_eq_some_iff.mp e
  refine ha F0 H0 F ρ σ H _ x S e1 fun v F1 H1 g1 r1 => ?_
  exact hr F1 H1 v x d Q g1.fh r1 e2 fun w F2 H2 g2 r2 => q w F2 H2 (g1.trans g2) r2
theorem de_b1 {x : Str} {id : String} {r : List V → Hp → VK → Prop} {g : PyData → Option PyData} (hc : CallR X (.builtin id) r) (hr : COk1 X.K r g) (hm : X.mg x = none) (hv : bootBuiltins x = some (.builtin id)) (ha : DEw X a fa)
    (hg : Gl X x := by rfl) (hn : x ≠ "__name__" := by decide) (hdb : (x == ("__debug__" : Str)) = false := by decide) (hs : starEach [a] X.env = [(false, eval a X.env)] := by rfl) : DEs X (.Call (.Name x p) [a] [] pos) (eUn g fa) := by
  obtain ⟨ta, pa, ha⟩ := ha.ex
  exact ⟨_, pe_callB hc hg hm hv (pa_cons pa pa_nil hs) hn hdb hs rfl, es_cb hr ha⟩
def dLen : PyData → Option PyData
  | .list ds => some (.int ds.length)
  | .tuple ds => some (.int ds.length)
  | .str z => if z.length ≤ 1000000 then some (.int z.length) else none
  | _ => none
theorem cok_len {K : PySem.W.Frag} : COk1 K (fun xs H Q => (∃ p ys, xs = [.ref p] ∧ (SqL K H p ys ∨ SqT K H p ys) ∧ Q (.int ys.length) H) ∨ ∃ z, xs = [.str z] ∧ z.length ≤ sizeLine ∧ Q (.int z.length) H) dLen := by
  intro F H x d z Q s rx hz q
  cases d <;> simp only [dLen, reduceCtorEq, Option.some.injEq] at hz
  · rw [Option.ite_none_right_eq_some] at hz
    obtain ⟨h1, h2⟩ := hz
    cases h2
    exact .inr ⟨_, by rw [rx.str], small1m h1, q _ F H (.refl s) (.int _)⟩
  · subst hz
    obtain ⟨p, vs, rfl, h1, h2⟩ := rx.list s
    exact .inl ⟨p, vs, rfl, .inl h1, by rw [h2.length]; exact q _ F H (.refl s) (.int _)⟩
  · subst hz
    obtain ⟨p, vs, rfl, h1, h2⟩ := rx.tuple s
    exact .inl ⟨p, vs, rfl, .inr h1, by rw [h2.length]; exact q _ F H (.refl s) (.int _)⟩
theorem de_len (hm : X.mg "len" = none) (ha : DEw X a fa) (hg : Gl X "len" := by rfl) (hs : starEach [a] X.env = [(false, eval a X.env)] := by rfl) : DEs X (.Call (.Name "len" p) [a] [] pos) (eUn dLen fa) :=
  de_b1 (call_len_seq.or call_len_str) cok_len hm PySem.boot_len ha hg (by decide) (by decide) hs
def dAbs : PyData → Option PyData
  | .int i => some (.int (if i < 0 then -i else i))
  | _ => none
theorem cok_abs {K : PySem.W.Frag} : COk1 K (fun xs H Q => ∃ i, xs = [.int i] ∧ Q (.int (if i < 0 then -i else i)) H) dAbs := by
  intro F H x d z Q s rx hz q
  cases d <;> simp only [dAbs, reduceCtorEq, Option.some.injEq] at hz
  subst hz
  exact ⟨_, by rw [rx.int], q _ F H (.refl s) (.int _)⟩
theorem de_abs (hm : X.mg "abs" = none) (ha : DEw X a fa) (hg : Gl X "abs" := by rfl) (hs : starEach [a] X.env = [(false, eval a X.env)] := by rfl) : DEs X (.Call (.Name "abs" p) [a] [] pos) (eUn dAbs fa) :=
  de_b1 call_abs cok_abs hm (by decide +kernel) ha hg (by decide) (by decide) hs
def intsOf : List PyData → Option (List Int)
  | [] => some []
  | .int i :: ds => (intsOf ds).map (i :: ·)
  | _ :: _ => none
theorem intsOf_eq : ∀ {ds : List PyData} {ns : List Int}, intsOf ds = some ns → ds = ns.map .int
  | [], ns, h => by cases h; rfl
  | .int i :: ds, ns, h => by
    obtain ⟨ms, h1, h2⟩ := Option.map_eq_some_iff.mp (show (intsOf ds).map (i :: ·) = some ns from h)
    subst h2
    rw [intsOf_eq h1] <;> rfl
  | .none :: _, _, h => by cases h
  | .bool _ :: _, _, h => by cases h
  | .str _ :: _, _, h => by cases h
  | .list _ :: _, _, h => by cases h
  | .tuple _ :: _, _, h => by cases h
  | .dict _ :: _, _, h => by cases h
theorem intsOf_map : ∀ (ns : List Int), intsOf (ns.map .int) = some ns
  | [] => rfl
  | n :: ns => by
    show (intsOf (ns.map .int)).map (n :: ·) = _
    rw [intsOf_map ns] <;> rfl
def maxL (n : Int) (ns : List Int) : Int := ns.foldl (fun a b => if a < b then b else a) n
theorem maxL_ge : ∀ (ns : List Int) (n : Int), n ≤ maxL n ns ∧ ∀ y ∈ ns, y ≤ maxL n ns
  | [], n => ⟨Int.le_refl _, fun _ h => by cases h⟩
  | m :: ns, n => by
    obtain ⟨h1, h2⟩ := maxL_ge ns (if n < m then m else n)
    have e : maxL n (m :: ns) = maxL (if n < m then m else n) ns := rfl
    rw [e]
    generalize maxL (if n < m then m else n) ns = z at h1 h2
    refine ⟨?_, fun y hy => ?_⟩
    · split at h1 <;> omega
    · rcases List.mem_cons.mp hy with hy | hy
      · rw [hy]; split at h1 <;> omega
      · exact h2 y hy
theorem maxL_mem : ∀ (ns : List Int) (n : Int), maxL n ns ∈ n :: ns
  | [], n => List.mem_singleton.mpr rfl
  | m :: ns, n => by
    have h := maxL_mem ns (if n < m then m else n)
    have e : maxL n (m :: ns) = maxL (if n < m then m else n) ns := rfl
    rw [e]
    rcases List.mem_cons.mp h with h | h
    · rw [h]
      split
      · exact List.mem_cons_of_mem _ List.mem_cons_self
      · exact List.mem_cons_self
    · exact List.mem_cons_of_mem _ (List.mem_cons_of_mem _ h)
def dMax : PyData → Option PyData
  | .list ds => match intsOf ds with
    | some (n :: ns) => some (.int (maxL n ns))
    | _ => none
  | _ => none
theorem cok_max {K : PySem.W.Frag} : COk1 K (rMax K) dMax := by
  intro F H x d z Q s rx hz q
  cases d <;> simp only [dMax, reduceCtorEq] at hz
  rename_i ds
  cases h : intsOf ds with
  | none => rw [h] at hz; cases hz
  | some l =>
    rw [h] at hz
    cases l with
    | nil => cases hz
    | cons n ns =>
      cases hz
      have hd := intsOf_eq h
      subst hd
      obtain ⟨p, vs, rfl, h1, h2⟩ := rx.list s
      rw [h2.ints] at h1
      refine ⟨p, n :: ns, rfl, h1, Nat.succ_pos _, fun m hm hall => ?_⟩
      have e : m = maxL n ns := by
        obtain ⟨g1, g2⟩ := maxL_ge ns n
        have a1 := hall _ (maxL_mem ns n)
        rcases List.mem_cons.mp hm with rfl | hm
        · omega
        · have := g2 m hm; omega
      rw [e]
      exact q _ F H (.refl s) (.int _)
theorem de_max (hm : X.mg "max" = none) (ha : DEw X a fa) (hc : X.calm = true := by rfl) (hg : Gl X "max" := by rfl) (hs : starEach [a] X.env = [(false, eval a X.env)] := by rfl) : DEs X (.Call (.Name "max" p) [a] [] pos) (eUn dMax fa) :=
  de_b1 (cr_max hc) cok_max hm (by decide +kernel) ha hg (by decide) (by decide) hs
def boolsOf : List PyData → Option (List Bool)
  | [] => some []
  | .bool i :: ds => (boolsOf ds).map (i :: ·)
  | _ :: _ => none
theorem boolsOf_eq : ∀ {ds : List PyData} {ns : List Bool}, boolsOf ds = some ns → ds = ns.map .bool
  | [], ns, h => by cases h; rfl
  | .bool i :: ds, ns, h => by
    obtain ⟨ms, h1, h2⟩ := Option.map_eq_some_iff.mp (show (boolsOf ds).map (i :: ·) = some ns from h)
    subst h2
    rw [boolsOf_eq h1] <;> rfl
  | .none :: _, _, h => by cases h
  | .int _ :: _, _, h => by cases h
  | .str _ :: _, _, h => by cases h
  | .list _ :: _, _, h => by cases h
  | .tuple _ :: _, _, h => by cases h
  | .dict _ :: _, _, h => by cases h
def dAll : PyData → Option PyData
  | .list ds => match boolsOf ds with
    | some bs => some (.bool (bs.all id))
    | _ => none
  | _ => none
theorem cok_all {K : PySem.W.Frag} : COk1 K (rAll K) dAll := by
  intro F H x d z Q s rx hz q
  cases d <;> simp only [dAll, reduceCtorEq] at hz
  rename_i ds
  cases h : boolsOf ds with
  | none => rw [h] at hz; cases hz
  | some l =>
    rw [h] at hz
    cases hz
    have hd := boolsOf_eq h
    subst hd
    obtain ⟨p, vs, rfl, h1, h2⟩ := rx.list s
    rw [h2.bls] at h1
    exact ⟨p, l, rfl, h1, q _ F H (.refl s) (.bl _)⟩
theorem de_all (hm : X.mg "all" = none) (ha : DEw X a fa) (hc : X.calm = true := by rfl) (hg : Gl X "all" := by rfl) (hs : starEach [a] X.env = [(false, eval a X.env)] := by rfl) : DEs X (.Call (.Name "all" p) [a] [] pos) (eUn dAll fa) :=
  de_b1 (cr_all hc) cok_all hm (by decide +kernel) ha hg (by decide) (by decide) hs
/-- list(xs): a new list -/
def oLst (fa : EFn) : OFn := fun ρ => match fa ρ with | some (.list ds) => some ds | some (.tuple ds) => some ds | _ => none
theorem de_list (hm : X.mg "list" = none) (ha : DEw X a fa) (hg : Gl X "list" := by rfl) (hs : starEach [a] X.env = [(false, eval a X.env)] := by rfl) : DEo X (.Call (.Name "list" p) [a] [] pos) (oLst fa) := by
  obtain ⟨ta, pa, ha⟩ := ha.ex
  refine ⟨_, pe_callTy call_list_of hg hm (by decide +kernel) (pa_cons pa pa_nil hs) (by decide) (by decide) hs rfl, fun F0 H0 F ρ σ H Q ds S e q => ?_⟩
  unfold oLst at e
  cases h1 : fa ρ with
  | none => rw [h1] at e; cases e
  | some x =>
    rw [h1] at e
    refine ha F0 H0 F ρ σ H _ x S h1 fun v F1 H1 g1 r1 => ?_
    cases x <;> first | (cases e; done) | skip
    · cases e
      obtain ⟨l, vs, rfl, h1, h2⟩ := r1.list g1.fh
      exact ⟨l, vs, rfl, .inl h1, fun t ht => q t _ F1 _ (g1.trans (Grow.own g1.fh ht)) (g1.hh.free ht) (none_of g1.fh ht) upd_same h2⟩
    · cases e
      obtain ⟨l, vs, rfl, h1, h2⟩ := r1.tuple g1.fh
      exact ⟨l, vs, rfl, .inr h1, fun t ht => q t _ F1 _ (g1.trans (Grow.own g1.fh ht)) (g1.hh.free ht) (none_of g1.fh ht) upd_same h2⟩

/-! ### isinstance(x, T) -/
def tyNm : PyData → String
  | .none => "NoneType"
  | .bool _ => "bool"
  | .int _ => "int"
  | .str _ => "str"
  | .list _ => "list"
  | .tuple _ => "tuple"
  | .dict _ => "dict"
def dIsi (T : String) (d : PyData) : Option PyData := (kitB (tyNm d) T).map .bool
theorem tyx_of {K : PySem.W.Frag} {F H : Hp} {v : V} {d : PyData} (s : Same F H) (r : Rw K F H v d) : TyX K H v (.type (tyNm d)) := by
  have lst : ∀ {a : Addr} {vs : List V}, SqL K H a vs → TyX K H (.ref a) (.type "list") := fun {a vs} h => by
    rcases h with (h | ⟨o, h⟩) | ⟨o, its, n, h1, h2, _⟩
    · exact .base (.lst h)
    · exact .base (.frz h)
    · exact .kList h1 h2
  have tup : ∀ {a : Addr} {vs : List V}, SqT K H a vs → TyX K H (.ref a) (.type "tuple") := fun {a vs} h => by
    rcases h with (h | ⟨o, h⟩) | ⟨o, its, n, h1, h2, _⟩
    · exact .base (.tup h)
    · exact .fTuple h
    · exact .kTuple h1 h2
  rcases r with r | ⟨a, vs, ds, rfl, rfl, h1, _⟩
  · cases r with
    | non => exact .base .non
    | bl b => exact .base (.bl b)
    | int i => exact .base (.int i)
    | str x => exact .base (.str x)
    | lst h1 h2 => exact lst (SqL.of (s _ _ h1))
    | tup h1 h2 => exact tup (seqT_same s h1)
  · exact lst h1
theorem de_isi {T : String} {y : Str} {q : Pos} (hm : X.mg "isinstance" = none) (hT : X.mg y = none) (hv : bootBuiltins y = some (.type T)) (ha : DEw X a fa) (hg : Gl X "isinstance" := by rfl) (hgT : Gl X y := by rfl)
    (hn : y ≠ "__name__" := by decide) (hdb : (y == ("__debug__" : Str)) = false := by decide)
    (hs : starEach [a, .Name y q] X.env = (false, eval a X.env) :: starEach [.Name y q] X.env := by rfl) (hs2 : starEach [.Name y q] X.env = [(false, eval (.Name y q) X.env)] := by rfl) (hpl : (backTo pos (starEach [.Name y q] X.env)).any (·.1) = false := by rfl) :
    DEs X (.Call (.Name "isinstance" p) [a, .Name y q] [] pos) (eUn (dIsi T) fa) := by
  obtain ⟨ta, pa, ha⟩ := ha.ex
  refine ⟨_, pe_callB call_isi hg hm (by decide +kernel) (pa_cons pa (pa_cons (pe_bltn (v := .ty T) hgT hT hv rfl hn hdb) pa_nil hs2) hs) (by decide) (by decide) hs hpl, fun F0 H0 F ρ σ H Q d S e q => ?_⟩
  obtain ⟨x, e1, e2⟩ := Option.bind_eq_some_iff.mp e
  obtain ⟨k, e3, e4⟩ := Option.map_eq_some_iff.mp (show (kitB (tyNm x) T).map PyData.bool = some d from e2)
  subst e4
  refine ha F0 H0 F ρ σ H _ x S e1 fun v F1 H1 g1 r1 => ?_
  exact ⟨v, .ty T, .type (tyNm x), .type T, k, rfl, .ty T, tyx_of g1.fh r1, kit_ty e3, q _ F1 H1 g1 (.bl _)⟩

/-! ### states -/
section
variable {K : PySem.W.Frag} {F0 H0 F H F1 H1 : Hp} {ρ : DEnv} {σ : St}
theorem getD_set {α : Type} {l : List α} {i j : Nat} {x y : α} (h : (l.set i x)[j]? = some y) : (j = i ∧ y = x) ∨ (j ≠ i ∧ l[j]? = some y) := by
  by_cases e : i = j
  · subst e
    by_cases hl : i < l.length
    · rw [List.getElem?_set_self hl] at h
      exact .inl ⟨rfl, (Option.some.inj h).symm⟩
    · rw [List.getElem?_eq_none (by rw [List.length_set]; omega)] at h
      cases h
  · rw [List.getElem?_set_ne e] at h
    exact .inr ⟨fun z => e z.symm, h⟩
theorem StF.setZ {i : Nat} {v : V} {d : PyData} (S : StF K F0 H0 F ρ σ H) (r : Rp K F v d) : StF K F0 H0 F (ρ.set i (.fz d)) (σ.set i (some v)) H := by
  refine ⟨S.gr, fun j s e => ?_, fun j k a ds es h1 h2 h3 h4 => ?_, by rw [List.length_set, List.length_set, S.len]⟩
  · rcases getD_set e with ⟨rfl, rfl⟩ | ⟨hj, e⟩
    · have hl : j < (ρ.set j (Sl.fz d)).length := (List.getElem?_eq_some_iff.mp e).1
      rw [List.length_set, S.len] at hl
      exact ⟨v, List.getElem?_set_self hl, r⟩
    · rw [List.getElem?_set_ne (Ne.symm hj)]
      exact S.sl j s e
  · rcases getD_set h1 with ⟨_, z⟩ | ⟨hj, h1⟩
    · cases z
    · rcases getD_set h2 with ⟨_, z⟩ | ⟨hk, h2⟩
      · cases z
      · rw [List.getElem?_set_ne (Ne.symm hj)] at h3
        rw [List.getElem?_set_ne (Ne.symm hk)] at h4
        exact S.sep j k a ds es h1 h2 h3 h4
theorem StF.setO {i : Nat} {p : Addr} {vs : List V} {ds : List PyData} (S : StF K F0 H0 F ρ σ H) (g : Grow F H F1 H1) (n1 : H p = none) (n2 : F1 p = none) (hp : H1 p = some (.lst vs)) (r : RpAll K F1 vs ds) :
    StF K F0 H0 F1 (ρ.set i (.ow ds)) (σ.set i (some (.ref p))) H1 := by
  have S1 := S.grow g
  have old : ∀ (j : Nat) es, ρ[j]? = some (Sl.ow es) → σ[j]? ≠ some (some (.ref p)) := fun j es h1 h2 => by
    obtain ⟨a, ws, e, h, _⟩ := S.sl j _ h1
    rw [h2] at e
    cases e
    rw [n1] at h; cases h
  refine ⟨S1.gr, fun j s e => ?_, fun j k a ds' es h1 h2 h3 h4 => ?_, by rw [List.length_set, List.length_set, S.len]⟩
  · rcases getD_set e with ⟨rfl, rfl⟩ | ⟨hj, e⟩
    · have hl : j < (ρ.set j (Sl.ow ds)).length := (List.getElem?_eq_some_iff.mp e).1
      rw [List.length_set, S.len] at hl
      exact ⟨p, vs, List.getElem?_set_self hl, hp, n2, S.gr.hh.free n1, r⟩
    · rw [List.getElem?_set_ne (Ne.symm hj)]
      exact S1.sl j s e
  · rcases getD_set h1 with ⟨rfl, _⟩ | ⟨hj, h1⟩
    · rcases getD_set h2 with ⟨rfl, _⟩ | ⟨hk, h2⟩
      · rfl
      · rw [List.getElem?_set_ne (Ne.symm hk)] at h4
        have hl : j < σ.length := by
          by_cases hl : j < σ.length
          · exact hl
          · rw [List.getElem?_eq_none (by rw [List.length_set]; omega)] at h3; cases h3
        rw [List.getElem?_set_self hl] at h3
        cases h3
        exact absurd h4 (old k es h2)
    · rw [List.getElem?_set_ne (Ne.symm hj)] at h3
      have h1' := h1
      clear h1
      rcases getD_set h2 with ⟨rfl, _⟩ | ⟨hk, h2⟩
      · have hl : k < σ.length := by
          by_cases hl : k < σ.length
          · exact hl
          · rw [List.getElem?_eq_none (by rw [List.length_set]; omega)] at h4; cases h4
        rw [List.getElem?_set_self hl] at h4
        cases h4
        exact absurd h3 (old j ds' h1')
      · rw [List.getElem?_set_ne (Ne.symm hk)] at h4
        exact S.sep j k a ds' es h1' h2 h3 h4
/-- an own list is changed -/
theorem StF.write {i : Nat} {a : Addr} {ds es : List PyData} {vs ws : List V} (S : StF K F0 H0 F ρ σ H) (h : ρ[i]? = some (.ow ds)) (hs : σ[i]? = some (some (.ref a))) (r : RpAll K F ws es) :
    StF K F0 H0 F (ρ.set i (.ow es)) σ (upd H a (.lst ws)) := by
  obtain ⟨a', vs', e, ha, fa, za, ra⟩ := S.sl i _ h
  rw [hs] at e
  cases e
  have n0 : ∀ b o, H0 b = some o → b ≠ a := fun b o q z => by rw [z, za] at q; cases q
  have nF : ∀ b o, F b = some o → b ≠ a := fun b o q z => by rw [z, fa] at q; cases q
  refine ⟨⟨fun b o q => ?_, S.gr.ff, fun b o q => ?_, S.gr.ag⟩, fun j s e => ?_, fun j k b ds' es' h1 h2 h3 h4 => ?_, by rw [List.length_set, S.len]⟩
  · rw [upd_ne (n0 b o q)]; exact S.gr.hh b o q
  · rw [upd_ne (nF b o q)]; exact S.gr.fh b o q
  · rcases getD_set e with ⟨rfl, rfl⟩ | ⟨hj, e⟩
    · exact ⟨a, ws, hs, upd_same, fa, za, r⟩
    · have q := S.sl j s e
      cases s with
      | un => trivial
      | fz d => exact q
      | br ds' => exact q
      | ow ds' =>
        obtain ⟨b, us, e1, hb, fb, zb, rb⟩ := q
        refine ⟨b, us, e1, ?_, fb, zb, rb⟩
        rw [upd_ne]
        · exact hb
        · rintro rfl
          exact hj (S.sep j i b ds' ds e h e1 hs)
  · have f1 : ∃ ds1, ρ[j]? = some (.ow ds1) := by
      rcases getD_set h1 with ⟨rfl, _⟩ | ⟨_, h1⟩
      · exact ⟨_, h⟩
      · exact ⟨_, h1⟩
    have f2 : ∃ ds1, ρ[k]? = some (.ow ds1) := by
      rcases getD_set h2 with ⟨rfl, _⟩ | ⟨_, h2⟩
      · exact ⟨_, h⟩
      · exact ⟨_, h2⟩
    obtain ⟨d1, f1⟩ := f1
    obtain ⟨d2, f2⟩ := f2
    exact S.sep j k b d1 d2 f1 f2 h3 h4
/-- an own list is handed over: it stays as it is from here on -/
def frz (i : Nat) (ρ : DEnv) : DEnv := match ρ[i]? with | some (.ow ds) => ρ.set i (.fz (.list ds)) | _ => ρ
theorem StF.frz (i : Nat) (S : StF K F0 H0 F ρ σ H) : ∃ F', StF K F0 H0 F' (frz i ρ) σ H := by
  unfold RC.frz
  split
  · rename_i ds h
    obtain ⟨a, vs, hs, ha, fa, za, ra⟩ := S.sl i _ h
    have up : Same F (upd F a (.lst vs)) := same_upd fa
    refine ⟨upd F a (.lst vs), ⟨S.gr.hh, S.gr.ff.trans up, fun b o q => ?_, fun b o q => ?_⟩, fun j s e => ?_, fun j k b ds' es' h1 h2 h3 h4 => ?_, by rw [List.length_set, S.len]⟩
    · by_cases hb : b = a
      · subst hb; rw [upd_same] at q; rw [ha]; exact q
      · rw [upd_ne hb] at q; exact S.gr.fh b o q
    · rw [upd_ne (fun z => by rw [z, za] at q; cases q)]
      exact S.gr.ag b o q
    · rcases getD_set e with ⟨rfl, rfl⟩ | ⟨hj, e⟩
      · exact ⟨_, hs, .lst upd_same (RpAll.mono up _ _ ra)⟩
      · have q := S.sl j s e
        cases s with
        | un => trivial
        | fz d => obtain ⟨v, e1, r⟩ := q; exact ⟨v, e1, Rp.mono up _ _ r⟩
        | br ds' => obtain ⟨b, us, e1, hb, r⟩ := q; exact ⟨b, us, e1, hb, RpAll.mono up _ _ r⟩
        | ow ds' =>
          obtain ⟨b, us, e1, hb, fb, zb, rb⟩ := q
          refine ⟨b, us, e1, hb, ?_, zb, RpAll.mono up _ _ rb⟩
          rw [upd_ne]
          · exact fb
          · rintro rfl
            exact hj (S.sep j i b ds' ds e h e1 hs)
    · rcases getD_set h1 with ⟨_, z⟩ | ⟨_, h1⟩
      · cases z
      · rcases getD_set h2 with ⟨_, z⟩ | ⟨_, h2⟩
        · cases z
        · exact S.sep j k b ds' es' h1 h2 h3 h4
  · exact ⟨F, S⟩
end

/-! ### statements -/
variable {st : Stmt} {sts : List Stmt} {fs gs : SFn} {ft : TFn} {i : Nat} {x : Str} {pos' : Pos}
/-- ahead of a statement an own list is handed over -/
theorem ds_frz (i : Nat) (h : DS X EX st fs) : DS X EX st (fun ρ => fs (frz i ρ)) := by
  obtain ⟨ts, ps, h⟩ := h.ex
  refine ⟨ts, ps, fun F0 H0 F ρ σ H D S q => ?_⟩
  obtain ⟨F', S'⟩ := S.frz i
  exact h F0 H0 F' _ σ H D S' q
theorem dss_frz (i : Nat) (h : DSs X EX sts fs) : DSs X EX sts (fun ρ => fs (frz i ρ)) := by
  obtain ⟨ts, ps, h⟩ := h.ex
  refine ⟨ts, ps, fun F0 H0 F ρ σ H D S q => ?_⟩
  obtain ⟨F', S'⟩ := S.frz i
  exact h F0 H0 F' _ σ H D S' q
def sFrz (i : Nat) (f : SFn) : SFn := fun ρ => f (frz i ρ)
def sNil : SFn := fun ρ => .nx ρ
def sSeq (f g : SFn) : SFn := fun ρ => match f ρ with | .nx ρ' => g ρ' | o => o
theorem dss_nil : DSs X EX [] sNil := ⟨_, pss_nil, fun F0 H0 F ρ σ H D S q => q F σ H S⟩
theorem dss_cons (h1 : DS X EX st fs) (h2 : DSs X EX sts gs) : DSs X EX (st :: sts) (sSeq fs gs) := by
  obtain ⟨t, p1, h1⟩ := h1.ex
  obtain ⟨u, p2, h2⟩ := h2.ex
  refine ⟨_, pss_cons p1 p2, fun F0 H0 F ρ σ H D S q => ?_⟩
  refine h1 F0 H0 F ρ σ H { D with nx := u D } S ?_
  unfold sSeq at q
  cases e : fs ρ with
  | nx ρ' =>
    rw [e] at q
    exact fun F' σ' H' S' => h2 F0 H0 F' ρ' σ' H' D S' q
  | _ => rw [e] at q; exact q
theorem dss_one (h1 : DS X EX st fs) : DSs X EX [st] fs := by
  obtain ⟨t, p1, h1⟩ := h1.ex
  exact ⟨t, pss_one p1, h1⟩
def sIf (ft : TFn) (f g : SFn) : SFn := fun ρ => match ft ρ with | some true => f ρ | some false => g ρ | none => .no
theorem ds_if {c : Expr} {xs ys : List Stmt} (hc : DT X c ft) (ha : DSs X EX xs fs) (hb : DSs X EX ys gs) : DS X EX (.If c xs ys pos) (sIf ft fs gs) := by
  obtain ⟨tc, pc, hc⟩ := hc.ex
  obtain ⟨t, p1, h1⟩ := ha.ex
  obtain ⟨u, p2, h2⟩ := hb.ex
  refine ⟨_, ps_if pc p1 p2, fun F0 H0 F ρ σ H D S q => ?_⟩
  unfold sIf at q
  cases e : ft ρ with
  | none => rw [e] at q; exact q.elim
  | some k =>
    rw [e] at q
    refine hc F0 H0 F ρ σ H _ k S e fun F1 H1 g => ?_
    cases k with
    | true => exact iteT (h1 F0 H0 F1 ρ σ H1 D (S.grow g) q)
    | false => exact iteF (h2 F0 H0 F1 ρ σ H1 D (S.grow g) q)
def sRet (f : EFn) : SFn := fun ρ => match f ρ with | some d => .rt d | none => .no
theorem ds_ret (h : DEs X e f) : DS X EX (.Return (some e) pos) (sRet f) := by
  obtain ⟨te, p, h⟩ := h.ex
  refine ⟨_, ps_ret p, fun F0 H0 F ρ σ H D S q => ?_⟩
  unfold sRet at q
  cases e1 : f ρ with
  | none => rw [e1] at q; exact q.elim
  | some d =>
    rw [e1] at q
    exact h F0 H0 F ρ σ H _ d S e1 fun v F1 H1 g r => q v F1 H1 (S.gr.trans g) r
def sSet (i : Nat) (f : EFn) : SFn := fun ρ => match f ρ with | some d => .nx (ρ.set i (.fz d)) | none => .no
theorem ds_set (i : Nat) (h : DEs X e f) (hN : X.N.Nodup) (hi : X.N[i]? = some x := by rfl) (hx : Loc X.env.scope x := by first | exact Or.inl rfl | exact Or.inr rfl) (hs : swapsWith e (some (.Name x pos')) pos.line X.env = pure false := by rfl)
    (hf : X.fn x = true ∨ X.env.scope.names.lookup x = some .local := by first | exact .inl rfl | exact .inr rfl) : DS X EX (.Assign [.Name x pos'] e pos) (sSet i f) := by
  obtain ⟨te, p, h⟩ := h.ex
  refine ⟨_, L2.ps_set hN hi hx p hs hf, fun F0 H0 F ρ σ H D S q => ?_⟩
  unfold sSet at q
  cases e1 : f ρ with
  | none => rw [e1] at q; exact q.elim
  | some d =>
    rw [e1] at q
    exact h F0 H0 F ρ σ H _ d S e1 fun v F1 H1 g r => q F1 _ H1 ((S.grow g).setZ r)
def sSetO (i : Nat) (f : OFn) : SFn := fun ρ => match f ρ with | some ds => .nx (ρ.set i (.ow ds)) | none => .no
theorem ds_setO (i : Nat) {fo : OFn} (h : DEo X e fo) (hN : X.N.Nodup) (hi : X.N[i]? = some x := by rfl) (hx : Loc X.env.scope x := by first | exact Or.inl rfl | exact Or.inr rfl) (hs : swapsWith e (some (.Name x pos')) pos.line X.env = pure false := by rfl)
    (hf : X.fn x = true ∨ X.env.scope.names.lookup x = some .local := by first | exact .inl rfl | exact .inr rfl) : DS X EX (.Assign [.Name x pos'] e pos) (sSetO i fo) := by
  obtain ⟨te, p, h⟩ := h.ex
  refine ⟨_, L2.ps_set hN hi hx p hs hf, fun F0 H0 F ρ σ H D S q => ?_⟩
  unfold sSetO at q
  cases e1 : fo ρ with
  | none => rw [e1] at q; exact q.elim
  | some ds =>
    rw [e1] at q
    exact h F0 H0 F ρ σ H _ ds S e1 fun t vs F1 H1 g n1 n2 hp r => q F1 _ H1 (S.setO g n1 n2 hp r)

/-! ### an own list's methods -/
def sMut (i : Nat) (fa : EFn) (g : List PyData → PyData → Option (List PyData)) : SFn := fun ρ => match ρ[i]? with
  | some (.ow ds) => (match fa ρ with | some d => (match g ds d with | some es => .nx (ρ.set i (.ow es)) | none => .no) | none => .no)
  | _ => .no
theorem sMut_ok {K : PySem.W.Frag} {F0 H0 : Hp} {D : Ends} {g : List PyData → PyData → Option (List PyData)} {ρ : DEnv} (q : OutOk K F0 H0 D EX (sMut i fa g ρ)) :
    ∃ ds d es, ρ[i]? = some (.ow ds) ∧ fa ρ = some d ∧ g ds d = some es ∧ ∀ F σ H, StF K F0 H0 F (ρ.set i (.ow es)) σ H → D.nx σ H := by
  unfold sMut at q
  cases e1 : ρ[i]? with
  | none => rw [e1] at q; exact q.elim
  | some s =>
    rw [e1] at q
    cases s with
    | ow ds =>
      cases e2 : fa ρ with
      | none => rw [e2] at q; exact q.elim
      | some d =>
        rw [e2] at q
        cases e3 : g ds d with
        | none => simp only [e3] at q; exact q.elim
        | some es => simp only [e3] at q; exact ⟨ds, d, es, rfl, rfl, e3, q⟩
    | _ => exact q.elim
def lAppend (ds : List PyData) (d : PyData) : Option (List PyData) := if ds.length < 1000000 then some (ds ++ [d]) else none
theorem ds_append (i : Nat) {apos cpos : Pos} (h : DEs X e f) (hN : X.N[i]? = some x := by rfl) (hv : Vis X.env.scope x := by first | exact Or.inl rfl | exact Or.inr (Or.inl rfl) | exact Or.inr (Or.inr rfl)) (hd : (x == ("__debug__" : Str)) = false := by decide)
    (hcd : (x == ("__classdict__" : Str)) = false := by decide)
    (hbase : attributeBase (.Name x p) "append" X.env (eval (.Name x p) X.env) = eval (.Name x p) X.env := by rfl)
    (hfew : ((backTo cpos (starEach [e] X.env)).all (fun x => !x.1) && (backToKw cpos (keywordEach [] X.env)).all (fun x => x.1.isSome)
      && decide ([e].length + ([] : List Keyword).length + (if ([] : List Keyword).isEmpty then 0 else 1) < 30)) = true := by rfl)
    (hline : (apos.endLine == cpos.line) = true := by rfl) (hs : starEach [e] X.env = [(false, eval e X.env)] := by rfl)
    (hsw : swapsWith (.Call (.Attribute (.Name x p) "append" apos) [e] [] cpos) none pos.line X.env = pure false := by rfl) :
    DS X EX (.Expr (.Call (.Attribute (.Name x p) "append" apos) [e] [] cpos) pos) (sMut i f lAppend) := by
  obtain ⟨te, pe, h⟩ := h.ex
  refine ⟨_, ps_expr (pe_bm PySem.F.plainAttrs_list PySem.F.slot_list_append PySem.F.type_list_append mt_append (pe_var hN hv hd hcd) (pa_cons pe pa_nil hs) hbase hfew hline hs rfl) hsw, fun F0 H0 F ρ σ H D S q => ?_⟩
  obtain ⟨ds, d, es, e1, e2, e3, q⟩ := sMut_ok q
  obtain ⟨a, vs, hsg, ha, fa', za, ra⟩ := S.sl i _ e1
  unfold lAppend at e3
  rw [Option.ite_none_right_eq_some] at e3
  obtain ⟨hl, e4⟩ := e3
  cases e4
  refine ⟨_, hsg, .inl ⟨rfl, _, SqL.of ha⟩, h F0 H0 F ρ σ H _ d S e2 fun v F1 H1 g r => ?_⟩
  refine ⟨a, vs, v, rfl, rfl, g.hh _ _ ha, by rw [ra.length]; exact small1l (Nat.le_of_lt hl), ?_⟩
  exact q F1 σ _ ((S.grow g).write (vs := vs) e1 hsg ((RpAll.mono g.ff _ _ ra).append (.cons r .nil)))
def lExtend (ds : List PyData) (d : PyData) : Option (List PyData) := match d with | .list es => if ds.length + es.length ≤ 1000000 then some (ds ++ es) else none | _ => none
theorem ds_extend (i : Nat) {apos cpos : Pos} (h : DEs X e f) (hN : X.N[i]? = some x := by rfl) (hv : Vis X.env.scope x := by first | exact Or.inl rfl | exact Or.inr (Or.inl rfl) | exact Or.inr (Or.inr rfl)) (hd : (x == ("__debug__" : Str)) = false := by decide)
    (hcd : (x == ("__classdict__" : Str)) = false := by decide)
    (hbase : attributeBase (.Name x p) "extend" X.env (eval (.Name x p) X.env) = eval (.Name x p) X.env := by rfl)
    (hfew : ((backTo cpos (starEach [e] X.env)).all (fun x => !x.1) && (backToKw cpos (keywordEach [] X.env)).all (fun x => x.1.isSome)
      && decide ([e].length + ([] : List Keyword).length + (if ([] : List Keyword).isEmpty then 0 else 1) < 30)) = true := by rfl)
    (hline : (apos.endLine == cpos.line) = true := by rfl) (hs : starEach [e] X.env = [(false, eval e X.env)] := by rfl)
    (hsw : swapsWith (.Call (.Attribute (.Name x p) "extend" apos) [e] [] cpos) none pos.line X.env = pure false := by rfl) :
    DS X EX (.Expr (.Call (.Attribute (.Name x p) "extend" apos) [e] [] cpos) pos) (sMut i f lExtend) := by
  obtain ⟨te, pe, h⟩ := h.ex
  refine ⟨_, ps_expr (pe_bm PySem.F.plainAttrs_list PySem.F.slot_list_extend PySem.F.type_list_extend mt_extend (pe_var hN hv hd hcd) (pa_cons pe pa_nil hs) hbase hfew hline hs rfl) hsw, fun F0 H0 F ρ σ H D S q => ?_⟩
  obtain ⟨ds, d, es, e1, e2, e3, q⟩ := sMut_ok q
  obtain ⟨a, vs, hsg, ha, fa', za, ra⟩ := S.sl i _ e1
  unfold lExtend at e3
  cases d <;> first | (cases e3; done) | skip
  rename_i ds2
  have e3' : (if ds.length + ds2.length ≤ 1000000 then some (ds ++ ds2) else none) = some es := e3
  rw [Option.ite_none_right_eq_some] at e3'
  obtain ⟨hl, e4⟩ := e3'
  cases e4
  refine ⟨_, hsg, .inl ⟨rfl, _, SqL.of ha⟩, h F0 H0 F ρ σ H _ _ S e2 fun v F1 H1 g r => ?_⟩
  cases r with
  | lst f1 a1 =>
    refine ⟨a, _, vs, _, rfl, rfl, g.hh _ _ ha, g.fh _ _ f1, by rw [ra.length, a1.length]; exact small1m hl, ?_⟩
    exact q F1 σ _ ((S.grow g).write (vs := vs) e1 hsg ((RpAll.mono g.ff _ _ ra).append a1))
/-- x.insert(k, e) -/
def sIns (i : Nat) (fk fa : EFn) : SFn := fun ρ => match ρ[i]? with
  | some (.ow ds) => (match fk ρ with | some (.int k) => (match fa ρ with | some d => if ds.length < 1000000 ∧ 0 ≤ k ∧ k < 1000000 then .nx (ρ.set i (.ow (ds.take k.toNat ++ [d] ++ ds.drop k.toNat))) else .no | none => .no) | _ => .no)
  | _ => .no
theorem ds_insert (i : Nat) {ek : Expr} {fk : EFn} {apos cpos : Pos} (hk : DEs X ek fk) (h : DEs X e f) (hN : X.N[i]? = some x := by rfl) (hv : Vis X.env.scope x := by first | exact Or.inl rfl | exact Or.inr (Or.inl rfl) | exact Or.inr (Or.inr rfl)) (hd : (x == ("__debug__" : Str)) = false := by decide)
    (hcd : (x == ("__classdict__" : Str)) = false := by decide)
    (hbase : attributeBase (.Name x p) "insert" X.env (eval (.Name x p) X.env) = eval (.Name x p) X.env := by rfl)
    (hfew : ((backTo cpos (starEach [ek, e] X.env)).all (fun x => !x.1) && (backToKw cpos (keywordEach [] X.env)).all (fun x => x.1.isSome)
      && decide ([ek, e].length + ([] : List Keyword).length + (if ([] : List Keyword).isEmpty then 0 else 1) < 30)) = true := by rfl)
    (hline : (apos.endLine == cpos.line) = true := by rfl) (hs : starEach [ek, e] X.env = (false, eval ek X.env) :: starEach [e] X.env := by rfl) (hs2 : starEach [e] X.env = [(false, eval e X.env)] := by rfl) (hpl : (backTo cpos (starEach [e] X.env)).any (·.1) = false := by rfl)
    (hsw : swapsWith (.Call (.Attribute (.Name x p) "insert" apos) [ek, e] [] cpos) none pos.line X.env = pure false := by rfl) :
    DS X EX (.Expr (.Call (.Attribute (.Name x p) "insert" apos) [ek, e] [] cpos) pos) (sIns i fk f) := by
  obtain ⟨te, pe, h⟩ := h.ex
  obtain ⟨tk, pk, hk⟩ := hk.ex
  refine ⟨_, ps_expr (pe_bm PySem.F.plainAttrs_list PySem.F.slot_list_insert PySem.F.type_list_insert mt_insert (pe_var hN hv hd hcd) (pa_cons pk (pa_cons pe pa_nil hs2) hs) hbase hfew hline hs hpl) hsw, fun F0 H0 F ρ σ H D S q => ?_⟩
  unfold sIns at q
  cases e1 : ρ[i]? with
  | none => rw [e1] at q; exact q.elim
  | some s =>
    rw [e1] at q
    cases s <;> first | (exact q.elim) | skip
    rename_i ds
    cases e2 : fk ρ with
    | none => simp only [e2] at q; exact q.elim
    | some dk =>
      simp only [e2] at q
      cases dk <;> first | (exact q.elim) | skip
      rename_i k
      cases e3 : f ρ with
      | none => simp only [e3] at q; exact q.elim
      | some d =>
        simp only [e3] at q
        by_cases hc : ds.length < 1000000 ∧ 0 ≤ k ∧ k < 1000000
        · rw [if_pos hc] at q
          obtain ⟨a, vs, hsg, ha, fa', za, ra⟩ := S.sl i _ e1
          refine ⟨_, hsg, .inl ⟨rfl, _, SqL.of ha⟩, hk F0 H0 F ρ σ H _ _ S e2 fun v F1 H1 g r => h F0 H0 F1 ρ σ H1 _ d (S.grow g) e3 fun v2 F2 H2 g2 r2 => ?_⟩
          cases r
          have g12 := g.trans g2
          refine ⟨a, vs, k, v2, rfl, rfl, g12.hh _ _ ha, by rw [ra.length]; exact small1l (Nat.le_of_lt hc.1), hc.2.1, by omega, ?_⟩
          have ra2 := RpAll.mono g12.ff _ _ ra
          exact q F2 σ _ ((S.grow g12).write (vs := vs) e1 hsg (((ra2.take k.toNat).append (.cons r2 .nil)).append (ra2.drop k.toNat)))
        · rw [if_neg hc] at q; exact q.elim
/-- x[k] = e -/
def sPut (i : Nat) (fk fa : EFn) : SFn := fun ρ => match ρ[i]? with
  | some (.ow ds) => (match fa ρ with | some d => (match fk ρ with | some (.int k) => (match ixN ds.length k with | some j => .nx (ρ.set i (.ow (ds.set j d))) | none => .no) | _ => .no) | none => .no)
  | _ => .no
theorem ds_put (i : Nat) {ek : Expr} {fk : EFn} {spos : Pos} (hk : DEs X ek fk) (h : DEs X e f) (hN : X.N[i]? = some x := by rfl) (hv : Vis X.env.scope x := by first | exact Or.inl rfl | exact Or.inr (Or.inl rfl) | exact Or.inr (Or.inr rfl)) (hd : (x == ("__debug__" : Str)) = false := by decide)
    (hcd : (x == ("__classdict__" : Str)) = false := by decide)
    (ha : ∀ v, assign (.Subscript (.Name x p) ek spos) X.env v = (do
      let ov ← holding [v] (eval (.Name x p) X.env)
      let iv ← holding [v, ov] (eval ek X.env)
      standAt spos
      holding [v, ov, iv] (setItem ov iv v)
      release [v, ov, iv] []) := by intro _; rfl)
    (hs : swapsWithSole [.Subscript (.Name x p) ek spos] e pos.line X.env = pure false := by rfl) (hw : swappedStores [.Subscript (.Name x p) ek spos] e X.env = pure none := by rfl)
    (h1 : (assignEach [.Subscript (.Name x p) ek spos] X.env).map (·.2) = [assign (.Subscript (.Name x p) ek spos) X.env] := by rfl) :
    DS X EX (.Assign [.Subscript (.Name x p) ek spos] e pos) (sPut i fk f) := by
  obtain ⟨te, pe, h⟩ := h.ex
  obtain ⟨tk, pk, hk⟩ := hk.ex
  refine ⟨_, ps_asg pe (pg_sub (pe_var hN hv hd hcd) pk set_list ha) hs hw h1, fun F0 H0 F ρ σ H D S q => ?_⟩
  unfold sPut at q
  cases e1 : ρ[i]? with
  | none => rw [e1] at q; exact q.elim
  | some s =>
    rw [e1] at q
    cases s <;> first | (exact q.elim) | skip
    rename_i ds
    cases e3 : f ρ with
    | none => simp only [e3] at q; exact q.elim
    | some d =>
      simp only [e3] at q
      cases e2 : fk ρ with
      | none => simp only [e2] at q; exact q.elim
      | some dk =>
        simp only [e2] at q
        cases dk <;> first | (exact q.elim) | skip
        rename_i k
        cases e4 : ixN ds.length k with
        | none => simp only [e4] at q; exact q.elim
        | some j =>
          simp only [e4] at q
          obtain ⟨a, vs, hsg, ha, fa', za, ra⟩ := S.sl i _ e1
          refine h F0 H0 F ρ σ H _ d S e3 fun v F1 H1 g r => ⟨_, hsg, hk F0 H0 F1 ρ σ H1 _ _ (S.grow g) e2 fun v2 F2 H2 g2 r2 => ?_⟩
          cases r2
          have g12 := g.trans g2
          refine ⟨a, vs, k, j, rfl, rfl, g12.hh _ _ ha, by rw [ra.length]; exact e4, ?_⟩
          exact q F2 σ _ ((S.grow g12).write (vs := vs) e1 hsg ((RpAll.mono g12.ff _ _ ra).set j (Rp.mono g2.ff _ _ r)))
end
end L2.RC

namespace L2.RC
open PySem PySem.Spec PyProof.Rows
section
variable {K : PySem.W.Frag} {F0 H0 F H F1 H1 : Hp} {ρ : DEnv} {σ : St} {D : Ends} {EX : EXX}
/-! ### another ground -/
theorem StF.low (S : StF K F1 H0 F ρ σ H) (s : Same F0 F1) (ag : ∀ a o, H0 a = some o → F1 a = F0 a) : StF K F0 H0 F ρ σ H :=
  ⟨⟨S.gr.hh, s.trans S.gr.ff, S.gr.fh, fun a o h => (S.gr.ag a o h).trans (ag a o h)⟩, S.sl, S.sep, S.len⟩
theorem StF.high (S : StF K F0 H0 F ρ σ H) : StF K F H0 F ρ σ H :=
  ⟨⟨S.gr.hh, .refl _, S.gr.fh, fun _ _ _ => rfl⟩, S.sl, S.sep, S.len⟩
theorem OutOk.high {o : Out} (q : OutOk K F0 H0 D EX o) (s : Same F0 F1) (ag : ∀ a o, H0 a = some o → F1 a = F0 a) : OutOk K F1 H0 D EX o := by
  cases o with
  | nx ρ => exact fun F σ H S => q F σ H (S.low s ag)
  | bk ρ => exact fun F σ H S => q F σ H (S.low s ag)
  | ct ρ => exact fun F σ H S => q F σ H (S.low s ag)
  | rt d => exact fun v F H g r => q v F H ⟨g.hh, s.trans g.ff, g.fh, fun a o h => (g.ag a o h).trans (ag a o h)⟩ r
  | rs x => exact q
  | no => exact q
end

section
variable {X : Cx} {EX : EXX} {e a b c : Expr} {pos p : Pos} {f fa fb : EFn} {sts : List Stmt} {fs : SFn} {ft : TFn} {x : Str}
/-! ### while -/
def sWhile (ft : TFn) (fb : SFn) : Nat → SFn
  | 0, _ => .no
  | n + 1, ρ => match ft ρ with
    | some true => (match fb ρ with
      | .nx ρ' => sWhile ft fb n ρ'
      | .ct ρ' => sWhile ft fb n ρ'
      | .bk ρ' => .nx ρ'
      | o => o)
    | some false => .nx ρ
    | none => .no
theorem ds_while (n : Nat) (hp : PassesOwn (model X.prog X.w) X.A X.env X.xe) (hc : DT X c ft) (hb : DSs X EX sts fs) : DS X EX (.While c sts [] pos) (sWhile ft fs n) := by
  obtain ⟨tc, pc, hc⟩ := hc.ex
  obtain ⟨tb, pb, hb⟩ := hb.ex
  refine ⟨_, ps_while hp pc pb, fun F0 H0 F ρ σ H D S q => ?_⟩
  refine ⟨fun m σ H => ∃ F ρ, StF X.K F0 H0 F ρ σ H ∧ OutOk X.K F0 H0 D EX (sWhile ft fs m ρ), ⟨n, F, ρ, S, q⟩, ?_⟩
  rintro m σ1 H1 ⟨F1, ρ1, S1, q1⟩
  cases m with
  | zero => exact q1.elim
  | succ k =>
    unfold sWhile at q1
    cases e : ft ρ1 with
    | none => rw [e] at q1; exact q1.elim
    | some t =>
      rw [e] at q1
      refine hc F0 H0 F1 ρ1 σ1 H1 _ t S1 e fun F2 H2 g => ?_
      cases t with
      | false => exact iteF (q1 F2 σ1 H2 (S1.grow g))
      | true =>
        refine iteT ⟨fun σ' H' => ∃ F ρ, StF X.K F0 H0 F ρ σ' H' ∧ OutOk X.K F0 H0 D EX (sWhile ft fs k ρ), fun σ' H' h => ⟨k, Nat.lt_succ_self k, h⟩, ?_⟩
        refine hb F0 H0 F2 ρ1 σ1 H2 _ (S1.grow g) ?_
        dsimp only at q1
        cases e2 : fs ρ1 with
        | nx ρ' => rw [e2] at q1; exact fun F σ H S => ⟨F, ρ', S, q1⟩
        | ct ρ' => rw [e2] at q1; exact fun F σ H S => ⟨F, ρ', S, q1⟩
        | bk ρ' => rw [e2] at q1; exact q1
        | rt d => rw [e2] at q1; exact q1
        | rs x => rw [e2] at q1; exact q1
        | no => rw [e2] at q1; exact q1

/-! ### what a loop walks -/
def ItOk (K : PySem.W.Frag) (J : It) (F1 : Hp) (ds : List PyData) : Prop :=
  ∃ xs, RpAll K F1 xs ds ∧ (∀ (i : Nat) Hx, Same F1 Hx → i < xs.length → J.go i Hx) ∧ (∀ (i : Nat) Hx x H', Same F1 Hx → i < xs.length → J.yld i Hx x H' → H' = Hx ∧ xs[i]? = some x) ∧ (∀ (i : Nat) Hx, Same F1 Hx → xs.length ≤ i → J.stop i Hx)
def EiOk (K : PySem.W.Frag) (wi : TI) (fi : OFn) : Prop := ∀ F0 H0 F ρ σ H R ds, StF K F0 H0 F ρ σ H → fi ρ = some ds → (∀ J F1 H1, Grow F H F1 H1 → ItOk K J F1 ds → R J H1) → wi σ H R
structure DI (X : Cx) (tg e : Expr) (fi : OFn) : Prop where
  ex : ∃ wi, PI X tg e wi ∧ EiOk X.K wi fi
def iLst (fa : EFn) : OFn := fun ρ => match fa ρ with | some (.list ds) => some ds | _ => none
def iTpl (fa : EFn) : OFn := fun ρ => match fa ρ with | some (.tuple ds) => some ds | _ => none
variable {tg : Expr} {fi : OFn}
theorem di_list (ha : DEs X a fa) : DI X tg a (iLst fa) := by
  obtain ⟨ta, pa, ha⟩ := ha.ex
  refine ⟨_, pi_list pa, fun F0 H0 F ρ σ H R ds S e q => ?_⟩
  unfold iLst at e
  cases h1 : fa ρ with
  | none => rw [h1] at e; cases e
  | some x =>
    rw [h1] at e
    cases x <;> first | (cases e; done) | skip
    cases e
    refine ha F0 H0 F ρ σ H _ _ S h1 fun v F1 H1 g r => ?_
    cases r with
    | lst f1 a1 =>
      rename_i l xs
      refine ⟨l, rfl, ⟨xs, SqL.of (g.fh _ _ f1)⟩, q _ F1 H1 g ⟨xs, a1, fun i Hx s hi => ⟨xs, xs[i], SqL.of (s _ _ f1), by simp [hi]⟩, fun i Hx x H' s hi y => ⟨y.1, y.2 xs (SqL.of (s _ _ f1))⟩, fun i Hx s hi => ⟨xs, SqL.of (s _ _ f1), hi⟩⟩⟩
theorem di_tup (ha : DEs X a fa) : DI X tg a (iTpl fa) := by
  obtain ⟨ta, pa, ha⟩ := ha.ex
  refine ⟨_, pi_tup pa, fun F0 H0 F ρ σ H R ds S e q => ?_⟩
  unfold iTpl at e
  cases h1 : fa ρ with
  | none => rw [h1] at e; cases e
  | some x =>
    rw [h1] at e
    cases x <;> first | (cases e; done) | skip
    cases e
    refine ha F0 H0 F ρ σ H _ _ S h1 fun v F1 H1 g r => ?_
    cases r with
    | tup f1 a1 =>
      rename_i l xs
      refine ⟨l, rfl, ⟨xs, seqT_same g.fh f1⟩, q _ F1 H1 g ⟨xs, a1, fun i Hx s hi => ⟨xs, xs[i], seqT_same s f1, by simp [hi]⟩, fun i Hx x H' s hi y => ⟨y.1, y.2 xs (seqT_same s f1)⟩, fun i Hx s hi => ⟨xs, seqT_same s f1, hi⟩⟩⟩
def rngD (lo : Int) (n : Nat) : List PyData := (List.range n).map fun i => .int (lo + (i : Nat))
def rngOk (i : Int) : Bool := decide (-1000000 ≤ i) && decide (i ≤ 1000000)
theorem rngOk_iff {i : Int} : rngOk i = true ↔ -1000000 ≤ i ∧ i ≤ 1000000 := by simp [rngOk]
theorem rng_rp {K : PySem.W.Frag} {F : Hp} {lo : Int} : ∀ (l : List Nat), RpAll K F (l.map fun i => V.int (lo + (i : Nat))) (l.map fun i => PyData.int (lo + (i : Nat)))
  | [] => .nil
  | i :: l => .cons (.int _) (rng_rp l)
theorem itr_ok {K : PySem.W.Frag} {F : Hp} (lo : Int) (n : Nat) : ItOk K (Itr lo n) F (rngD lo n) := by
  refine ⟨(List.range n).map fun i => V.int (lo + (i : Nat)), rng_rp _, fun i Hx s hi => ?_, fun i Hx x H' s hi y => ⟨y.1, ?_⟩, fun i Hx s hi => ?_⟩
  · show i < n
    simpa using hi
  · rw [List.length_map, List.length_range] at hi
    rw [List.getElem?_map, List.getElem?_range hi, y.2] <;> rfl
  · show n ≤ i
    simpa using hi
def iRg1 (fa : EFn) : OFn := fun ρ => match fa ρ with | some (.int j) => if rngOk j = true then some (rngD 0 j.toNat) else none | _ => none
def iRg2 (fa fb : EFn) : OFn := fun ρ => match fa ρ with | some (.int i) => (match fb ρ with | some (.int j) => if (rngOk i && rngOk j) = true then some (rngD i (j - i).toNat) else none | _ => none) | _ => none
theorem di_range1 (hm : X.mg "range" = none) (ha : DEs X a fa) (hg : Gl X "range" := by rfl) (hs : starEach [a] X.env = [(false, eval a X.env)] := by rfl) : DI X tg (.Call (.Name "range" p) [a] [] pos) (iRg1 fa) := by
  obtain ⟨ta, pa, ha⟩ := ha.ex
  refine ⟨_, pi_range1 hg hm (pa_cons pa pa_nil hs) hs, fun F0 H0 F ρ σ H R ds S e q => ?_⟩
  unfold iRg1 at e
  cases h1 : fa ρ with
  | none => rw [h1] at e; cases e
  | some x =>
    rw [h1] at e
    cases x <;> first | (cases e; done) | skip
    rename_i j
    have e' : (if rngOk j = true then some (rngD 0 j.toNat) else none) = some ds := e
    rw [Option.ite_none_right_eq_some, rngOk_iff] at e'
    obtain ⟨hj, e2⟩ := e'
    cases e2
    refine ha F0 H0 F ρ σ H _ _ S h1 fun v F1 H1 g r => ?_
    cases r
    exact ⟨j, rfl, by omega, by omega, q _ F1 H1 g (itr_ok 0 j.toNat)⟩
theorem di_range2 (hm : X.mg "range" = none) (ha : DEs X a fa) (hb : DEs X b fb) (hg : Gl X "range" := by rfl) (hs : starEach [a, b] X.env = [(false, eval a X.env), (false, eval b X.env)] := by rfl) (hs2 : starEach [b] X.env = [(false, eval b X.env)] := by rfl) : DI X tg (.Call (.Name "range" p) [a, b] [] pos) (iRg2 fa fb) := by
  obtain ⟨ta, pa, ha⟩ := ha.ex
  obtain ⟨tb, pb, hb⟩ := hb.ex
  refine ⟨_, pi_range2 hg hm (pa_cons pa (pa_cons pb pa_nil hs2) (by rw [hs, hs2])) hs hs2, fun F0 H0 F ρ σ H R ds S e q => ?_⟩
  unfold iRg2 at e
  cases h1 : fa ρ with
  | none => rw [h1] at e; cases e
  | some x =>
    rw [h1] at e
    cases x <;> first | (cases e; done) | skip
    rename_i i
    cases h2 : fb ρ with
    | none => simp only [h2] at e; cases e
    | some y =>
      simp only [h2] at e
      cases y <;> first | (cases e; done) | skip
      rename_i j
      have e' : (if (rngOk i && rngOk j) = true then some (rngD i (j - i).toNat) else none) = some ds := e
      rw [Option.ite_none_right_eq_some, Bool.and_eq_true, rngOk_iff, rngOk_iff] at e'
      obtain ⟨⟨hi, hj⟩, e2⟩ := e'
      cases e2
      refine ha F0 H0 F ρ σ H _ _ S h1 fun v F1 H1 g r => ?_
      cases r
      refine hb F0 H0 F1 ρ σ H1 _ _ (S.grow g) h2 fun v F2 H2 g2 r2 => ?_
      cases r2
      exact ⟨i, j, rfl, by omega, q _ F2 H2 (g.trans g2) (itr_ok i _)⟩

/-! ### for -/
def forL (i : Nat) (fb : SFn) : List PyData → SFn
  | [], ρ => .nx ρ
  | d :: ds, ρ => match fb (ρ.set i (.fz d)) with
    | .nx ρ' => forL i fb ds ρ'
    | .ct ρ' => forL i fb ds ρ'
    | .bk ρ' => .nx ρ'
    | o => o
def sFor (i : Nat) (fi : OFn) (fb : SFn) : SFn := fun ρ => match fi ρ with | some ds => forL i fb ds ρ | none => .no
theorem ds_for (i : Nat) {iter : Expr} {q : Pos} (hp : PassesOwn (model X.prog X.w) X.A X.env X.xe) (hI : DI X (.Name x q) iter fi) (hb : DSs X EX sts fs) (hN : X.N.Nodup) (hc : X.calm = true := by rfl) (hi : X.N[i]? = some x := by rfl)
    (hx : Loc X.env.scope x := by first | exact Or.inl rfl | exact Or.inr rfl) (hf : X.fn x = true ∨ X.env.scope.names.lookup x = some .local := by first | exact .inl rfl | exact .inr rfl)
    (hs : ∀ x, foldedSetIterable iter X.env x = pure x := by intro _; rfl) : DS X EX (.For (.Name x q) iter sts [] pos) (sFor i fi fs) := by
  obtain ⟨wi, pi, hwi⟩ := hI.ex
  obtain ⟨tb, pb, hb⟩ := hb.ex
  refine ⟨_, ps_for hp hc pi (pg_name (i := i) hN hi hx hf) pb hs, fun F0 H0 F ρ σ H D S q => ?_⟩
  unfold sFor at q
  cases e : fi ρ with
  | none => rw [e] at q; exact q.elim
  | some ds =>
    rw [e] at q
    refine hwi F0 H0 F ρ σ H _ ds S e fun J F1 H1 g ⟨xs, r, go, yld, stop⟩ => ?_
    have S1 := S.grow g
    have sF : Same F0 F1 := S1.gr.ff
    have agF := S1.gr.ag
    have hlen : xs.length = ds.length := r.length
    refine ⟨fun k m σ H => m = xs.length - k ∧ k ≤ xs.length ∧ ∃ F ρ, StF X.K F1 H0 F ρ σ H ∧ OutOk X.K F1 H0 D EX (forL i fs (ds.drop k) ρ), ⟨xs.length, rfl, Nat.zero_le _, F1, ρ, S1.high, q.high sF agF⟩, ?_⟩
    rintro k m σ2 H2 ⟨rfl, hk, F2, ρ2, S2, q2⟩
    have s2 : Same F1 H2 := S2.gr.ff.trans S2.gr.fh
    by_cases hlt : k < xs.length
    · refine .inr ⟨go k H2 s2 hlt, fun σ' H' => ∃ F ρ, StF X.K F1 H0 F ρ σ' H' ∧ OutOk X.K F1 H0 D EX (forL i fs (ds.drop (k + 1)) ρ), fun σ' H' h => ⟨xs.length - (k + 1), by omega, rfl, hlt, h⟩, fun y H' hy => ?_⟩
      obtain ⟨rfl, hy'⟩ := yld k H2 y H' s2 hlt hy
      obtain ⟨d, hd, rd⟩ := r.getV hy'
      have hdr : ds.drop k = d :: ds.drop (k + 1) := by
        obtain ⟨h1, h2⟩ := List.getElem?_eq_some_iff.mp hd
        rw [← h2, List.drop_eq_getElem_cons h1]
      rw [hdr] at q2
      unfold forL at q2
      refine hb F1 H0 F2 _ _ _ _ (S2.setZ (i := i) (Rp.mono S2.gr.ff _ _ rd)) ?_
      cases e2 : fs (ρ2.set i (.fz d)) with
      | nx ρ' => rw [e2] at q2; exact fun F σ H S => ⟨F, ρ', S, q2⟩
      | ct ρ' => rw [e2] at q2; exact fun F σ H S => ⟨F, ρ', S, q2⟩
      | bk ρ' => rw [e2] at q2; exact fun F σ H S => (q2 F σ H S)
      | rt d => rw [e2] at q2; exact q2
      | rs x => rw [e2] at q2; exact q2
      | no => rw [e2] at q2; exact q2
    · have ek : k = xs.length := by omega
      refine .inl ⟨stop k H2 s2 (by omega), ?_⟩
      rw [List.drop_of_length_le (by omega)] at q2
      exact q2 F2 σ2 H2 S2

/-! ### comprehensions -/
def compL (i : Nat) (ft : TFn) (fe : EFn) (ρ : DEnv) : List PyData → Option (List PyData)
  | [] => some []
  | d :: ds => match ft (ρ.set i (.fz d)) with
    | some true => (fe (ρ.set i (.fz d))).bind fun y => (compL i ft fe ρ ds).map (y :: ·)
    | some false => compL i ft fe ρ ds
    | none => none
def oComp (i : Nat) (fi : OFn) (ft : TFn) (fe : EFn) : OFn := fun ρ => (fi ρ).bind fun ds => if ds.length ≤ 1000000 then compL i ft fe ρ ds else none
def tTrue : TFn := fun _ => some true
theorem wipe1 (σ : St) (i : Nat) : wipe σ [i] = σ.set i none := rfl
theorem eo_lc {K : PySem.W.Frag} {wi : TI} {tt : TT} {te : TE} {fe : EFn} (i : Nat) (hwi : EiOk K wi fi) (ht : ETOk K tt ft) (he : EsOk K te fe) : EoOk K (tLc wi (gName i) tt te [i]) (oComp i fi ft fe) := by
  intro F0 H0 F ρ σ H Q ds S e q
  obtain ⟨its, e1, e2⟩ := Option.bind_eq_some_iff.mp e
  rw [Option.ite_none_right_eq_some] at e2
  obtain ⟨hsz, e3⟩ := e2
  refine hwi F0 H0 F ρ σ H _ its S e1 fun J F1 H1 g ⟨xs, r, go, yld, stop⟩ => fun D hD => ?_
  have hlen : xs.length = its.length := r.length
  have S1 := S.grow g
  refine ⟨fun k m Hx => m = xs.length - k ∧ k ≤ xs.length ∧ ∃ Fx acc eacc rest, Grow F1 H1 Fx Hx ∧ Fx D = none ∧ Hx D = some (.lst acc) ∧ RpAll K Fx acc eacc ∧ eacc.length ≤ k ∧ compL i ft fe ρ (its.drop k) = some rest ∧ eacc ++ rest = ds,
    ⟨xs.length, rfl, Nat.zero_le _, F1, [], [], ds, Grow.own g.fh hD, none_of g.fh hD, upd_same, .nil, Nat.le_refl _, e3, rfl⟩, ?_⟩
  rintro k m Hx ⟨rfl, hk, Fx, acc, eacc, rest, gx, fD, hDx, ra, hl, ec, ed⟩
  have sx : Same F1 Hx := gx.ff.trans gx.fh
  by_cases hlt : k < xs.length
  · refine .inr ⟨go k Hx sx hlt, fun H' => ∃ Fx acc eacc rest, Grow F1 H1 Fx H' ∧ Fx D = none ∧ H' D = some (.lst acc) ∧ RpAll K Fx acc eacc ∧ eacc.length ≤ k + 1 ∧ compL i ft fe ρ (its.drop (k + 1)) = some rest ∧ eacc ++ rest = ds, fun H' h => ⟨xs.length - (k + 1), by omega, rfl, hlt, h⟩, fun y H' hy => ?_⟩
    obtain ⟨rfl, hy'⟩ := yld k Hx y H' sx hlt hy
    obtain ⟨d, hd, rd⟩ := r.getV hy'
    have hdr : its.drop k = d :: its.drop (k + 1) := by
      obtain ⟨h1, h2⟩ := List.getElem?_eq_some_iff.mp hd
      rw [← h2, List.drop_eq_getElem_cons h1]
    rw [hdr] at ec
    unfold compL at ec
    have Sx := (S1.grow gx).setZ (i := i) (Rp.mono gx.ff _ _ rd)
    refine ⟨by show ((σ.set i none).set i (some y)).set i none = σ.set i none; rw [List.set_set, List.set_set], ?_⟩
    have es2 : (wipe σ [i]).set i (some y) = σ.set i (some y) := by rw [wipe1, List.set_set]
    rw [es2]
    cases h1 : ft (ρ.set i (.fz d)) with
    | none => rw [h1] at ec; cases ec
    | some t =>
      rw [h1] at ec
      refine ht F0 H0 Fx _ _ _ _ t Sx h1 fun F2 H2 g2 => ?_
      have fD2 : F2 D = none := (g2.ag _ _ hDx).trans fD
      cases t with
      | false => exact iteF ⟨F2, acc, eacc, rest, gx.trans g2, fD2, g2.hh _ _ hDx, RpAll.mono g2.ff _ _ ra, by omega, ec, ed⟩
      | true =>
        refine iteT ?_
        obtain ⟨w, h2, h3⟩ := Option.bind_eq_some_iff.mp (show (fe (ρ.set i (.fz d))).bind (fun y => (compL i ft fe ρ (its.drop (k + 1))).map (y :: ·)) = some rest from ec)
        obtain ⟨rest', h4, h5⟩ := Option.map_eq_some_iff.mp h3
        refine he F0 H0 F2 _ _ _ _ w (Sx.grow g2) h2 fun v F3 H3 g3 r3 => ?_
        have fD3 : F3 D = none := (g3.ag _ _ (g2.hh _ _ hDx)).trans fD2
        have gall := (gx.trans g2).trans g3
        refine ⟨acc, g3.hh _ _ (g2.hh _ _ hDx), by rw [ra.length]; exact small1l (by omega), F3, acc ++ [v], eacc ++ [w], rest', ⟨fun b o z => ?_, gall.ff, fun b o z => ?_, gall.ag⟩, fD3, upd_same, (RpAll.mono (g2.trans g3).ff _ _ ra).append (.cons r3 .nil), by rw [List.length_append, List.length_singleton]; omega, h4, by rw [List.append_assoc]; subst h5; exact ed⟩
        · rw [upd_ne (ne_of_none z hD)]; exact gall.hh b o z
        · rw [upd_ne (ne_of_none z fD3)]; exact gall.fh b o z
  · have ek : k = xs.length := by omega
    refine .inl ⟨stop k Hx sx (by omega), ?_⟩
    rw [List.drop_of_length_le (by omega)] at ec
    cases ec
    rw [List.append_nil] at ed
    subst ed
    exact q D acc Fx Hx (g.trans gx) (g.hh.free hD) fD hDx ra
section
variable {elt iter : Expr} {q : Pos} {scope : Scope} {fe : EFn} {spos : Pos}
theorem de_lc0 (i : Nat) (hI : DI X (.Name x q) iter fi) (ok : BlkOk X.N X.env.scope scope [(x, i)]) (hN : X.N.Nodup)
    (he : ∀ (s : Shared) (H : Hp) (C : Addr) (cl : List (Str × Addr)) (fp : List Addr), DEs (X.blk s H scope (compEnvC scope cl C X.env) fp) elt fe)
    (hg : ∀ (s : Shared) (H : Hp) (C : Addr) (cl : List (Str × Addr)) (fp : List Addr), PG (X.blk s H scope (compEnvC scope cl C X.env) fp) (.Name x q) (gName i))
    (hc : X.calm = true := by rfl) (hs : ∀ x, foldedSetIterable iter X.env x = pure x := by intro _; rfl) : DEo X (.ListComp elt [⟨.Name x q, iter, [], 0⟩] scope pos) (oComp i fi tTrue fe) := by
  obtain ⟨wi, pi, hwi⟩ := hI.ex
  refine ⟨_, pe_lc (te := cEs X.K fe) hc hN pi ok hg (fun _ _ _ _ _ => pts_nil) (fun s H C cl fp => (he s H C cl fp).can) hs, eo_lc i hwi (fun F0 H0 F ρ σ H Q b S e q => ?_) fun F0 H0 F ρ σ H Q d S e q => ⟨F0, H0, F, ρ, d, S, e, q⟩⟩
  cases e
  exact q F H (.refl S.gr.fh)
theorem de_lc1 (i : Nat) {c : Expr} (hI : DI X (.Name x q) iter fi) (ok : BlkOk X.N X.env.scope scope [(x, i)]) (hN : X.N.Nodup)
    (ht : ∀ (s : Shared) (H : Hp) (C : Addr) (cl : List (Str × Addr)) (fp : List Addr), DT (X.blk s H scope (compEnvC scope cl C X.env) fp) c ft)
    (he : ∀ (s : Shared) (H : Hp) (C : Addr) (cl : List (Str × Addr)) (fp : List Addr), DEs (X.blk s H scope (compEnvC scope cl C X.env) fp) elt fe)
    (hg : ∀ (s : Shared) (H : Hp) (C : Addr) (cl : List (Str × Addr)) (fp : List Addr), PG (X.blk s H scope (compEnvC scope cl C X.env) fp) (.Name x q) (gName i))
    (hc : X.calm = true := by rfl) (hs : ∀ x, foldedSetIterable iter X.env x = pure x := by intro _; rfl) : DEo X (.ListComp elt [⟨.Name x q, iter, [c], 0⟩] scope pos) (oComp i fi ft fe) := by
  obtain ⟨wi, pi, hwi⟩ := hI.ex
  refine ⟨_, pe_lc (te := cEs X.K fe) (tt := cET X.K ft) hc hN pi ok hg (fun s H C cl fp => pts_one (ht s H C cl fp).can) (fun s H C cl fp => (he s H C cl fp).can) hs, eo_lc i hwi (fun F0 H0 F ρ σ H Q d S e q => ⟨F0, H0, F, ρ, d, S, e, q⟩) fun F0 H0 F ρ σ H Q d S e q => ⟨F0, H0, F, ρ, d, S, e, q⟩⟩
/-- y = [..] -/
theorem ds_setLc0 (i j : Nat) {y : Str} {py : Pos} (hI : DI X (.Name x q) iter fi) (ok : BlkOk X.N X.env.scope scope [(x, i)]) (hN : X.N.Nodup)
    (he : ∀ (s : Shared) (H : Hp) (C : Addr) (cl : List (Str × Addr)) (fp : List Addr), DEs (X.blk s H scope (compEnvC scope cl C X.env) fp) elt fe)
    (hg : ∀ (s : Shared) (H : Hp) (C : Addr) (cl : List (Str × Addr)) (fp : List Addr), PG (X.blk s H scope (compEnvC scope cl C X.env) fp) (.Name x q) (gName i))
    (hsw : swapsWith (.ListComp elt [⟨.Name x q, iter, [], 0⟩] scope pos) (some (.Name y py)) spos.line X.env = pure true)
    (hy : X.N[j]? = some y := by rfl) (hyl : X.env.scope.names.lookup y = some .local := by rfl) (hc : X.calm = true := by rfl) (hs : ∀ x, foldedSetIterable iter X.env x = pure x := by intro _; rfl) :
    DS X EX (.Assign [.Name y py] (.ListComp elt [⟨.Name x q, iter, [], 0⟩] scope pos) spos) (sSetO j (oComp i fi tTrue fe)) := by
  obtain ⟨wi, pi, hwi⟩ := hI.ex
  refine ⟨_, ps_setLc (te := cEs X.K fe) hc hN hy hyl hsw pi ok hg (fun _ _ _ _ _ => pts_nil) (fun s H C cl fp => (he s H C cl fp).can) hs, fun F0 H0 F ρ σ H D S q => ?_⟩
  unfold sSetO at q
  cases e1 : oComp i fi tTrue fe ρ with
  | none => rw [e1] at q; exact q.elim
  | some ds =>
    rw [e1] at q
    refine eo_lc i hwi (fun F0 H0 F ρ σ H Q b S e q => ?_) (fun F0 H0 F ρ σ H Q d S e q => ⟨F0, H0, F, ρ, d, S, e, q⟩) F0 H0 F ρ σ H _ ds S e1 fun t vs F1 H1 g n1 n2 hp r => q F1 _ H1 (S.setO g n1 n2 hp r)
    cases e
    exact q F H (.refl S.gr.fh)
theorem ds_setLc1 (i j : Nat) {c : Expr} {y : Str} {py : Pos} (hI : DI X (.Name x q) iter fi) (ok : BlkOk X.N X.env.scope scope [(x, i)]) (hN : X.N.Nodup)
    (ht : ∀ (s : Shared) (H : Hp) (C : Addr) (cl : List (Str × Addr)) (fp : List Addr), DT (X.blk s H scope (compEnvC scope cl C X.env) fp) c ft)
    (he : ∀ (s : Shared) (H : Hp) (C : Addr) (cl : List (Str × Addr)) (fp : List Addr), DEs (X.blk s H scope (compEnvC scope cl C X.env) fp) elt fe)
    (hg : ∀ (s : Shared) (H : Hp) (C : Addr) (cl : List (Str × Addr)) (fp : List Addr), PG (X.blk s H scope (compEnvC scope cl C X.env) fp) (.Name x q) (gName i))
    (hsw : swapsWith (.ListComp elt [⟨.Name x q, iter, [c], 0⟩] scope pos) (some (.Name y py)) spos.line X.env = pure true)
    (hy : X.N[j]? = some y := by rfl) (hyl : X.env.scope.names.lookup y = some .local := by rfl) (hc : X.calm = true := by rfl) (hs : ∀ x, foldedSetIterable iter X.env x = pure x := by intro _; rfl) :
    DS X EX (.Assign [.Name y py] (.ListComp elt [⟨.Name x q, iter, [c], 0⟩] scope pos) spos) (sSetO j (oComp i fi ft fe)) := by
  obtain ⟨wi, pi, hwi⟩ := hI.ex
  refine ⟨_, ps_setLc (te := cEs X.K fe) (tt := cET X.K ft) hc hN hy hyl hsw pi ok hg (fun s H C cl fp => pts_one (ht s H C cl fp).can) (fun s H C cl fp => (he s H C cl fp).can) hs, fun F0 H0 F ρ σ H D S q => ?_⟩
  unfold sSetO at q
  cases e1 : oComp i fi ft fe ρ with
  | none => rw [e1] at q; exact q.elim
  | some ds =>
    rw [e1] at q
    exact eo_lc i hwi (fun F0 H0 F ρ σ H Q d S e q => ⟨F0, H0, F, ρ, d, S, e, q⟩) (fun F0 H0 F ρ σ H Q d S e q => ⟨F0, H0, F, ρ, d, S, e, q⟩) F0 H0 F ρ σ H _ ds S e1 fun t vs F1 H1 g n1 n2 hp r => q F1 _ H1 (S.setO g n1 n2 hp r)
end

/-! ### calls of the text's defs -/
def ArgOk (K : PySem.W.Frag) (F H : Hp) (v : V) : Sl → Prop
  | .fz d => Rp K F v d
  | .br ds => ∃ a vs, v = .ref a ∧ SqL K H a vs ∧ RpAll K F vs ds
  | _ => False
inductive ArgsOk (K : PySem.W.Frag) (F H : Hp) : List V → List Sl → Prop
  | nil : ArgsOk K F H [] []
  | cons {v : V} {vs : List V} {s : Sl} {ss : List Sl} : ArgOk K F H v s → ArgsOk K F H vs ss → ArgsOk K F H (v :: vs) (s :: ss)
theorem ArgOk.grow {K : PySem.W.Frag} {F H F' H' : Hp} {v : V} {s : Sl} (h : ArgOk K F H v s) (g : Grow F H F' H') : ArgOk K F' H' v s := by
  cases s with
  | fz d => exact Rp.mono g.ff _ _ h
  | br ds => obtain ⟨a, vs, e, h1, h2⟩ := h; exact ⟨a, vs, e, g.hh.seq h1, RpAll.mono g.ff _ _ h2⟩
  | un => exact h
  | ow ds => exact h
theorem ArgsOk.length {K : PySem.W.Frag} {F H : Hp} : ∀ {vs : List V} {ss : List Sl}, ArgsOk K F H vs ss → vs.length = ss.length
  | _, _, .nil => rfl
  | _, _, .cons _ t => congrArg (· + 1) (ArgsOk.length t)
theorem ArgsOk.get {K : PySem.W.Frag} {F H : Hp} : ∀ {vs : List V} {ss : List Sl} {i : Nat} {s : Sl}, ArgsOk K F H vs ss → ss[i]? = some s → ∃ v, vs[i]? = some v ∧ ArgOk K F H v s
  | _, _, _, _, .nil, e => by simp at e
  | _, _, 0, _, .cons r _, e => by simp at e; subst e; exact ⟨_, rfl, r⟩
  | _, _, i + 1, d, .cons _ t, e => by
    obtain ⟨v, h1, h2⟩ := ArgsOk.get (i := i) (s := d) t (by simpa using e)
    exact ⟨v, by simpa using h1, h2⟩
abbrev LFn := DEnv → Option (List Sl)
def EgOk (K : PySem.W.Frag) (ta : TA) (n : Nat) (f : LFn) : Prop := ∀ F0 H0 F ρ σ H Q ss, StF K F0 H0 F ρ σ H → f ρ = some ss → (∀ vs F' H', Grow F H F' H' → ArgsOk K F' H' vs ss → vs.length = n → Q vs H') → ta σ H Q
structure DG (X : Cx) (es : List Expr) (f : LFn) : Prop where
  ex : ∃ ta, PA X es ta ∧ EgOk X.K ta es.length f
def gNil : LFn := fun _ => some []
def gS (f : EFn) (r : LFn) : LFn := fun ρ => (f ρ).bind fun d => (r ρ).map (Sl.fz d :: ·)
def gW (f : EFn) (r : LFn) : LFn := fun ρ => match f ρ with | some (.list ds) => (r ρ).map (Sl.br ds :: ·) | _ => none
theorem dg_nil : DG X [] gNil := ⟨_, pa_nil, fun F0 H0 F ρ σ H Q ss S e q => by cases e; exact q [] F H (.refl S.gr.fh) .nil rfl⟩
theorem dg_s {es : List Expr} {fr : LFn} (ha : DEs X a fa) (hr : DG X es fr) (hs : starEach (a :: es) X.env = (false, eval a X.env) :: starEach es X.env := by rfl) : DG X (a :: es) (gS fa fr) := by
  obtain ⟨ta, pa, ha⟩ := ha.ex
  obtain ⟨tr, pr, hr⟩ := hr.ex
  refine ⟨_, pa_cons pa pr hs, fun F0 H0 F ρ σ H Q ss S e q => ?_⟩
  obtain ⟨d, e1, e2⟩ := Option.bind_eq_some_iff.mp e
  obtain ⟨ss', e3, e4⟩ := Option.map_eq_some_iff.mp e2
  subst e4
  refine ha F0 H0 F ρ σ H _ d S e1 fun v F1 H1 g r => ?_
  refine hr F0 H0 F1 ρ σ H1 _ ss' (S.grow g) e3 fun vs F2 H2 g2 r2 hl => ?_
  exact q (v :: vs) F2 H2 (g.trans g2) (.cons (ArgOk.grow (s := .fz d) r g2) r2) (congrArg (· + 1) hl)
theorem dg_w {es : List Expr} {fr : LFn} (ha : DEw X a fa) (hr : DG X es fr) (hs : starEach (a :: es) X.env = (false, eval a X.env) :: starEach es X.env := by rfl) : DG X (a :: es) (gW fa fr) := by
  obtain ⟨ta, pa, ha⟩ := ha.ex
  obtain ⟨tr, pr, hr⟩ := hr.ex
  refine ⟨_, pa_cons pa pr hs, fun F0 H0 F ρ σ H Q ss S e q => ?_⟩
  unfold gW at e
  cases h1 : fa ρ with
  | none => rw [h1] at e; cases e
  | some x =>
    rw [h1] at e
    cases x <;> first | (cases e; done) | skip
    rename_i ds
    obtain ⟨ss', e3, e4⟩ := Option.map_eq_some_iff.mp (show (fr ρ).map (Sl.br ds :: ·) = some ss from e)
    subst e4
    refine ha F0 H0 F ρ σ H _ _ S h1 fun v F1 H1 g r => ?_
    refine hr F0 H0 F1 ρ σ H1 _ ss' (S.grow g) e3 fun vs F2 H2 g2 r2 hl => ?_
    exact q (v :: vs) F2 H2 (g.trans g2) (.cons (ArgOk.grow (s := .br ds) (r.list g.fh) g2) r2) (congrArg (· + 1) hl)
/-- what a def with the body b (m names beside its parameters) comes to -/
def FinOk (K : PySem.W.Frag) (F H : Hp) (Q : VK) (EX : EXX) : Out → Prop
  | .rt d => ∀ v F' H', Grow F H F' H' → Rp K F' v d → Q v H'
  | .nx _ => ∀ F' H', Grow F H F' H' → Q .non H'
  | .rs x => EX x H
  | _ => False
/-- the two errors of the text -/
def exx (CL CN : Addr) (E : XK) : EXX := fun x H => match x with
  | .late k => ∀ d H', Same H H' → H d = none → H' d = some (.xd [(("rope" : Str), .int k)]) → E (.ref CL) (some d) H'
  | .noplan => ∀ H', Same H H' → E (.ref CN) none H'
def spD (K : PySem.W.Frag) (CL CN : Addr) (n m : Nat) (b : Nat → SFn) : Sp := fun vs H Q E => vs.length = n ∧ ∃ F ss fuel, Same F H ∧ ArgsOk K F H vs ss ∧ FinOk K F H Q (exx CL CN E) (b fuel (ss ++ List.replicate m .un))
def eCall (b : SFn) (m : Nat) (fg : LFn) : EFn := fun ρ => (fg ρ).bind fun ss => match b (ss ++ List.replicate m .un) with
  | .rt d => some d
  | .nx _ => some .none
  | _ => none
theorem eCall_some {b : SFn} {m : Nat} {fg : LFn} {ρ : DEnv} {d : PyData} (e : eCall b m fg ρ = some d) : ∃ ss, fg ρ = some ss ∧ ((b (ss ++ List.replicate m .un) = .rt d) ∨ ∃ ρ', b (ss ++ List.replicate m .un) = .nx ρ' ∧ d = .none) := by
  obtain ⟨ss, e1, e2⟩ := Option.bind_eq_some_iff.mp e
  refine ⟨ss, e1, ?_⟩
  cases h : b (ss ++ List.replicate m .un) with
  | rt d' => simp only [h] at e2; cases e2; exact .inl rfl
  | nx ρ' => simp only [h] at e2; cases e2; exact .inr ⟨ρ', rfl, rfl⟩
  | _ => simp only [h] at e2; cases e2
section
variable {CX : CXT} {k : Nat} {g : Addr} {fd : FuncData} {ps : List Str} {CL CN : Addr} {n m : Nat} {bd : Nat → SFn} {fg : LFn} {es : List Expr}
/-- a call that raises nothing -/
theorem de_call (fuel : Nat) (G : FnOk X.prog X.w X.K X.mg X.base CX k g fd ps (spD X.K CL CN n m bd)) (hr : Room k X.A) (hm : X.mg x = some (.ref g)) (hk : PySem.W.keepIn X.K (.ref g) = true) (hb : Binds X.K fd ps []) (hx : Passes CX X E0)
    (ha : DG X (a :: es) fg) (hn : (a :: es).length = n := by rfl) (hg : Gl X x := by rfl) (hdb : (x == ("__debug__" : Str)) = false := by decide)
    (he : starEach (a :: es) X.env = (false, eval a X.env) :: starEach es X.env := by rfl) (hpl : (backTo pos (starEach es X.env)).any (·.1) = false := by rfl) :
    DEs X (.Call (.Name x p) (a :: es) [] pos) (eCall (bd fuel) m fg) := by
  obtain ⟨ta, pa, ha⟩ := ha.ex
  refine ⟨_, pe_call G hr hg hm hk hb .nil hx pa hdb he hpl, fun F0 H0 F ρ σ H Q d S e q => ?_⟩
  obtain ⟨ss, e1, e2⟩ := eCall_some e
  refine ha F0 H0 F ρ σ H _ ss S e1 fun vs F1 H1 g1 r1 hl => ?_
  show spD X.K CL CN n m bd (vs ++ []) H1 Q E0
  rw [List.append_nil]
  refine ⟨hl.trans hn, F1, ss, fuel, g1.fh, r1, ?_⟩
  rcases e2 with e2 | ⟨ρ', e2, rfl⟩
  · rw [e2]; exact fun v F' H' g2 r2 => q v F' H' (g1.trans g2) r2
  · rw [e2]; exact fun F' H' g2 => q _ F' H' (g1.trans g2) .non
end
end
end L2.RC

namespace L2.RC
open PySem PySem.Spec PyProof.Rows
/-! ### a def keeps its promise -/
theorem start_ok {K : PySem.W.Frag} {F H : Hp} {N : List Str} {vs : List V} {ss : List Sl} {n : Nat} (s : Same F H) (r : ArgsOk K F H vs ss) (hl : vs.length = n) (hn : n ≤ N.length) :
    StF K F H F (ss ++ List.replicate (N.length - n) .un) (start N vs) H := by
  have hls := r.length
  refine ⟨.refl s, fun i x e => ?_, fun i j a ds es h1 _ _ _ => ?_, ?_⟩
  · by_cases hi : i < ss.length
    · rw [List.getElem?_append_left hi] at e
      obtain ⟨v, h1, h2⟩ := r.get e
      have hs : (start N vs)[i]? = some (some v) := by
        unfold start
        rw [List.getElem?_append_left (by rw [List.length_map]; omega), List.getElem?_map, h1]
        rfl
      rw [hs]
      cases x with
      | un => trivial
      | fz d => exact ⟨v, rfl, h2⟩
      | ow ds => exact h2.elim
      | br ds => obtain ⟨a, ws, rfl, h3, h4⟩ := h2; exact ⟨a, ws, rfl, h3, h4⟩
    · rw [List.getElem?_append_right (by omega), List.getElem?_replicate] at e
      split at e
      · cases e; trivial
      · cases e
  · by_cases hi : i < ss.length
    · rw [List.getElem?_append_left hi] at h1
      obtain ⟨v, _, h2⟩ := r.get h1
      exact h2.elim
    · rw [List.getElem?_append_right (by omega), List.getElem?_replicate] at h1
      split at h1 <;> cases h1
  · unfold start
    rw [List.length_append, List.length_append, List.length_map, List.length_replicate, List.length_replicate]
    omega
theorem fin_out {K : PySem.W.Frag} {F H : Hp} {Q : VK} {EX : EXX} {o : Out} (h : FinOk K F H Q EX o) : OutOk K F H { nx := fun _ H' => Q .non H', rt := Q } EX o := by
  cases o with
  | nx ρ => exact fun F' σ' H' S => h F' H' S.gr
  | rt d => exact h
  | rs x => exact h
  | bk ρ => exact h.elim
  | ct ρ => exact h.elim
  | no => exact h.elim
structure DefAt (K : PySem.W.Frag) (mg : Str → Option Value) (x : Str) (st : Stmt) (f : Addr) (fd : FuncData) : Prop where
  F : Fun K x x st f fd
  g : mg x = some (.ref f)
section
variable {P : Program} {w : World} {K : PySem.W.Frag} {mg : Str → Option Value} {base : Heap} {CL CN : Addr}
theorem scope_le {N ps : List Str} {sc : Scope} (S : FnScope N ps sc) : ps.length ≤ N.length := by
  have := congrArg List.length S.pre
  rw [List.length_take] at this
  omega
theorem mk_ok {x qual : Str} {st : Stmt} {f : Addr} {fd : FuncData} {N ps : List Str} {k : Nat} {b : Nat → SFn} (F : Fun K x qual st f fd) (S : FnScope N ps (defScope st))
    (hb : ∀ (cdv : Value) (A : Around) (outer : List Env) (s : Shared) (H : Hp) (E : XK), Room k (A.deeper (envOfC qual (defScope st) s.heap.objs.size f cdv)) → ∀ n, DSs (cxOf CX0 P w K mg base N qual (defScope st) f cdv A outer s H E).nox (exx CL CN E) (defBody st) (b n)) :
    FnOk P w K mg base CX0 (k + 1) f fd ps (spD K CL CN ps.length (N.length - ps.length) b) := by
  refine F.ok S (fun vs H Q E h => h.1) fun cdv A outer s H vs Q E hr h => ?_
  obtain ⟨hl, F, ss, fuel, sF, ra, fin⟩ := h
  obtain ⟨t, pt, ht⟩ := (hb cdv A outer s H E hr fuel).ex
  exact ⟨t, pt, ht F H F _ _ H _ (start_ok sF ra hl (scope_le S)) (fin_out fin)⟩
/-- .. that may raise -/
theorem mk_okX {x qual : Str} {st : Stmt} {f : Addr} {fd : FuncData} {N ps : List Str} {k : Nat} {b : Nat → SFn} (F : Fun K x qual st f fd) (S : FnScope N ps (defScope st))
    (hb : ∀ (cdv : Value) (A : Around) (outer : List Env) (s : Shared) (H : Hp) (E : XK), Room k (A.deeper (envOfC qual (defScope st) s.heap.objs.size f cdv)) → ∀ n, DSs (cxOf (L2.CX P w) P w K mg base N qual (defScope st) f cdv A outer s H E) (exx CL CN E) (defBody st) (b n)) :
    FnOk P w K mg base (L2.CX P w) (k + 1) f fd ps (spD K CL CN ps.length (N.length - ps.length) b) := by
  refine F.okX S (fun vs H Q E h => h.1) fun cdv A outer s H vs Q E hr h => ?_
  obtain ⟨hl, F, ss, fuel, sF, ra, fin⟩ := h
  obtain ⟨t, pt, ht⟩ := (hb cdv A outer s H E hr fuel).ex
  exact ⟨t, pt, ht F H F _ _ H _ (start_ok sF ra hl (scope_le S)) (fin_out fin)⟩
end
/-- the law's own promise, where its body comes to True at every script -/
theorem law_sp {K : PySem.W.Frag} {CL CN : Addr} {m : Nat} {b : Nat → SFn} {H : Hp} {a : Addr} {ns : List Int} {Q : VK} {E : XK} (hS : SqL K H a (ns.map V.int)) (h : ∃ n, b n (Sl.br (ns.map .int) :: List.replicate m .un) = .rt (.bool true)) (q : ∀ H', Q (.bl true) H') :
    spD K CL CN 1 m b [.ref a] H Q E := by
  obtain ⟨n, h⟩ := h
  refine ⟨rfl, fun _ => none, [Sl.br (ns.map .int)], n, fun _ _ z => (by cases z), .cons ⟨a, _, rfl, hS, rpAll_ints ns⟩ .nil, ?_⟩
  show FinOk _ _ _ _ _ (b n (Sl.br (ns.map .int) :: List.replicate m .un))
  rw [h]
  intro v F' H' g r
  cases r
  exact q H'
end L2.RC

namespace L2.RC
open PySem PySem.Spec PyProof.Rows
/-! ### the functions of the slots, at given slots -/
section
variable {ρ : DEnv} {f g fa fb : EFn} {s t : SFn} {ft fu : TFn} {fo fi : OFn} {fg : LFn} {i : Nat} {d : PyData} {b : SFn} {m : Nat}
theorem a_nil : sNil ρ = .nx ρ := rfl
theorem a_seq : sSeq s t ρ = (match s ρ with | .nx ρ' => t ρ' | o => o) := rfl
theorem a_if : sIf ft s t ρ = (match ft ρ with | some true => s ρ | some false => t ρ | none => .no) := rfl
theorem a_ret : sRet f ρ = (match f ρ with | some d => .rt d | none => .no) := rfl
theorem a_set : sSet i f ρ = (match f ρ with | some d => .nx (ρ.set i (.fz d)) | none => .no) := rfl
theorem a_setO : sSetO i fo ρ = (match fo ρ with | some ds => .nx (ρ.set i (.ow ds)) | none => .no) := rfl
theorem a_sfrz : sFrz i s ρ = s (frz i ρ) := rfl
theorem a_frz : frz i ρ = (match ρ[i]? with | some (.ow ds) => ρ.set i (.fz (.list ds)) | _ => ρ) := rfl
theorem a_mut {h : List PyData → PyData → Option (List PyData)} : sMut i f h ρ = (match ρ[i]? with
  | some (.ow ds) => (match f ρ with | some d => (match h ds d with | some es => .nx (ρ.set i (.ow es)) | none => .no) | none => .no)
  | _ => .no) := rfl
theorem a_put : sPut i f g ρ = (match ρ[i]? with
  | some (.ow ds) => (match g ρ with | some d => (match f ρ with | some (.int k) => (match ixN ds.length k with | some j => .nx (ρ.set i (.ow (ds.set j d))) | none => .no) | _ => .no) | none => .no)
  | _ => .no) := rfl
theorem a_ins : sIns i f g ρ = (match ρ[i]? with
  | some (.ow ds) => (match f ρ with | some (.int k) => (match g ρ with | some d => if ds.length < 1000000 ∧ 0 ≤ k ∧ k < 1000000 then .nx (ρ.set i (.ow (ds.take k.toNat ++ [d] ++ ds.drop k.toNat))) else .no | none => .no) | _ => .no)
  | _ => .no) := rfl
theorem a_for : sFor i fi s ρ = (match fi ρ with | some ds => forL i s ds ρ | none => .no) := rfl
theorem a_bin {h : PyData → PyData → Option PyData} : eBin h fa fb ρ = (fa ρ).bind fun x => (fb ρ).bind fun y => h x y := rfl
theorem a_seqv : eSeq i ρ = (match ρ[i]? with | some (.fz d) => some d | some (.ow ds) => some (.list ds) | some (.br ds) => some (.list ds) | _ => none) := rfl
theorem a_var : eVar i ρ = (match ρ[i]? with | some (.fz d) => some d | _ => none) := rfl
theorem a_c : eC d ρ = some d := rfl
theorem a_un {h : PyData → Option PyData} : eUn h f ρ = (f ρ).bind h := rfl
theorem a_tup {fs : AFn} : eTup fs ρ = (fs ρ).map .tuple := rfl
theorem a_evs0 : evs [] ρ = some [] := rfl
theorem a_evs1 {fs : List EFn} : evs (f :: fs) ρ = (f ρ).bind fun d => (evs fs ρ).map (d :: ·) := rfl
theorem a_call : eCall b m fg ρ = (fg ρ).bind fun ss => match b (ss ++ List.replicate m .un) with
  | .rt d => some d
  | .nx _ => some .none
  | _ => none := rfl
theorem a_gs : gS f fg ρ = (f ρ).bind fun d => (fg ρ).map (Sl.fz d :: ·) := rfl
theorem a_gw : gW f fg ρ = (match f ρ with | some (.list ds) => (fg ρ).map (Sl.br ds :: ·) | _ => none) := rfl
theorem a_gnil : gNil ρ = some [] := rfl
theorem a_tof : tOf f ρ = (match f ρ with | some (.bool b) => some b | _ => none) := rfl
theorem a_tand : tAnd2 ft fu ρ = (match ft ρ with | some true => fu ρ | some false => some false | none => none) := rfl
theorem a_tor : tOr2 ft fu ρ = (match ft ρ with | some true => some true | some false => fu ρ | none => none) := rfl
theorem a_tnot : tNot2 ft ρ = (ft ρ).map (!·) := rfl
theorem a_and : eAnd fa fb ρ = (match fa ρ with | some (.bool true) => fb ρ | some (.bool false) => some (.bool false) | _ => none) := rfl
theorem a_or : eOr fa fb ρ = (match fa ρ with | some (.bool true) => some (.bool true) | some (.bool false) => fb ρ | _ => none) := rfl
theorem a_not : eNot fa ρ = (match fa ρ with | some (.bool k) => some (.bool !k) | _ => none) := rfl
theorem a_eif : eIf ft fa fb ρ = (match ft ρ with | some true => fa ρ | some false => fb ρ | none => none) := rfl
theorem a_neg : eNeg fa ρ = (match fa ρ with | some (.int i) => some (.int (-i)) | _ => none) := rfl
theorem a_lstD : lstD fo ρ = (fo ρ).map PyData.list := rfl
theorem a_rg1 : iRg1 fa ρ = (match fa ρ with | some (.int j) => if rngOk j = true then some (rngD 0 j.toNat) else none | _ => none) := rfl
theorem a_rg2 : iRg2 fa fb ρ = (match fa ρ with | some (.int i) => (match fb ρ with | some (.int j) => if (rngOk i && rngOk j) = true then some (rngD i (j - i).toNat) else none | _ => none) | _ => none) := rfl
theorem a_ilst : iLst fa ρ = (match fa ρ with | some (.list ds) => some ds | _ => none) := rfl
theorem a_itpl : iTpl fa ρ = (match fa ρ with | some (.tuple ds) => some ds | _ => none) := rfl
theorem a_olst : oLst fa ρ = (match fa ρ with | some (.list ds) => some ds | some (.tuple ds) => some ds | _ => none) := rfl
theorem a_comp : oComp i fi ft f ρ = (fi ρ).bind fun ds => if ds.length ≤ 1000000 then compL i ft f ρ ds else none := rfl
theorem a_cat : oCat fa fb ρ = (match fa ρ with
  | some (.list xs) => (match fb ρ with | some (.list ys) => if xs.length + ys.length ≤ 1000000 then some (xs ++ ys) else none | _ => none)
  | _ => none) := rfl
theorem a_for0 : forL i s [] ρ = .nx ρ := rfl
theorem a_for1 {ds : List PyData} : forL i s (d :: ds) ρ = (match s (ρ.set i (.fz d)) with
    | .nx ρ' => forL i s ds ρ'
    | .ct ρ' => forL i s ds ρ'
    | .bk ρ' => .nx ρ'
    | o => o) := rfl
theorem a_comp0 : compL i ft f ρ [] = some [] := rfl
theorem a_comp1 {ds : List PyData} : compL i ft f ρ (d :: ds) = (match ft (ρ.set i (.fz d)) with
    | some true => (f (ρ.set i (.fz d))).bind fun y => (compL i ft f ρ ds).map (y :: ·)
    | some false => compL i ft f ρ ds
    | none => none) := rfl
theorem a_ttrue : tTrue ρ = some true := rfl
end
/-! ### operators at given data -/
theorem dEq_int (i j : Int) : dEq (.int i) (.int j) = some (.bool (i == j)) := rfl
theorem dNe_int (i j : Int) : dNe (.int i) (.int j) = some (.bool (!(i == j))) := rfl
theorem dEq_bool (i j : Bool) : dEq (.bool i) (.bool j) = some (.bool (i == j)) := rfl
theorem dNe_bool (i j : Bool) : dNe (.bool i) (.bool j) = some (.bool (!(i == j))) := rfl
theorem dAdd_int (i j : Int) : dAdd (.int i) (.int j) = some (.int (i + j)) := rfl
theorem dSub_int (i j : Int) : dSub (.int i) (.int j) = some (.int (i - j)) := rfl
theorem dLt_int (i j : Int) : dLt (.int i) (.int j) = some (.bool (decide (i < j))) := rfl
theorem dLe_int (i j : Int) : dLe (.int i) (.int j) = some (.bool (decide (i ≤ j))) := rfl
theorem dGt_int (i j : Int) : dGt (.int i) (.int j) = some (.bool (decide (j < i))) := rfl
theorem dGe_int (i j : Int) : dGe (.int i) (.int j) = some (.bool (decide (j ≤ i))) := rfl
theorem dIs_non (x : PyData) : dIs x .none = some (.bool (isN x)) := rfl
theorem dIsNot_non (x : PyData) : dIsNot x .none = some (.bool (!isN x)) := rfl
theorem dLen_list (ds : List PyData) : dLen (.list ds) = some (.int ds.length) := rfl
theorem dLen_tuple (ds : List PyData) : dLen (.tuple ds) = some (.int ds.length) := rfl
theorem dLen_t2 (a b : PyData) : dLen (.tuple [a, b]) = some (.int 2) := rfl
theorem dAbs_int (i : Int) : dAbs (.int i) = some (.int (if i < 0 then -i else i)) := rfl
theorem isN_none : isN .none = true := rfl
theorem isN_int (i : Int) : isN (.int i) = false := rfl
theorem isN_tup (i : List PyData) : isN (.tuple i) = false := rfl
theorem isN_lst (i : List PyData) : isN (.list i) = false := rfl
theorem ix_t0 (a b : PyData) : dIx (.tuple [a, b]) (.int 0) = some a := rfl
theorem ix_t1 (a b : PyData) : dIx (.tuple [a, b]) (.int 1) = some b := rfl
theorem mul_r {i j : Int} (h : j.natAbs < 2 ^ 64) : dMul (.int i) (.int j) = some (.int (i * j)) := by
  have e : mulOk i j = true := by unfold mulOk; rw [decide_eq_true h, Bool.or_true]
  simp only [dMul, e, if_true]
theorem mul_l {i j : Int} (h : i.natAbs < 2 ^ 64) : dMul (.int i) (.int j) = some (.int (i * j)) := by
  have e : mulOk i j = true := by unfold mulOk; rw [decide_eq_true h, Bool.true_or]
  simp only [dMul, e, if_true]
theorem mod_p {i j : Int} (h : 0 < j) : dMod (.int i) (.int j) = some (.int (i % j)) := by simp only [dMod, h, if_true]
theorem div_p {i j : Int} (h : 0 < j) (h2 : j < 1073741824) : dDiv (.int i) (.int j) = some (.int (i / j)) := by simp only [dDiv, h, h2, and_self, if_true]
theorem mul_two (j : Int) : dMul (.int 2) (.int j) = some (.int (2 * j)) := mul_l (by decide)
theorem mod_2 (i : Int) : dMod (.int i) (.int 2) = some (.int (i % 2)) := mod_p (by decide)
theorem div_2 (i : Int) : dDiv (.int i) (.int 2) = some (.int (i / 2)) := div_p (by decide) (by decide)
/-! isinstance -/
theorem isi_tt (x : List PyData) : dIsi "tuple" (.tuple x) = some (.bool true) := by show (kitB "tuple" "tuple").map _ = _; rw [show kitB "tuple" "tuple" = some true by decide +kernel]; rfl
theorem isi_ib (x : Int) : dIsi "bool" (.int x) = some (.bool false) := by show (kitB "int" "bool").map _ = _; rw [show kitB "int" "bool" = some false by decide +kernel]; rfl
theorem isi_ii (x : Int) : dIsi "int" (.int x) = some (.bool true) := by show (kitB "int" "int").map _ = _; rw [show kitB "int" "int" = some true by decide +kernel]; rfl
theorem isi_bb (x : Bool) : dIsi "bool" (.bool x) = some (.bool true) := by show (kitB "bool" "bool").map _ = _; rw [show kitB "bool" "bool" = some true by decide +kernel]; rfl
theorem isi_ll (x : List PyData) : dIsi "list" (.list x) = some (.bool true) := by show (kitB "list" "list").map _ = _; rw [show kitB "list" "list" = some true by decide +kernel]; rfl
theorem isi_ss (x : Str) : dIsi "str" (.str x) = some (.bool true) := by show (kitB "str" "str").map _ = _; rw [show kitB "str" "str" = some true by decide +kernel]; rfl
end L2.RC

namespace L2.RC
open PySem PySem.Spec PyProof.Rows
/-! ### dyadic fractions: (t, k) stands for t / 2 ^ k -/
def lowN : Nat → Int → Int × Nat
  | 0, t => (t, 0)
  | k + 1, t => if t % 2 = 0 then lowN k (t / 2) else (t, k + 1)
abbrev Mo := Int × Nat
theorem p2_pos (k : Nat) : (0 : Int) < 2 ^ k := Int.pow_pos (by decide)
theorem p2_succ (k : Nat) : (2 : Int) ^ (k + 1) = 2 * 2 ^ k := by rw [Int.pow_succ]; exact Int.mul_comm _ _
theorem p2_add (i j : Nat) : (2 : Int) ^ (i + j) = 2 ^ i * 2 ^ j := Int.pow_add 2 i j
theorem p2_one : (2 : Int) ^ 0 = 1 := rfl
theorem lowN_val : ∀ (k : Nat) (t : Int), (lowN k t).1 * 2 ^ k = t * 2 ^ (lowN k t).2
  | 0, t => rfl
  | k + 1, t => by
    unfold lowN
    split
    · rename_i h
      have ih := lowN_val k (t / 2)
      have e : t = 2 * (t / 2) := by omega
      generalize t / 2 = u at ih e
      subst e
      rw [p2_succ]
      generalize (lowN k u).1 = a at ih ⊢
      generalize (2 : Int) ^ (lowN k u).2 = b at ih ⊢
      generalize (2 : Int) ^ k = c at ih ⊢
      grind
    · rfl
theorem lowN_le : ∀ (k : Nat) (t : Int), (lowN k t).2 ≤ k
  | 0, t => Nat.le_refl _
  | k + 1, t => by
    unfold lowN
    split
    · exact Nat.le_succ_of_le (lowN_le k _)
    · exact Nat.le_refl _
theorem lowN_norm : ∀ (k : Nat) (t : Int), (lowN k t).2 = 0 ∨ (lowN k t).1 % 2 = 1
  | 0, t => .inl rfl
  | k + 1, t => by
    unfold lowN
    split
    · exact lowN_norm k _
    · rename_i h
      exact .inr (by show t % 2 = 1; omega)
theorem lowN_same {k : Nat} {t : Int} (h : k = 0 ∨ t % 2 = 1) : lowN k t = (t, k) := by
  cases k with
  | zero => rfl
  | succ k =>
    unfold lowN
    rw [if_neg (by omega)]
theorem lowN_two (k : Nat) (t : Int) : lowN (k + 1) (2 * t) = lowN k t := by
  show (if 2 * t % 2 = 0 then lowN k (2 * t / 2) else _) = _
  rw [if_pos (by omega), show 2 * t / 2 = t by omega]
theorem lowN_up (k : Nat) (t : Int) : ∀ i : Nat, lowN (k + i) (2 ^ i * t) = lowN k t
  | 0 => by rw [p2_one, Int.one_mul]; rfl
  | i + 1 => by
    rw [p2_succ, Int.mul_assoc]
    exact (lowN_two (k + i) (2 ^ i * t)).trans (lowN_up k t i)
theorem lowN_eq {k j : Nat} {t s : Int} (h : t * 2 ^ j = s * 2 ^ k) : lowN k t = lowN j s := by
  rcases Nat.le_total k j with hk | hk
  · obtain ⟨i, rfl⟩ := Nat.exists_eq_add_of_le hk
    have e : s = 2 ^ i * t := by
      rw [p2_add] at h
      have hp := p2_pos k
      refine (Int.eq_of_mul_eq_mul_right (Int.ne_of_gt hp) ?_)
      rw [← h]
      generalize (2 : Int) ^ k = a
      generalize (2 : Int) ^ i = b
      grind
    rw [e, lowN_up]
  · obtain ⟨i, rfl⟩ := Nat.exists_eq_add_of_le hk
    have e : t = 2 ^ i * s := by
      rw [p2_add] at h
      have hp := p2_pos j
      refine (Int.eq_of_mul_eq_mul_right (Int.ne_of_gt hp) ?_)
      rw [h]
      generalize (2 : Int) ^ j = a
      generalize (2 : Int) ^ i = b
      grind
    rw [e, lowN_up]
theorem lowN_inj {k : Nat} {t s : Int} (h : lowN k t = lowN k s) : t = s := by
  have h1 := lowN_val k t
  have h2 := lowN_val k s
  rw [h] at h1
  have h3 : t * 2 ^ (lowN k s).2 = s * 2 ^ (lowN k s).2 := h1.symm.trans h2
  exact Int.eq_of_mul_eq_mul_right (Int.ne_of_gt (p2_pos _)) h3
/-- the told form stays the told form -/
theorem lowN_idem (k : Nat) (t : Int) : lowN (lowN k t).2 (lowN k t).1 = lowN k t := lowN_eq (lowN_val k t)

/-! ### sums, halves, gaps, order, all over the bottom 2 ^ K -/
section
variable {K : Nat} {v u : Int}
/-- (t, k) the told form of v / 2 ^ K -/
theorem mean_eq (v u : Int) (K : Nat) : lowN ((lowN K v).2 + (lowN K u).2 + 1) ((lowN K v).1 * 2 ^ (lowN K u).2 + (lowN K u).1 * 2 ^ (lowN K v).2 + 2 ^ (lowN K v).2 * 2 ^ (lowN K u).2) = lowN (K + 1) (v + u + 2 ^ K) := by
  have h1 := lowN_val K v
  have h2 := lowN_val K u
  refine lowN_eq ?_
  rw [p2_succ, p2_succ, p2_add]
  generalize (lowN K v).1 = t at *
  generalize (lowN K u).1 = s at *
  generalize (2 : Int) ^ (lowN K v).2 = a at *
  generalize (2 : Int) ^ (lowN K u).2 = b at *
  generalize (2 : Int) ^ K = c at *
  grind
theorem sum_eq (v u : Int) (K : Nat) : lowN ((lowN K v).2 + (lowN K u).2) ((lowN K v).1 * 2 ^ (lowN K u).2 + (lowN K u).1 * 2 ^ (lowN K v).2) = lowN K (v + u) := by
  have h1 := lowN_val K v
  have h2 := lowN_val K u
  refine lowN_eq ?_
  rw [p2_add]
  generalize (lowN K v).1 = t at *
  generalize (lowN K u).1 = s at *
  generalize (2 : Int) ^ (lowN K v).2 = a at *
  generalize (2 : Int) ^ (lowN K u).2 = b at *
  generalize (2 : Int) ^ K = c at *
  grind
theorem diff_eq (v u : Int) (K : Nat) : lowN ((lowN K v).2 + (lowN K u).2) ((lowN K v).1 * 2 ^ (lowN K u).2 - (lowN K u).1 * 2 ^ (lowN K v).2) = lowN K (v - u) := by
  have h1 := lowN_val K v
  have h2 := lowN_val K u
  refine lowN_eq ?_
  rw [p2_add]
  generalize (lowN K v).1 = t at *
  generalize (lowN K u).1 = s at *
  generalize (2 : Int) ^ (lowN K v).2 = a at *
  generalize (2 : Int) ^ (lowN K u).2 = b at *
  generalize (2 : Int) ^ K = c at *
  grind
theorem hour_eq (v : Int) (K : Nat) : ((lowN K v).1 + 2 ^ (lowN K v).2, (lowN K v).2) = lowN K (v + 2 ^ K) := by
  have h1 := lowN_val K v
  have h2 := lowN_norm K v
  generalize (lowN K v).1 = t at *
  generalize (lowN K v).2 = k at *
  have e : lowN k (t + 2 ^ k) = (t + 2 ^ k, k) := by
    refine lowN_same ?_
    rcases h2 with h | h
    · exact .inl h
    · cases k with
      | zero => exact .inl rfl
      | succ k => rw [p2_succ]; exact .inr (by omega)
  rw [← e]
  refine lowN_eq ?_
  generalize (2 : Int) ^ k = a at *
  generalize (2 : Int) ^ K = c at *
  grind
theorem less_iff (v u : Int) (K : Nat) : (lowN K v).1 * 2 ^ (lowN K u).2 < (lowN K u).1 * 2 ^ (lowN K v).2 ↔ v < u := by
  have h1 := lowN_val K v
  have h2 := lowN_val K u
  have ha := p2_pos (lowN K v).2
  have hb := p2_pos (lowN K u).2
  have hc := p2_pos K
  generalize (lowN K v).1 = t at *
  generalize (lowN K u).1 = s at *
  generalize (2 : Int) ^ (lowN K v).2 = a at *
  generalize (2 : Int) ^ (lowN K u).2 = b at *
  generalize (2 : Int) ^ K = c at *
  have e1 : t * b * c = v * (a * b) := by grind
  have e2 : s * a * c = u * (a * b) := by grind
  constructor
  · intro h
    have h3 : t * b * c < s * a * c := Int.mul_lt_mul_of_pos_right h hc
    rw [e1, e2] at h3
    exact Int.lt_of_mul_lt_mul_right h3 (Int.le_of_lt (Int.mul_pos ha hb))
  · intro h
    have h3 : v * (a * b) < u * (a * b) := Int.mul_lt_mul_of_pos_right h (Int.mul_pos ha hb)
    rw [← e1, ← e2] at h3
    exact Int.lt_of_mul_lt_mul_right h3 (Int.le_of_lt hc)
theorem one_eq (K : Nat) : lowN K (2 ^ K) = (1, 0) := by
  have h := lowN_up 0 1 K
  rw [Nat.zero_add, Int.mul_one] at h
  exact h
theorem zero_eq : ∀ (K : Nat), lowN K 0 = (0, 0)
  | 0 => rfl
  | K + 1 => by
    have h := lowN_two K 0
    rw [Int.mul_zero] at h
    exact h.trans (zero_eq K)
end
end L2.RC

namespace L2.RC
open PySem PySem.Spec PyProof.Rows
def topS (i : Nat) : Stmt := PySem.Challenge.pw_ropeclock_k01_times_reckoned.main.body.getD i (.Pass ⟨0, 0, 0, 0⟩)
structure Txt (K : PySem.W.Frag) (mg : Str → Option Value) where
  CL : Addr
  CN : Addr
  f_plain : Addr
  d_plain : FuncData
  a_plain : DefAt K mg "plain" (topS 1) f_plain d_plain
  f_mean_and_half : Addr
  d_mean_and_half : FuncData
  a_mean_and_half : DefAt K mg "mean_and_half" (topS 2) f_mean_and_half d_mean_and_half
  f_hour_behind : Addr
  d_hour_behind : FuncData
  a_hour_behind : DefAt K mg "hour_behind" (topS 3) f_hour_behind d_hour_behind
  f_earlier : Addr
  d_earlier : FuncData
  a_earlier : DefAt K mg "earlier" (topS 4) f_earlier d_earlier
  f_between : Addr
  d_between : FuncData
  a_between : DefAt K mg "between" (topS 5) f_between d_between
  f_l_cell_at : Addr
  d_l_cell_at : FuncData
  a_l_cell_at : DefAt K mg "_law_cell_at" (topS 7) f_l_cell_at d_l_cell_at
  f_l_low : Addr
  d_l_low : FuncData
  a_l_low : DefAt K mg "_law_low" (topS 8) f_l_low d_l_low
  f_l_sum : Addr
  d_l_sum : FuncData
  a_l_sum : DefAt K mg "_law_sum" (topS 9) f_l_sum d_l_sum
  f_l_less : Addr
  d_l_less : FuncData
  a_l_less : DefAt K mg "_law_less" (topS 10) f_l_less d_l_less
  f_l_gap : Addr
  d_l_gap : FuncData
  a_l_gap : DefAt K mg "_law_gap" (topS 11) f_l_gap d_l_gap
  f_l_fraction : Addr
  d_l_fraction : FuncData
  a_l_fraction : DefAt K mg "_law_fraction" (topS 12) f_l_fraction d_l_fraction
  f_l_moment : Addr
  d_l_moment : FuncData
  a_l_moment : DefAt K mg "_law_moment" (topS 13) f_l_moment d_l_moment
  f_law : Addr
  d_law : FuncData
  a_law : DefAt K mg "law" (topS 14) f_law d_law
  z_abs : mg "abs" = none
  z_bool : mg "bool" = none
  z_int : mg "int" = none
  z_isinstance : mg "isinstance" = none
  z_len : mg "len" = none
  z_range : mg "range" = none
  z_tuple : mg "tuple" = none
section
variable {P : Program} {w : World} {K : PySem.W.Frag} {mg : Str → Option Value} {base : Heap}
abbrev s_plain : Stmt := topS 1
abbrev N_plain : List Str := ["top", "bottom"]
theorem sc_plain : FnScope N_plain ["top", "bottom"] (defScope s_plain) := ⟨rfl, rfl, rfl, by decide +kernel, rfl, by decide +kernel, by decide +kernel⟩
def c_plain_1 (n : Nat) : SFn :=
    (sSeq (sSet 0 (eBin dDiv (eSeq 0) (eC (.int 2))))
    (sSet 1 (eBin dDiv (eSeq 1) (eC (.int 2)))))
def b_plain (n : Nat) : SFn :=
    (sSeq (sWhile (tAnd2 (tOf (eBin dGt (eSeq 1) (eC (.int 1)))) (tOf (eBin dEq (eBin dMod (eSeq 0) (eC (.int 2))) (eC (.int 0))))) (c_plain_1 n) n)
    (sRet (eTup (evs [(eVar 0), (eVar 1)]))))
theorem bi_plain (T : Txt K mg) : Binds K T.d_plain ["top", "bottom"] [] := T.a_plain.F.binds fun _ _ _ _ _ _ us hl => match us, hl with | [_, _], _ => rfl
theorem ok_plain (T : Txt K mg) : FnOk P w K mg base CX0 1 T.f_plain T.d_plain ["top", "bottom"] (spD K T.CL T.CN 2 0 b_plain) :=
  mk_ok T.a_plain.F sc_plain fun cdv A outer s H E hr n =>
    (dss_cons (ds_while n PassesOwn.never (dt_w (dw_and (dt_cmp op_gt vok_gt (de_seq 1) (DEs.w de_int) (nomark _)) (dw_and1 (dt_cmp (op_eqD (hu64 hr)) vok_eq (DEs.w (de_mod (de_seq 0) (DEs.w de_int))) (DEs.w de_int) (nomark _))))) (dss_cons (ds_set 0 (de_div (de_seq 0) (DEs.w de_int)) sc_plain.nd)
    (dss_one (ds_set 1 (de_div (de_seq 1) (DEs.w de_int)) sc_plain.nd))))
    (dss_one (ds_ret (de_tup (da_cons (de_var 0) (da_cons (de_var 1) da_nil))))))
abbrev s_mean_and_half : Stmt := topS 2
abbrev N_mean_and_half : List Str := ["one", "other", "top"]
theorem sc_mean_and_half : FnScope N_mean_and_half ["one", "other"] (defScope s_mean_and_half) := ⟨rfl, rfl, rfl, by decide +kernel, rfl, by decide +kernel, by decide +kernel⟩
def b_mean_and_half (n : Nat) : SFn :=
    (sSeq (sSet 2 (eBin dAdd (eBin dAdd (eBin dMul (eBin dIx (eSeq 0) (eC (.int 0))) (eBin dIx (eSeq 1) (eC (.int 1)))) (eBin dMul (eBin dIx (eSeq 1) (eC (.int 0))) (eBin dIx (eSeq 0) (eC (.int 1))))) (eBin dMul (eBin dIx (eSeq 0) (eC (.int 1))) (eBin dIx (eSeq 1) (eC (.int 1))))))
    (sRet (eCall (b_plain n) 0 (gS (eVar 2) (gS (eBin dMul (eBin dMul (eC (.int 2)) (eBin dIx (eSeq 0) (eC (.int 1)))) (eBin dIx (eSeq 1) (eC (.int 1)))) gNil)))))
theorem bi_mean_and_half (T : Txt K mg) : Binds K T.d_mean_and_half ["one", "other"] [] := T.a_mean_and_half.F.binds fun _ _ _ _ _ _ us hl => match us, hl with | [_, _], _ => rfl
theorem ok_mean_and_half (T : Txt K mg) : FnOk P w K mg base CX0 2 T.f_mean_and_half T.d_mean_and_half ["one", "other"] (spD K T.CL T.CN 2 1 b_mean_and_half) :=
  mk_ok T.a_mean_and_half.F sc_mean_and_half fun cdv A outer s H E hr n =>
    (dss_cons (ds_set 2 (de_add (DEs.w (de_add (DEs.w (de_mul (DEs.w (de_ix (de_seq 0) (DEs.w de_int))) (DEs.w (de_ix (de_seq 1) (DEs.w de_int))))) (DEs.w (de_mul (DEs.w (de_ix (de_seq 1) (DEs.w de_int))) (DEs.w (de_ix (de_seq 0) (DEs.w de_int))))))) (DEs.w (de_mul (DEs.w (de_ix (de_seq 0) (DEs.w de_int))) (DEs.w (de_ix (de_seq 1) (DEs.w de_int)))))) sc_mean_and_half.nd)
    (dss_one (ds_ret (de_call n (ok_plain T) (hr.mono (by decide)) T.a_plain.g T.a_plain.F.kp (bi_plain T) pass0 (dg_s (de_var 2) (dg_s (de_mul (DEs.w (de_mul (DEs.w de_int) (DEs.w (de_ix (de_seq 0) (DEs.w de_int))))) (DEs.w (de_ix (de_seq 1) (DEs.w de_int)))) dg_nil))))))
abbrev s_hour_behind : Stmt := topS 3
abbrev N_hour_behind : List Str := ["one"]
theorem sc_hour_behind : FnScope N_hour_behind ["one"] (defScope s_hour_behind) := ⟨rfl, rfl, rfl, by decide +kernel, rfl, by decide +kernel, by decide +kernel⟩
def b_hour_behind (n : Nat) : SFn :=
    (sRet (eTup (evs [(eBin dAdd (eBin dIx (eSeq 0) (eC (.int 0))) (eBin dIx (eSeq 0) (eC (.int 1)))), (eBin dIx (eSeq 0) (eC (.int 1)))])))
theorem bi_hour_behind (T : Txt K mg) : Binds K T.d_hour_behind ["one"] [] := T.a_hour_behind.F.binds fun _ _ _ _ _ _ us hl => match us, hl with | [_], _ => rfl
theorem ok_hour_behind (T : Txt K mg) : FnOk P w K mg base CX0 1 T.f_hour_behind T.d_hour_behind ["one"] (spD K T.CL T.CN 1 0 b_hour_behind) :=
  mk_ok T.a_hour_behind.F sc_hour_behind fun cdv A outer s H E hr n =>
    (dss_one (ds_ret (de_tup (da_cons (de_add (DEs.w (de_ix (de_seq 0) (DEs.w de_int))) (DEs.w (de_ix (de_seq 0) (DEs.w de_int)))) (da_cons (de_ix (de_seq 0) (DEs.w de_int)) da_nil)))))
abbrev s_earlier : Stmt := topS 4
abbrev N_earlier : List Str := ["one", "other"]
theorem sc_earlier : FnScope N_earlier ["one", "other"] (defScope s_earlier) := ⟨rfl, rfl, rfl, by decide +kernel, rfl, by decide +kernel, by decide +kernel⟩
def b_earlier (n : Nat) : SFn :=
    (sRet (eBin dLt (eBin dMul (eBin dIx (eSeq 0) (eC (.int 0))) (eBin dIx (eSeq 1) (eC (.int 1)))) (eBin dMul (eBin dIx (eSeq 1) (eC (.int 0))) (eBin dIx (eSeq 0) (eC (.int 1))))))
theorem bi_earlier (T : Txt K mg) : Binds K T.d_earlier ["one", "other"] [] := T.a_earlier.F.binds fun _ _ _ _ _ _ us hl => match us, hl with | [_, _], _ => rfl
theorem ok_earlier (T : Txt K mg) : FnOk P w K mg base CX0 1 T.f_earlier T.d_earlier ["one", "other"] (spD K T.CL T.CN 2 0 b_earlier) :=
  mk_ok T.a_earlier.F sc_earlier fun cdv A outer s H E hr n =>
    (dss_one (ds_ret (de_cmp op_lt vok_lt (DEs.w (de_mul (DEs.w (de_ix (de_seq 0) (DEs.w de_int))) (DEs.w (de_ix (de_seq 1) (DEs.w de_int))))) (DEs.w (de_mul (DEs.w (de_ix (de_seq 1) (DEs.w de_int))) (DEs.w (de_ix (de_seq 0) (DEs.w de_int))))) (nomark _))))
abbrev s_between : Stmt := topS 5
abbrev N_between : List Str := ["one", "other"]
theorem sc_between : FnScope N_between ["one", "other"] (defScope s_between) := ⟨rfl, rfl, rfl, by decide +kernel, rfl, by decide +kernel, by decide +kernel⟩
def b_between (n : Nat) : SFn :=
    (sRet (eCall (b_plain n) 0 (gS (eUn dAbs (eBin dSub (eBin dMul (eBin dIx (eSeq 0) (eC (.int 0))) (eBin dIx (eSeq 1) (eC (.int 1)))) (eBin dMul (eBin dIx (eSeq 1) (eC (.int 0))) (eBin dIx (eSeq 0) (eC (.int 1)))))) (gS (eBin dMul (eBin dIx (eSeq 0) (eC (.int 1))) (eBin dIx (eSeq 1) (eC (.int 1)))) gNil))))
theorem bi_between (T : Txt K mg) : Binds K T.d_between ["one", "other"] [] := T.a_between.F.binds fun _ _ _ _ _ _ us hl => match us, hl with | [_, _], _ => rfl
theorem ok_between (T : Txt K mg) : FnOk P w K mg base CX0 2 T.f_between T.d_between ["one", "other"] (spD K T.CL T.CN 2 0 b_between) :=
  mk_ok T.a_between.F sc_between fun cdv A outer s H E hr n =>
    (dss_one (ds_ret (de_call n (ok_plain T) (hr.mono (by decide)) T.a_plain.g T.a_plain.F.kp (bi_plain T) pass0 (dg_s (de_abs T.z_abs (DEs.w (de_sub (DEs.w (de_mul (DEs.w (de_ix (de_seq 0) (DEs.w de_int))) (DEs.w (de_ix (de_seq 1) (DEs.w de_int))))) (DEs.w (de_mul (DEs.w (de_ix (de_seq 1) (DEs.w de_int))) (DEs.w (de_ix (de_seq 0) (DEs.w de_int)))))))) (dg_s (de_mul (DEs.w (de_ix (de_seq 0) (DEs.w de_int))) (DEs.w (de_ix (de_seq 1) (DEs.w de_int)))) dg_nil)))))
abbrev s_l_cell_at : Stmt := topS 7
abbrev N_l_cell_at : List Str := ["script", "k"]
theorem sc_l_cell_at : FnScope N_l_cell_at ["script", "k"] (defScope s_l_cell_at) := ⟨rfl, rfl, rfl, by decide +kernel, rfl, by decide +kernel, by decide +kernel⟩
def b_l_cell_at (n : Nat) : SFn :=
    (sSeq (sIf (tOf (eBin dLt (eSeq 1) (eUn dLen (eSeq 0)))) (sRet (eBin dIx (eSeq 0) (eSeq 1))) sNil)
    (sRet (eC (.int 0))))
theorem bi_l_cell_at (T : Txt K mg) : Binds K T.d_l_cell_at ["script", "k"] [] := T.a_l_cell_at.F.binds fun _ _ _ _ _ _ us hl => match us, hl with | [_, _], _ => rfl
theorem ok_l_cell_at (T : Txt K mg) : FnOk P w K mg base CX0 1 T.f_l_cell_at T.d_l_cell_at ["script", "k"] (spD K T.CL T.CN 2 0 b_l_cell_at) :=
  mk_ok T.a_l_cell_at.F sc_l_cell_at fun cdv A outer s H E hr n =>
    (dss_cons (ds_if (dt_cmp op_lt vok_lt (de_seq 1) (DEs.w (de_len T.z_len (de_seq 0))) (nomark _)) (dss_one (ds_ret (de_ix (de_seq 0) (de_seq 1)))) dss_nil)
    (dss_one (ds_ret de_int)))
abbrev s_l_low : Stmt := topS 8
abbrev N_l_low : List Str := ["top", "bottom"]
theorem sc_l_low : FnScope N_l_low ["top", "bottom"] (defScope s_l_low) := ⟨rfl, rfl, rfl, by decide +kernel, rfl, by decide +kernel, by decide +kernel⟩
def c_l_low_1 (n : Nat) : SFn :=
    (sSeq (sSet 0 (eBin dDiv (eSeq 0) (eC (.int 2))))
    (sSet 1 (eBin dDiv (eSeq 1) (eC (.int 2)))))
def b_l_low (n : Nat) : SFn :=
    (sSeq (sWhile (tAnd2 (tOf (eBin dGt (eSeq 1) (eC (.int 1)))) (tOf (eBin dEq (eBin dMod (eSeq 0) (eC (.int 2))) (eC (.int 0))))) (c_l_low_1 n) n)
    (sRet (eTup (evs [(eVar 0), (eVar 1)]))))
theorem bi_l_low (T : Txt K mg) : Binds K T.d_l_low ["top", "bottom"] [] := T.a_l_low.F.binds fun _ _ _ _ _ _ us hl => match us, hl with | [_, _], _ => rfl
theorem ok_l_low (T : Txt K mg) : FnOk P w K mg base CX0 1 T.f_l_low T.d_l_low ["top", "bottom"] (spD K T.CL T.CN 2 0 b_l_low) :=
  mk_ok T.a_l_low.F sc_l_low fun cdv A outer s H E hr n =>
    (dss_cons (ds_while n PassesOwn.never (dt_w (dw_and (dt_cmp op_gt vok_gt (de_seq 1) (DEs.w de_int) (nomark _)) (dw_and1 (dt_cmp (op_eqD (hu64 hr)) vok_eq (DEs.w (de_mod (de_seq 0) (DEs.w de_int))) (DEs.w de_int) (nomark _))))) (dss_cons (ds_set 0 (de_div (de_seq 0) (DEs.w de_int)) sc_l_low.nd)
    (dss_one (ds_set 1 (de_div (de_seq 1) (DEs.w de_int)) sc_l_low.nd))))
    (dss_one (ds_ret (de_tup (da_cons (de_var 0) (da_cons (de_var 1) da_nil))))))
abbrev s_l_sum : Stmt := topS 9
abbrev N_l_sum : List Str := ["one", "other"]
theorem sc_l_sum : FnScope N_l_sum ["one", "other"] (defScope s_l_sum) := ⟨rfl, rfl, rfl, by decide +kernel, rfl, by decide +kernel, by decide +kernel⟩
def b_l_sum (n : Nat) : SFn :=
    (sRet (eCall (b_l_low n) 0 (gS (eBin dAdd (eBin dMul (eBin dIx (eSeq 0) (eC (.int 0))) (eBin dIx (eSeq 1) (eC (.int 1)))) (eBin dMul (eBin dIx (eSeq 1) (eC (.int 0))) (eBin dIx (eSeq 0) (eC (.int 1))))) (gS (eBin dMul (eBin dIx (eSeq 0) (eC (.int 1))) (eBin dIx (eSeq 1) (eC (.int 1)))) gNil))))
theorem bi_l_sum (T : Txt K mg) : Binds K T.d_l_sum ["one", "other"] [] := T.a_l_sum.F.binds fun _ _ _ _ _ _ us hl => match us, hl with | [_, _], _ => rfl
theorem ok_l_sum (T : Txt K mg) : FnOk P w K mg base CX0 2 T.f_l_sum T.d_l_sum ["one", "other"] (spD K T.CL T.CN 2 0 b_l_sum) :=
  mk_ok T.a_l_sum.F sc_l_sum fun cdv A outer s H E hr n =>
    (dss_one (ds_ret (de_call n (ok_l_low T) (hr.mono (by decide)) T.a_l_low.g T.a_l_low.F.kp (bi_l_low T) pass0 (dg_s (de_add (DEs.w (de_mul (DEs.w (de_ix (de_seq 0) (DEs.w de_int))) (DEs.w (de_ix (de_seq 1) (DEs.w de_int))))) (DEs.w (de_mul (DEs.w (de_ix (de_seq 1) (DEs.w de_int))) (DEs.w (de_ix (de_seq 0) (DEs.w de_int)))))) (dg_s (de_mul (DEs.w (de_ix (de_seq 0) (DEs.w de_int))) (DEs.w (de_ix (de_seq 1) (DEs.w de_int)))) dg_nil)))))
abbrev s_l_less : Stmt := topS 10
abbrev N_l_less : List Str := ["one", "other"]
theorem sc_l_less : FnScope N_l_less ["one", "other"] (defScope s_l_less) := ⟨rfl, rfl, rfl, by decide +kernel, rfl, by decide +kernel, by decide +kernel⟩
def b_l_less (n : Nat) : SFn :=
    (sRet (eBin dLt (eBin dMul (eBin dIx (eSeq 0) (eC (.int 0))) (eBin dIx (eSeq 1) (eC (.int 1)))) (eBin dMul (eBin dIx (eSeq 1) (eC (.int 0))) (eBin dIx (eSeq 0) (eC (.int 1))))))
theorem bi_l_less (T : Txt K mg) : Binds K T.d_l_less ["one", "other"] [] := T.a_l_less.F.binds fun _ _ _ _ _ _ us hl => match us, hl with | [_, _], _ => rfl
theorem ok_l_less (T : Txt K mg) : FnOk P w K mg base CX0 1 T.f_l_less T.d_l_less ["one", "other"] (spD K T.CL T.CN 2 0 b_l_less) :=
  mk_ok T.a_l_less.F sc_l_less fun cdv A outer s H E hr n =>
    (dss_one (ds_ret (de_cmp op_lt vok_lt (DEs.w (de_mul (DEs.w (de_ix (de_seq 0) (DEs.w de_int))) (DEs.w (de_ix (de_seq 1) (DEs.w de_int))))) (DEs.w (de_mul (DEs.w (de_ix (de_seq 1) (DEs.w de_int))) (DEs.w (de_ix (de_seq 0) (DEs.w de_int))))) (nomark _))))
abbrev s_l_gap : Stmt := topS 11
abbrev N_l_gap : List Str := ["one", "other"]
theorem sc_l_gap : FnScope N_l_gap ["one", "other"] (defScope s_l_gap) := ⟨rfl, rfl, rfl, by decide +kernel, rfl, by decide +kernel, by decide +kernel⟩
def b_l_gap (n : Nat) : SFn :=
    (sSeq (sIf (tOf (eCall (b_l_less n) 0 (gS (eVar 0) (gS (eVar 1) gNil)))) (sRet (eCall (b_l_low n) 0 (gS (eBin dSub (eBin dMul (eBin dIx (eSeq 1) (eC (.int 0))) (eBin dIx (eSeq 0) (eC (.int 1)))) (eBin dMul (eBin dIx (eSeq 0) (eC (.int 0))) (eBin dIx (eSeq 1) (eC (.int 1))))) (gS (eBin dMul (eBin dIx (eSeq 0) (eC (.int 1))) (eBin dIx (eSeq 1) (eC (.int 1)))) gNil)))) sNil)
    (sRet (eCall (b_l_low n) 0 (gS (eBin dSub (eBin dMul (eBin dIx (eSeq 0) (eC (.int 0))) (eBin dIx (eSeq 1) (eC (.int 1)))) (eBin dMul (eBin dIx (eSeq 1) (eC (.int 0))) (eBin dIx (eSeq 0) (eC (.int 1))))) (gS (eBin dMul (eBin dIx (eSeq 0) (eC (.int 1))) (eBin dIx (eSeq 1) (eC (.int 1)))) gNil)))))
theorem bi_l_gap (T : Txt K mg) : Binds K T.d_l_gap ["one", "other"] [] := T.a_l_gap.F.binds fun _ _ _ _ _ _ us hl => match us, hl with | [_, _], _ => rfl
theorem ok_l_gap (T : Txt K mg) : FnOk P w K mg base CX0 2 T.f_l_gap T.d_l_gap ["one", "other"] (spD K T.CL T.CN 2 0 b_l_gap) :=
  mk_ok T.a_l_gap.F sc_l_gap fun cdv A outer s H E hr n =>
    (dss_cons (ds_if (dt_val (de_call n (ok_l_less T) (hr.mono (by decide)) T.a_l_less.g T.a_l_less.F.kp (bi_l_less T) pass0 (dg_s (de_var 0) (dg_s (de_var 1) dg_nil)))) (dss_one (ds_ret (de_call n (ok_l_low T) (hr.mono (by decide)) T.a_l_low.g T.a_l_low.F.kp (bi_l_low T) pass0 (dg_s (de_sub (DEs.w (de_mul (DEs.w (de_ix (de_seq 1) (DEs.w de_int))) (DEs.w (de_ix (de_seq 0) (DEs.w de_int))))) (DEs.w (de_mul (DEs.w (de_ix (de_seq 0) (DEs.w de_int))) (DEs.w (de_ix (de_seq 1) (DEs.w de_int)))))) (dg_s (de_mul (DEs.w (de_ix (de_seq 0) (DEs.w de_int))) (DEs.w (de_ix (de_seq 1) (DEs.w de_int)))) dg_nil))))) dss_nil)
    (dss_one (ds_ret (de_call n (ok_l_low T) (hr.mono (by decide)) T.a_l_low.g T.a_l_low.F.kp (bi_l_low T) pass0 (dg_s (de_sub (DEs.w (de_mul (DEs.w (de_ix (de_seq 0) (DEs.w de_int))) (DEs.w (de_ix (de_seq 1) (DEs.w de_int))))) (DEs.w (de_mul (DEs.w (de_ix (de_seq 1) (DEs.w de_int))) (DEs.w (de_ix (de_seq 0) (DEs.w de_int)))))) (dg_s (de_mul (DEs.w (de_ix (de_seq 0) (DEs.w de_int))) (DEs.w (de_ix (de_seq 1) (DEs.w de_int)))) dg_nil))))))
abbrev s_l_fraction : Stmt := topS 12
abbrev N_l_fraction : List Str := ["found", "due", "part"]
theorem sc_l_fraction : FnScope N_l_fraction ["found", "due"] (defScope s_l_fraction) := ⟨rfl, rfl, rfl, by decide +kernel, rfl, by decide +kernel, by decide +kernel⟩
def c_l_fraction_1 (n : Nat) : SFn :=
    (sIf (tOr2 (tOf (eUn (dIsi "bool") (eSeq 2))) (tNot2 (tOf (eUn (dIsi "int") (eSeq 2))))) (sRet (eC (.bool false))) sNil)
def b_l_fraction (n : Nat) : SFn :=
    (sSeq (sIf (tOr2 (tNot2 (tOf (eUn (dIsi "tuple") (eSeq 0)))) (tOf (eBin dNe (eUn dLen (eSeq 0)) (eC (.int 2))))) (sRet (eC (.bool false))) sNil)
    (sSeq (sFor 2 (iTpl (eVar 0)) (c_l_fraction_1 n))
    (sRet (eBin dEq (eSeq 0) (eSeq 1)))))
theorem bi_l_fraction (T : Txt K mg) : Binds K T.d_l_fraction ["found", "due"] [] := T.a_l_fraction.F.binds fun _ _ _ _ _ _ us hl => match us, hl with | [_, _], _ => rfl
theorem ok_l_fraction (T : Txt K mg) : FnOk P w K mg base CX0 1 T.f_l_fraction T.d_l_fraction ["found", "due"] (spD K T.CL T.CN 2 1 b_l_fraction) :=
  mk_ok T.a_l_fraction.F sc_l_fraction fun cdv A outer s H E hr n =>
    (dss_cons (ds_if (dt_w (dw_or (dt_not (dt_val (de_isi T.z_isinstance T.z_tuple (by decide +kernel) (de_seq 0)))) (dw_or1 (dt_cmp (op_neD (hu64 hr)) vok_ne (DEs.w (de_len T.z_len (de_seq 0))) (DEs.w de_int) (nomark _))))) (dss_one (ds_ret de_bl)) dss_nil)
    (dss_cons (ds_for 2 PassesOwn.never (di_tup (de_var 0)) (dss_one (ds_if (dt_w (dw_or (dt_val (de_isi T.z_isinstance T.z_bool (by decide +kernel) (de_seq 2))) (dw_or1 (dt_not (dt_val (de_isi T.z_isinstance T.z_int (by decide +kernel) (de_seq 2))))))) (dss_one (ds_ret de_bl)) dss_nil)) sc_l_fraction.nd)
    (dss_one (ds_ret (de_cmp (op_eqD (hu64 hr)) vok_eq (de_seq 0) (de_seq 1) (nomark _))))))
abbrev s_l_moment : Stmt := topS 13
abbrev N_l_moment : List Str := ["cell", "bottom", "k"]
theorem sc_l_moment : FnScope N_l_moment ["cell"] (defScope s_l_moment) := ⟨rfl, rfl, rfl, by decide +kernel, rfl, by decide +kernel, by decide +kernel⟩
def c_l_moment_1 (n : Nat) : SFn :=
    (sSet 1 (eBin dMul (eC (.int 2)) (eSeq 1)))
def b_l_moment (n : Nat) : SFn :=
    (sSeq (sSet 1 (eC (.int 1)))
    (sSeq (sFor 2 (iRg1 (eBin dMod (eSeq 0) (eC (.int 9)))) (c_l_moment_1 n))
    (sRet (eCall (b_l_low n) 0 (gS (eBin dMod (eBin dDiv (eSeq 0) (eC (.int 9))) (eBin dMul (eC (.int 6)) (eSeq 1))) (gS (eVar 1) gNil))))))
theorem bi_l_moment (T : Txt K mg) : Binds K T.d_l_moment ["cell"] [] := T.a_l_moment.F.binds fun _ _ _ _ _ _ us hl => match us, hl with | [_], _ => rfl
theorem ok_l_moment (T : Txt K mg) : FnOk P w K mg base CX0 2 T.f_l_moment T.d_l_moment ["cell"] (spD K T.CL T.CN 1 2 b_l_moment) :=
  mk_ok T.a_l_moment.F sc_l_moment fun cdv A outer s H E hr n =>
    (dss_cons (ds_set 1 de_int sc_l_moment.nd)
    (dss_cons (ds_for 2 PassesOwn.never (di_range1 T.z_range (de_mod (de_seq 0) (DEs.w de_int))) (dss_one (ds_set 1 (de_mul (DEs.w de_int) (de_seq 1)) sc_l_moment.nd)) sc_l_moment.nd)
    (dss_one (ds_ret (de_call n (ok_l_low T) (hr.mono (by decide)) T.a_l_low.g T.a_l_low.F.kp (bi_l_low T) pass0 (dg_s (de_mod (DEs.w (de_div (de_seq 0) (DEs.w de_int))) (DEs.w (de_mul (DEs.w de_int) (de_seq 1)))) (dg_s (de_var 1) dg_nil)))))))
abbrev s_law : Stmt := topS 14
abbrev N_law : List Str := ["script", "one", "other", "pair", "both", "found"]
theorem sc_law : FnScope N_law ["script"] (defScope s_law) := ⟨rfl, rfl, rfl, by decide +kernel, rfl, by decide +kernel, by decide +kernel⟩
def c_law_1 (n : Nat) : SFn :=
    (sSeq (sSet 4 (eCall (b_l_sum n) 0 (gS (eCall (b_l_sum n) 0 (gS (eBin dIx (eSeq 3) (eC (.int 0))) (gS (eBin dIx (eSeq 3) (eC (.int 1))) gNil))) (gS (eTup (evs [(eC (.int 1)), (eC (.int 1))])) gNil))))
    (sSeq (sIf (tNot2 (tOf (eCall (b_l_fraction n) 1 (gS (eCall (b_mean_and_half n) 1 (gS (eBin dIx (eSeq 3) (eC (.int 0))) (gS (eBin dIx (eSeq 3) (eC (.int 1))) gNil))) (gS (eCall (b_l_low n) 0 (gS (eBin dIx (eSeq 4) (eC (.int 0))) (gS (eBin dMul (eC (.int 2)) (eBin dIx (eSeq 4) (eC (.int 1)))) gNil))) gNil))))) (sRet (eC (.bool false))) sNil)
    (sSeq (sIf (tNot2 (tOf (eCall (b_l_fraction n) 1 (gS (eCall (b_hour_behind n) 0 (gS (eBin dIx (eSeq 3) (eC (.int 0))) gNil)) (gS (eCall (b_l_sum n) 0 (gS (eBin dIx (eSeq 3) (eC (.int 0))) (gS (eTup (evs [(eC (.int 1)), (eC (.int 1))])) gNil))) gNil))))) (sRet (eC (.bool false))) sNil)
    (sSeq (sSet 5 (eCall (b_earlier n) 0 (gS (eBin dIx (eSeq 3) (eC (.int 0))) (gS (eBin dIx (eSeq 3) (eC (.int 1))) gNil))))
    (sSeq (sIf (tOr2 (tNot2 (tOf (eUn (dIsi "bool") (eSeq 5)))) (tOf (eBin dNe (eSeq 5) (eCall (b_l_less n) 0 (gS (eBin dIx (eSeq 3) (eC (.int 0))) (gS (eBin dIx (eSeq 3) (eC (.int 1))) gNil)))))) (sRet (eC (.bool false))) sNil)
    (sIf (tNot2 (tOf (eCall (b_l_fraction n) 1 (gS (eCall (b_between n) 0 (gS (eBin dIx (eSeq 3) (eC (.int 0))) (gS (eBin dIx (eSeq 3) (eC (.int 1))) gNil))) (gS (eCall (b_l_gap n) 0 (gS (eBin dIx (eSeq 3) (eC (.int 0))) (gS (eBin dIx (eSeq 3) (eC (.int 1))) gNil))) gNil))))) (sRet (eC (.bool false))) sNil))))))
def b_law (n : Nat) : SFn :=
    (sSeq (sSet 1 (eCall (b_l_moment n) 2 (gS (eCall (b_l_cell_at n) 0 (gW (eSeq 0) (gS (eC (.int 0)) gNil))) gNil)))
    (sSeq (sSet 2 (eCall (b_l_moment n) 2 (gS (eCall (b_l_cell_at n) 0 (gW (eSeq 0) (gS (eC (.int 1)) gNil))) gNil)))
    (sSeq (sIf (tOf (eBin dEq (eBin dMod (eCall (b_l_cell_at n) 0 (gW (eSeq 0) (gS (eC (.int 2)) gNil))) (eC (.int 4))) (eC (.int 1)))) (sSet 1 (eCall (b_l_sum n) 0 (gS (eVar 1) (gS (eTup (evs [(eBin dMod (eBin dDiv (eCall (b_l_cell_at n) 0 (gW (eSeq 0) (gS (eC (.int 2)) gNil))) (eC (.int 4))) (eBin dPow (eC (.int 10)) (eC (.int 20)))), (eC (.int 1))])) gNil)))) sNil)
    (sSeq (sFor 3 (iLst (lstD (evs [(eTup (evs [(eVar 1), (eVar 2)])), (eTup (evs [(eVar 2), (eVar 1)])), (eTup (evs [(eVar 1), (eVar 1)]))]))) (c_law_1 n))
    (sRet (eC (.bool true)))))))
theorem bi_law (T : Txt K mg) : Binds K T.d_law ["script"] [] := T.a_law.F.binds fun _ _ _ _ _ _ us hl => match us, hl with | [_], _ => rfl
theorem ok_law (T : Txt K mg) : FnOk P w K mg base CX0 3 T.f_law T.d_law ["script"] (spD K T.CL T.CN 1 5 b_law) :=
  mk_ok T.a_law.F sc_law fun cdv A outer s H E hr n =>
    (dss_cons (ds_set 1 (de_call n (ok_l_moment T) (hr.mono (by decide)) T.a_l_moment.g T.a_l_moment.F.kp (bi_l_moment T) pass0 (dg_s (de_call n (ok_l_cell_at T) (hr.mono (by decide)) T.a_l_cell_at.g T.a_l_cell_at.F.kp (bi_l_cell_at T) pass0 (dg_w (de_seq 0) (dg_s de_int dg_nil))) dg_nil)) sc_law.nd)
    (dss_cons (ds_set 2 (de_call n (ok_l_moment T) (hr.mono (by decide)) T.a_l_moment.g T.a_l_moment.F.kp (bi_l_moment T) pass0 (dg_s (de_call n (ok_l_cell_at T) (hr.mono (by decide)) T.a_l_cell_at.g T.a_l_cell_at.F.kp (bi_l_cell_at T) pass0 (dg_w (de_seq 0) (dg_s de_int dg_nil))) dg_nil)) sc_law.nd)
    (dss_cons (ds_if (dt_cmp (op_eqD (hu64 hr)) vok_eq (DEs.w (de_mod (DEs.w (de_call n (ok_l_cell_at T) (hr.mono (by decide)) T.a_l_cell_at.g T.a_l_cell_at.F.kp (bi_l_cell_at T) pass0 (dg_w (de_seq 0) (dg_s de_int dg_nil)))) (DEs.w de_int))) (DEs.w de_int) (nomark _)) (dss_one (ds_set 1 (de_call n (ok_l_sum T) (hr.mono (by decide)) T.a_l_sum.g T.a_l_sum.F.kp (bi_l_sum T) pass0 (dg_s (de_var 1) (dg_s (de_tup (da_cons (de_mod (DEs.w (de_div (DEs.w (de_call n (ok_l_cell_at T) (hr.mono (by decide)) T.a_l_cell_at.g T.a_l_cell_at.F.kp (bi_l_cell_at T) pass0 (dg_w (de_seq 0) (dg_s de_int dg_nil)))) (DEs.w de_int))) (DEs.w (de_pow (DEs.w de_int) (DEs.w de_int)))) (da_cons de_int da_nil))) dg_nil))) sc_law.nd)) dss_nil)
    (dss_cons (ds_for 3 PassesOwn.never (di_list (DEo.s (de_lst (da_cons (de_tup (da_cons (de_var 1) (da_cons (de_var 2) da_nil))) (da_cons (de_tup (da_cons (de_var 2) (da_cons (de_var 1) da_nil))) (da_cons (de_tup (da_cons (de_var 1) (da_cons (de_var 1) da_nil))) da_nil)))))) (dss_cons (ds_set 4 (de_call n (ok_l_sum T) (hr.mono (by decide)) T.a_l_sum.g T.a_l_sum.F.kp (bi_l_sum T) pass0 (dg_s (de_call n (ok_l_sum T) (hr.mono (by decide)) T.a_l_sum.g T.a_l_sum.F.kp (bi_l_sum T) pass0 (dg_s (de_ix (de_seq 3) (DEs.w de_int)) (dg_s (de_ix (de_seq 3) (DEs.w de_int)) dg_nil))) (dg_s (de_tup (da_cons de_int (da_cons de_int da_nil))) dg_nil))) sc_law.nd)
    (dss_cons (ds_if (dt_not (dt_val (de_call n (ok_l_fraction T) (hr.mono (by decide)) T.a_l_fraction.g T.a_l_fraction.F.kp (bi_l_fraction T) pass0 (dg_s (de_call n (ok_mean_and_half T) (hr.mono (by decide)) T.a_mean_and_half.g T.a_mean_and_half.F.kp (bi_mean_and_half T) pass0 (dg_s (de_ix (de_seq 3) (DEs.w de_int)) (dg_s (de_ix (de_seq 3) (DEs.w de_int)) dg_nil))) (dg_s (de_call n (ok_l_low T) (hr.mono (by decide)) T.a_l_low.g T.a_l_low.F.kp (bi_l_low T) pass0 (dg_s (de_ix (de_seq 4) (DEs.w de_int)) (dg_s (de_mul (DEs.w de_int) (DEs.w (de_ix (de_seq 4) (DEs.w de_int)))) dg_nil))) dg_nil))))) (dss_one (ds_ret de_bl)) dss_nil)
    (dss_cons (ds_if (dt_not (dt_val (de_call n (ok_l_fraction T) (hr.mono (by decide)) T.a_l_fraction.g T.a_l_fraction.F.kp (bi_l_fraction T) pass0 (dg_s (de_call n (ok_hour_behind T) (hr.mono (by decide)) T.a_hour_behind.g T.a_hour_behind.F.kp (bi_hour_behind T) pass0 (dg_s (de_ix (de_seq 3) (DEs.w de_int)) dg_nil)) (dg_s (de_call n (ok_l_sum T) (hr.mono (by decide)) T.a_l_sum.g T.a_l_sum.F.kp (bi_l_sum T) pass0 (dg_s (de_ix (de_seq 3) (DEs.w de_int)) (dg_s (de_tup (da_cons de_int (da_cons de_int da_nil))) dg_nil))) dg_nil))))) (dss_one (ds_ret de_bl)) dss_nil)
    (dss_cons (ds_set 5 (de_call n (ok_earlier T) (hr.mono (by decide)) T.a_earlier.g T.a_earlier.F.kp (bi_earlier T) pass0 (dg_s (de_ix (de_seq 3) (DEs.w de_int)) (dg_s (de_ix (de_seq 3) (DEs.w de_int)) dg_nil))) sc_law.nd)
    (dss_cons (ds_if (dt_w (dw_or (dt_not (dt_val (de_isi T.z_isinstance T.z_bool (by decide +kernel) (de_seq 5)))) (dw_or1 (dt_cmp (op_neD (hu64 hr)) vok_ne (de_seq 5) (DEs.w (de_call n (ok_l_less T) (hr.mono (by decide)) T.a_l_less.g T.a_l_less.F.kp (bi_l_less T) pass0 (dg_s (de_ix (de_seq 3) (DEs.w de_int)) (dg_s (de_ix (de_seq 3) (DEs.w de_int)) dg_nil)))) (nomark _))))) (dss_one (ds_ret de_bl)) dss_nil)
    (dss_one (ds_if (dt_not (dt_val (de_call n (ok_l_fraction T) (hr.mono (by decide)) T.a_l_fraction.g T.a_l_fraction.F.kp (bi_l_fraction T) pass0 (dg_s (de_call n (ok_between T) (hr.mono (by decide)) T.a_between.g T.a_between.F.kp (bi_between T) pass0 (dg_s (de_ix (de_seq 3) (DEs.w de_int)) (dg_s (de_ix (de_seq 3) (DEs.w de_int)) dg_nil))) (dg_s (de_call n (ok_l_gap T) (hr.mono (by decide)) T.a_l_gap.g T.a_l_gap.F.kp (bi_l_gap T) pass0 (dg_s (de_ix (de_seq 3) (DEs.w de_int)) (dg_s (de_ix (de_seq 3) (DEs.w de_int)) dg_nil))) dg_nil))))) (dss_one (ds_ret de_bl)) dss_nil))))))) sc_law.nd)
    (dss_one (ds_ret de_bl))))))
end
end L2.RC

namespace L2.RC
open PySem PySem.Spec PyProof.Rows
def mo (m : Mo) : PyData := .tuple [.int m.1, .int (2 ^ m.2)]
theorem mo_0 (m : Mo) : dIx (mo m) (.int 0) = some (.int m.1) := rfl
theorem mo_1 (m : Mo) : dIx (mo m) (.int 1) = some (.int (2 ^ m.2)) := rfl
theorem while_low : ∀ (k n m : Nat) (t : Int), k < n → sWhile (tAnd2 (tOf (eBin dGt (eSeq 1) (eC (.int 1)))) (tOf (eBin dEq (eBin dMod (eSeq 0) (eC (.int 2))) (eC (.int 0)))))
    (c_plain_1 m) n [.fz (.int t), .fz (.int (2 ^ k))] = .nx [.fz (.int (lowN k t).1), .fz (.int (2 ^ (lowN k t).2))] := by
  intro k
  induction k with
  | zero =>
    intro n m t h
    obtain ⟨n, rfl⟩ : ∃ m, n = m + 1 := ⟨n - 1, by omega⟩
    rfl
  | succ k ih =>
    intro n m t h
    obtain ⟨n, rfl⟩ : ∃ m, n = m + 1 := ⟨n - 1, by omega⟩
    have hp := p2_pos k
    have e1 : (2 : Int) ^ (k + 1) = 2 * 2 ^ k := p2_succ k
    have g1 : decide ((1 : Int) < 2 ^ (k + 1)) = true := decide_eq_true (by omega)
    have e2 : (2 : Int) ^ (k + 1) / 2 = 2 ^ k := by omega
    unfold sWhile lowN c_plain_1
    by_cases c : t % 2 = 0
    · have c' : (t % 2 == 0) = true := beq_iff_eq.mpr c
      simp only [a_nil, a_seq, a_if, a_ret, a_set, a_setO, a_sfrz, a_frz, a_mut, a_for, a_bin, a_seqv, a_var, a_c, a_un, a_tup, a_evs0, a_evs1, a_call, a_gs, a_gw, a_gnil, a_tof, a_tand, a_tor, a_tnot, a_and, a_or, a_not, a_eif, a_neg, a_lstD, a_rg1, a_rg2, a_ilst, a_itpl, a_olst, a_cat, a_ttrue, dAdd_int, dSub_int, dLt_int, dLe_int, dGt_int, dGe_int, dEq_int, dNe_int, dEq_bool, dNe_bool, dIs_non, dIsNot_non, isN_none, isN_int, isN_tup, isN_lst, dLen_list, dLen_t2, mo_0, mo_1, beq_self_eq_true, dAbs_int, ix_t0, ix_t1, isi_tt, isi_ib, isi_ii, isi_bb, isi_ll, isi_ss, mod_2, div_2, mul_two, Option.bind_some, Option.map_some, Option.some.injEq, List.getElem?_cons_zero, List.getElem?_cons_succ, List.set_cons_zero, List.set_cons_succ, List.cons_append, List.nil_append, List.replicate_zero, List.replicate_succ, List.append_nil, Bool.not_true, Bool.not_false, decide_true, decide_false, if_true, if_false, g1, c', e2]
      rw [if_pos c]
      exact ih n m _ (by omega)
    · have c' : (t % 2 == 0) = false := beq_eq_false_iff_ne.mpr c
      simp only [a_nil, a_seq, a_if, a_ret, a_set, a_setO, a_sfrz, a_frz, a_mut, a_for, a_bin, a_seqv, a_var, a_c, a_un, a_tup, a_evs0, a_evs1, a_call, a_gs, a_gw, a_gnil, a_tof, a_tand, a_tor, a_tnot, a_and, a_or, a_not, a_eif, a_neg, a_lstD, a_rg1, a_rg2, a_ilst, a_itpl, a_olst, a_cat, a_ttrue, dAdd_int, dSub_int, dLt_int, dLe_int, dGt_int, dGe_int, dEq_int, dNe_int, dEq_bool, dNe_bool, dIs_non, dIsNot_non, isN_none, isN_int, isN_tup, isN_lst, dLen_list, dLen_t2, mo_0, mo_1, beq_self_eq_true, dAbs_int, ix_t0, ix_t1, isi_tt, isi_ib, isi_ii, isi_bb, isi_ll, isi_ss, mod_2, div_2, mul_two, Option.bind_some, Option.map_some, Option.some.injEq, List.getElem?_cons_zero, List.getElem?_cons_succ, List.set_cons_zero, List.set_cons_succ, List.cons_append, List.nil_append, List.replicate_zero, List.replicate_succ, List.append_nil, Bool.not_true, Bool.not_false, decide_true, decide_false, if_true, if_false, g1, c', e2]
      rw [if_neg c]
theorem run_plain {k n : Nat} (t : Int) (h : k < n) : b_plain n [.fz (.int t), .fz (.int (2 ^ k))] = .rt (mo (lowN k t)) := by
  unfold b_plain
  simp only [sSeq, while_low k n n t h]
  rfl

theorem pb {k : Nat} (h : k ≤ 63) : ((2 : Int) ^ k).natAbs < 2 ^ 64 := by
  rw [Int.natAbs_pow]
  exact Nat.pow_lt_pow_right (by decide) (by omega)
theorem p2_m2 (k j : Nat) : (2 : Int) * 2 ^ k * 2 ^ j = 2 ^ (k + j + 1) := by rw [p2_succ, p2_add, Int.mul_assoc]
theorem p2_m (k j : Nat) : (2 : Int) ^ k * 2 ^ j = 2 ^ (k + j) := (p2_add k j).symm
theorem run_l_low {k n : Nat} (t : Int) (h : k < n) : b_l_low n [.fz (.int t), .fz (.int (2 ^ k))] = .rt (mo (lowN k t)) := run_plain t h
theorem mo_eq (m : Mo) : mo m = .tuple [.int m.1, .int (2 ^ m.2)] := rfl
theorem run_mean_and_half {n K : Nat} (v u : Int) (hK : K ≤ 60) (hn : 200 ≤ n) : b_mean_and_half n [.fz (mo (lowN K v)), .fz (mo (lowN K u)), .un] = .rt (mo (lowN (K + 1) (v + u + 2 ^ K))) := by
  have h1 := lowN_le K v
  have h2 := lowN_le K u
  have b1 : ∀ i : Int, dMul (.int i) (.int (2 ^ (lowN K v).2)) = some (.int (i * 2 ^ (lowN K v).2)) := fun i => mul_r (pb (by omega))
  have b2 : ∀ i : Int, dMul (.int i) (.int (2 ^ (lowN K u).2)) = some (.int (i * 2 ^ (lowN K u).2)) := fun i => mul_r (pb (by omega))
  unfold b_mean_and_half
  simp only [a_nil, a_seq, a_if, a_ret, a_set, a_setO, a_sfrz, a_frz, a_mut, a_for, a_bin, a_seqv, a_var, a_c, a_un, a_tup, a_evs0, a_evs1, a_call, a_gs, a_gw, a_gnil, a_tof, a_tand, a_tor, a_tnot, a_and, a_or, a_not, a_eif, a_neg, a_lstD, a_rg1, a_rg2, a_ilst, a_itpl, a_olst, a_cat, a_ttrue, dAdd_int, dSub_int, dLt_int, dLe_int, dGt_int, dGe_int, dEq_int, dNe_int, dEq_bool, dNe_bool, dIs_non, dIsNot_non, isN_none, isN_int, isN_tup, isN_lst, dLen_list, dLen_t2, mo_0, mo_1, beq_self_eq_true, dAbs_int, ix_t0, ix_t1, isi_tt, isi_ib, isi_ii, isi_bb, isi_ll, isi_ss, mod_2, div_2, mul_two, Option.bind_some, Option.map_some, Option.some.injEq, List.getElem?_cons_zero, List.getElem?_cons_succ, List.set_cons_zero, List.set_cons_succ, List.cons_append, List.nil_append, List.replicate_zero, List.replicate_succ, List.append_nil, Bool.not_true, Bool.not_false, decide_true, decide_false, if_true, if_false, mo_eq, b1, b2, p2_m2]
  rw [run_plain _ (by omega), mean_eq]
  rfl
theorem run_hour_behind {n K : Nat} (v : Int) : b_hour_behind n [.fz (mo (lowN K v))] = .rt (mo (lowN K (v + 2 ^ K))) := by
  unfold b_hour_behind
  simp only [a_nil, a_seq, a_if, a_ret, a_set, a_setO, a_sfrz, a_frz, a_mut, a_for, a_bin, a_seqv, a_var, a_c, a_un, a_tup, a_evs0, a_evs1, a_call, a_gs, a_gw, a_gnil, a_tof, a_tand, a_tor, a_tnot, a_and, a_or, a_not, a_eif, a_neg, a_lstD, a_rg1, a_rg2, a_ilst, a_itpl, a_olst, a_cat, a_ttrue, dAdd_int, dSub_int, dLt_int, dLe_int, dGt_int, dGe_int, dEq_int, dNe_int, dEq_bool, dNe_bool, dIs_non, dIsNot_non, isN_none, isN_int, isN_tup, isN_lst, dLen_list, dLen_t2, mo_0, mo_1, beq_self_eq_true, dAbs_int, ix_t0, ix_t1, isi_tt, isi_ib, isi_ii, isi_bb, isi_ll, isi_ss, mod_2, div_2, mul_two, Option.bind_some, Option.map_some, Option.some.injEq, List.getElem?_cons_zero, List.getElem?_cons_succ, List.set_cons_zero, List.set_cons_succ, List.cons_append, List.nil_append, List.replicate_zero, List.replicate_succ, List.append_nil, Bool.not_true, Bool.not_false, decide_true, decide_false, if_true, if_false, mo_eq]
  rw [← hour_eq]
theorem run_earlier {n K : Nat} (v u : Int) (hK : K ≤ 60) : b_earlier n [.fz (mo (lowN K v)), .fz (mo (lowN K u))] = .rt (.bool (decide (v < u))) := by
  have h1 := lowN_le K v
  have h2 := lowN_le K u
  have b1 : ∀ i : Int, dMul (.int i) (.int (2 ^ (lowN K v).2)) = some (.int (i * 2 ^ (lowN K v).2)) := fun i => mul_r (pb (by omega))
  have b2 : ∀ i : Int, dMul (.int i) (.int (2 ^ (lowN K u).2)) = some (.int (i * 2 ^ (lowN K u).2)) := fun i => mul_r (pb (by omega))
  unfold b_earlier
  simp only [a_nil, a_seq, a_if, a_ret, a_set, a_setO, a_sfrz, a_frz, a_mut, a_for, a_bin, a_seqv, a_var, a_c, a_un, a_tup, a_evs0, a_evs1, a_call, a_gs, a_gw, a_gnil, a_tof, a_tand, a_tor, a_tnot, a_and, a_or, a_not, a_eif, a_neg, a_lstD, a_rg1, a_rg2, a_ilst, a_itpl, a_olst, a_cat, a_ttrue, dAdd_int, dSub_int, dLt_int, dLe_int, dGt_int, dGe_int, dEq_int, dNe_int, dEq_bool, dNe_bool, dIs_non, dIsNot_non, isN_none, isN_int, isN_tup, isN_lst, dLen_list, dLen_t2, mo_0, mo_1, beq_self_eq_true, dAbs_int, ix_t0, ix_t1, isi_tt, isi_ib, isi_ii, isi_bb, isi_ll, isi_ss, mod_2, div_2, mul_two, Option.bind_some, Option.map_some, Option.some.injEq, List.getElem?_cons_zero, List.getElem?_cons_succ, List.set_cons_zero, List.set_cons_succ, List.cons_append, List.nil_append, List.replicate_zero, List.replicate_succ, List.append_nil, Bool.not_true, Bool.not_false, decide_true, decide_false, if_true, if_false, mo_eq, b1, b2, less_iff]
theorem run_l_less {n K : Nat} (v u : Int) (hK : K ≤ 60) : b_l_less n [.fz (mo (lowN K v)), .fz (mo (lowN K u))] = .rt (.bool (decide (v < u))) := run_earlier (n := n) v u hK
theorem iabs (x : Int) : (if x < 0 then -x else x) = (x.natAbs : Int) := by split <;> omega
theorem abs_eq (v u : Int) (K : Nat) : (((lowN K v).1 * 2 ^ (lowN K u).2 - (lowN K u).1 * 2 ^ (lowN K v).2).natAbs : Int) = if v < u then (lowN K u).1 * 2 ^ (lowN K v).2 - (lowN K v).1 * 2 ^ (lowN K u).2 else (lowN K v).1 * 2 ^ (lowN K u).2 - (lowN K u).1 * 2 ^ (lowN K v).2 := by
  have h := less_iff v u K
  generalize (lowN K v).1 * 2 ^ (lowN K u).2 = a at *
  generalize (lowN K u).1 * 2 ^ (lowN K v).2 = b at *
  split <;> omega
theorem run_between {n K : Nat} (v u : Int) (hK : K ≤ 60) (hn : 200 ≤ n) : b_between n [.fz (mo (lowN K v)), .fz (mo (lowN K u))] = .rt (mo (lowN K ((v - u).natAbs))) := by
  have h1 := lowN_le K v
  have h2 := lowN_le K u
  have b1 : ∀ i : Int, dMul (.int i) (.int (2 ^ (lowN K v).2)) = some (.int (i * 2 ^ (lowN K v).2)) := fun i => mul_r (pb (by omega))
  have b2 : ∀ i : Int, dMul (.int i) (.int (2 ^ (lowN K u).2)) = some (.int (i * 2 ^ (lowN K u).2)) := fun i => mul_r (pb (by omega))
  unfold b_between
  simp only [a_nil, a_seq, a_if, a_ret, a_set, a_setO, a_sfrz, a_frz, a_mut, a_for, a_bin, a_seqv, a_var, a_c, a_un, a_tup, a_evs0, a_evs1, a_call, a_gs, a_gw, a_gnil, a_tof, a_tand, a_tor, a_tnot, a_and, a_or, a_not, a_eif, a_neg, a_lstD, a_rg1, a_rg2, a_ilst, a_itpl, a_olst, a_cat, a_ttrue, dAdd_int, dSub_int, dLt_int, dLe_int, dGt_int, dGe_int, dEq_int, dNe_int, dEq_bool, dNe_bool, dIs_non, dIsNot_non, isN_none, isN_int, isN_tup, isN_lst, dLen_list, dLen_t2, mo_0, mo_1, beq_self_eq_true, dAbs_int, ix_t0, ix_t1, isi_tt, isi_ib, isi_ii, isi_bb, isi_ll, isi_ss, mod_2, div_2, mul_two, Option.bind_some, Option.map_some, Option.some.injEq, List.getElem?_cons_zero, List.getElem?_cons_succ, List.set_cons_zero, List.set_cons_succ, List.cons_append, List.nil_append, List.replicate_zero, List.replicate_succ, List.append_nil, Bool.not_true, Bool.not_false, decide_true, decide_false, if_true, if_false, mo_eq, b1, b2, p2_m, iabs]
  rw [run_plain _ (by omega), abs_eq]
  simp only
  by_cases c : v < u
  · rw [if_pos c, Nat.add_comm, diff_eq, show u - v = ((v - u).natAbs : Int) by omega]
    rfl
  · rw [if_neg c, diff_eq, show v - u = ((v - u).natAbs : Int) by omega]
    rfl
theorem run_l_sum {n K : Nat} (v u : Int) (hK : K ≤ 60) (hn : 200 ≤ n) : b_l_sum n [.fz (mo (lowN K v)), .fz (mo (lowN K u))] = .rt (mo (lowN K (v + u))) := by
  have h1 := lowN_le K v
  have h2 := lowN_le K u
  have b1 : ∀ i : Int, dMul (.int i) (.int (2 ^ (lowN K v).2)) = some (.int (i * 2 ^ (lowN K v).2)) := fun i => mul_r (pb (by omega))
  have b2 : ∀ i : Int, dMul (.int i) (.int (2 ^ (lowN K u).2)) = some (.int (i * 2 ^ (lowN K u).2)) := fun i => mul_r (pb (by omega))
  unfold b_l_sum
  simp only [a_nil, a_seq, a_if, a_ret, a_set, a_setO, a_sfrz, a_frz, a_mut, a_for, a_bin, a_seqv, a_var, a_c, a_un, a_tup, a_evs0, a_evs1, a_call, a_gs, a_gw, a_gnil, a_tof, a_tand, a_tor, a_tnot, a_and, a_or, a_not, a_eif, a_neg, a_lstD, a_rg1, a_rg2, a_ilst, a_itpl, a_olst, a_cat, a_ttrue, dAdd_int, dSub_int, dLt_int, dLe_int, dGt_int, dGe_int, dEq_int, dNe_int, dEq_bool, dNe_bool, dIs_non, dIsNot_non, isN_none, isN_int, isN_tup, isN_lst, dLen_list, dLen_t2, mo_0, mo_1, beq_self_eq_true, dAbs_int, ix_t0, ix_t1, isi_tt, isi_ib, isi_ii, isi_bb, isi_ll, isi_ss, mod_2, div_2, mul_two, Option.bind_some, Option.map_some, Option.some.injEq, List.getElem?_cons_zero, List.getElem?_cons_succ, List.set_cons_zero, List.set_cons_succ, List.cons_append, List.nil_append, List.replicate_zero, List.replicate_succ, List.append_nil, Bool.not_true, Bool.not_false, decide_true, decide_false, if_true, if_false, mo_eq, b1, b2, p2_m]
  rw [run_l_low _ (by omega), sum_eq]
  rfl
theorem run_l_gap {n K : Nat} (v u : Int) (hK : K ≤ 60) (hn : 200 ≤ n) : b_l_gap n [.fz (mo (lowN K v)), .fz (mo (lowN K u))] = .rt (mo (lowN K ((v - u).natAbs))) := by
  have h1 := lowN_le K v
  have h2 := lowN_le K u
  have b1 : ∀ i : Int, dMul (.int i) (.int (2 ^ (lowN K v).2)) = some (.int (i * 2 ^ (lowN K v).2)) := fun i => mul_r (pb (by omega))
  have b2 : ∀ i : Int, dMul (.int i) (.int (2 ^ (lowN K u).2)) = some (.int (i * 2 ^ (lowN K u).2)) := fun i => mul_r (pb (by omega))
  have l1 := run_l_less (n := n) v u hK
  unfold b_l_gap
  simp only [mo_eq] at l1
  by_cases c : v < u
  · simp only [a_nil, a_seq, a_if, a_ret, a_set, a_setO, a_sfrz, a_frz, a_mut, a_for, a_bin, a_seqv, a_var, a_c, a_un, a_tup, a_evs0, a_evs1, a_call, a_gs, a_gw, a_gnil, a_tof, a_tand, a_tor, a_tnot, a_and, a_or, a_not, a_eif, a_neg, a_lstD, a_rg1, a_rg2, a_ilst, a_itpl, a_olst, a_cat, a_ttrue, dAdd_int, dSub_int, dLt_int, dLe_int, dGt_int, dGe_int, dEq_int, dNe_int, dEq_bool, dNe_bool, dIs_non, dIsNot_non, isN_none, isN_int, isN_tup, isN_lst, dLen_list, dLen_t2, mo_0, mo_1, beq_self_eq_true, dAbs_int, ix_t0, ix_t1, isi_tt, isi_ib, isi_ii, isi_bb, isi_ll, isi_ss, mod_2, div_2, mul_two, Option.bind_some, Option.map_some, Option.some.injEq, List.getElem?_cons_zero, List.getElem?_cons_succ, List.set_cons_zero, List.set_cons_succ, List.cons_append, List.nil_append, List.replicate_zero, List.replicate_succ, List.append_nil, Bool.not_true, Bool.not_false, decide_true, decide_false, if_true, if_false, mo_eq, b1, b2, p2_m, l1, c]
    rw [run_l_low _ (by omega), Nat.add_comm, diff_eq, show u - v = ((v - u).natAbs : Int) by omega]
    rfl
  · simp only [a_nil, a_seq, a_if, a_ret, a_set, a_setO, a_sfrz, a_frz, a_mut, a_for, a_bin, a_seqv, a_var, a_c, a_un, a_tup, a_evs0, a_evs1, a_call, a_gs, a_gw, a_gnil, a_tof, a_tand, a_tor, a_tnot, a_and, a_or, a_not, a_eif, a_neg, a_lstD, a_rg1, a_rg2, a_ilst, a_itpl, a_olst, a_cat, a_ttrue, dAdd_int, dSub_int, dLt_int, dLe_int, dGt_int, dGe_int, dEq_int, dNe_int, dEq_bool, dNe_bool, dIs_non, dIsNot_non, isN_none, isN_int, isN_tup, isN_lst, dLen_list, dLen_t2, mo_0, mo_1, beq_self_eq_true, dAbs_int, ix_t0, ix_t1, isi_tt, isi_ib, isi_ii, isi_bb, isi_ll, isi_ss, mod_2, div_2, mul_two, Option.bind_some, Option.map_some, Option.some.injEq, List.getElem?_cons_zero, List.getElem?_cons_succ, List.set_cons_zero, List.set_cons_succ, List.cons_append, List.nil_append, List.replicate_zero, List.replicate_succ, List.append_nil, Bool.not_true, Bool.not_false, decide_true, decide_false, if_true, if_false, mo_eq, b1, b2, p2_m, l1, c]
    rw [run_l_low _ (by omega), diff_eq, show v - u = ((v - u).natAbs : Int) by omega]
    rfl

theorem run_low_half {n K : Nat} (v : Int) (hK : K ≤ 60) (hn : 200 ≤ n) : b_l_low n [.fz (.int (lowN K v).1), .fz (.int (2 * 2 ^ (lowN K v).2))] = .rt (mo (lowN (K + 1) v)) := by
  have h1 := lowN_le K v
  have e := run_l_low (k := (lowN K v).2 + 1) (n := n) (lowN K v).1 (by omega)
  rw [p2_succ] at e
  rw [e]
  refine congrArg (fun m => Out.rt (mo m)) (lowN_eq ?_)
  have h2 := lowN_val K v
  rw [p2_succ, p2_succ]
  grind
theorem mo_one (K : Nat) : PyData.tuple [.int 1, .int 1] = mo (lowN K (2 ^ K)) := by rw [one_eq]; rfl
theorem mo_zero (K : Nat) : PyData.tuple [.int 0, .int 1] = mo (lowN K 0) := by rw [zero_eq]; rfl
theorem run_l_sum_one {n K : Nat} (v : Int) (hK : K ≤ 60) (hn : 200 ≤ n) : b_l_sum n [.fz (mo (lowN K v)), .fz (.tuple [.int 1, .int 1])] = .rt (mo (lowN K (v + 2 ^ K))) := by
  rw [mo_one K]
  exact run_l_sum v _ hK hn
theorem eqv_mo (a b : Mo) : PyData.eqv (mo a) (mo b) = (decide (a = b)) := by
  show (a.1 == b.1 && ((2 : Int) ^ a.2 == 2 ^ b.2 && true)) = _
  have inj : ∀ i j : Nat, (2 : Int) ^ i = 2 ^ j → i = j := fun i j h => by
    rcases Nat.lt_trichotomy i j with c | c | c
    · have := Int.pow_lt_pow_of_lt (a := 2) (by decide) c
      omega
    · exact c
    · have := Int.pow_lt_pow_of_lt (a := 2) (by decide) c
      omega
  by_cases h : a = b
  · subst h; simp
  · rw [decide_eq_false h]
    by_cases h1 : a.1 = b.1
    · have h2 : ¬ (2 : Int) ^ a.2 = 2 ^ b.2 := fun z => h (Prod.ext h1 (inj _ _ z))
      rw [beq_eq_false_iff_ne.mpr h2]
      simp
    · rw [beq_eq_false_iff_ne.mpr h1]; rfl
theorem dEq_mo (a b : Mo) : dEq (mo a) (mo b) = some (.bool (decide (a = b))) := by
  rw [← eqv_mo]
  rfl
theorem run_l_fraction {n : Nat} (a b : Mo) : b_l_fraction n [.fz (mo a), .fz (mo b), .un] = .rt (.bool (decide (a = b))) := by
  have h := dEq_mo a b
  unfold b_l_fraction c_l_fraction_1
  simp only [mo_eq] at h ⊢
  simp only [a_nil, a_seq, a_if, a_ret, a_set, a_setO, a_sfrz, a_frz, a_mut, a_for, a_bin, a_seqv, a_var, a_c, a_un, a_tup, a_evs0, a_evs1, a_call, a_gs, a_gw, a_gnil, a_tof, a_tand, a_tor, a_tnot, a_and, a_or, a_not, a_eif, a_neg, a_lstD, a_rg1, a_rg2, a_ilst, a_itpl, a_olst, a_cat, a_ttrue, dAdd_int, dSub_int, dLt_int, dLe_int, dGt_int, dGe_int, dEq_int, dNe_int, dEq_bool, dNe_bool, dIs_non, dIsNot_non, isN_none, isN_int, isN_tup, isN_lst, dLen_list, dLen_t2, mo_0, mo_1, beq_self_eq_true, dAbs_int, ix_t0, ix_t1, isi_tt, isi_ib, isi_ii, isi_bb, isi_ll, isi_ss, mod_2, div_2, mul_two, Option.bind_some, Option.map_some, Option.some.injEq, List.getElem?_cons_zero, List.getElem?_cons_succ, List.set_cons_zero, List.set_cons_succ, List.cons_append, List.nil_append, List.replicate_zero, List.replicate_succ, List.append_nil, Bool.not_true, Bool.not_false, decide_true, decide_false, if_true, if_false, a_for0, a_for1, h]
def cell (ns : List Int) (k : Nat) : Int := (ns[k]?).getD 0
theorem dIx_ints {ns : List Int} {k : Nat} (h : k < ns.length) : dIx (.list (ns.map .int)) (.int (k : Int)) = some (.int (cell ns k)) := by
  show atI (ns.map PyData.int) (k : Int) = _
  refine atI_nat ?_
  rw [List.getElem?_map]
  unfold cell
  rw [List.getElem?_eq_getElem h]
  rfl
theorem run_l_cell_at {n : Nat} (ns : List Int) (k : Nat) : b_l_cell_at n [.br (ns.map .int), .fz (.int (k : Int))] = .rt (.int (cell ns k)) := by
  unfold b_l_cell_at
  by_cases h : k < ns.length
  · have h' : (k : Int) < ((ns.map PyData.int).length : Int) := by rw [List.length_map]; omega
    simp only [a_nil, a_seq, a_if, a_ret, a_set, a_setO, a_sfrz, a_frz, a_mut, a_for, a_bin, a_seqv, a_var, a_c, a_un, a_tup, a_evs0, a_evs1, a_call, a_gs, a_gw, a_gnil, a_tof, a_tand, a_tor, a_tnot, a_and, a_or, a_not, a_eif, a_neg, a_lstD, a_rg1, a_rg2, a_ilst, a_itpl, a_olst, a_cat, a_ttrue, dAdd_int, dSub_int, dLt_int, dLe_int, dGt_int, dGe_int, dEq_int, dNe_int, dEq_bool, dNe_bool, dIs_non, dIsNot_non, isN_none, isN_int, isN_tup, isN_lst, dLen_list, dLen_t2, mo_0, mo_1, beq_self_eq_true, dAbs_int, ix_t0, ix_t1, isi_tt, isi_ib, isi_ii, isi_bb, isi_ll, isi_ss, mod_2, div_2, mul_two, Option.bind_some, Option.map_some, Option.some.injEq, List.getElem?_cons_zero, List.getElem?_cons_succ, List.set_cons_zero, List.set_cons_succ, List.cons_append, List.nil_append, List.replicate_zero, List.replicate_succ, List.append_nil, Bool.not_true, Bool.not_false, decide_true, decide_false, if_true, if_false, h', dIx_ints h]
  · have h' : ¬ (k : Int) < ((ns.map PyData.int).length : Int) := by rw [List.length_map]; omega
    have e : cell ns k = 0 := by unfold cell; rw [List.getElem?_eq_none (by omega)]; rfl
    simp only [a_nil, a_seq, a_if, a_ret, a_set, a_setO, a_sfrz, a_frz, a_mut, a_for, a_bin, a_seqv, a_var, a_c, a_un, a_tup, a_evs0, a_evs1, a_call, a_gs, a_gw, a_gnil, a_tof, a_tand, a_tor, a_tnot, a_and, a_or, a_not, a_eif, a_neg, a_lstD, a_rg1, a_rg2, a_ilst, a_itpl, a_olst, a_cat, a_ttrue, dAdd_int, dSub_int, dLt_int, dLe_int, dGt_int, dGe_int, dEq_int, dNe_int, dEq_bool, dNe_bool, dIs_non, dIsNot_non, isN_none, isN_int, isN_tup, isN_lst, dLen_list, dLen_t2, mo_0, mo_1, beq_self_eq_true, dAbs_int, ix_t0, ix_t1, isi_tt, isi_ib, isi_ii, isi_bb, isi_ll, isi_ss, mod_2, div_2, mul_two, Option.bind_some, Option.map_some, Option.some.injEq, List.getElem?_cons_zero, List.getElem?_cons_succ, List.set_cons_zero, List.set_cons_succ, List.cons_append, List.nil_append, List.replicate_zero, List.replicate_succ, List.append_nil, Bool.not_true, Bool.not_false, decide_true, decide_false, if_true, if_false, h', e]
theorem loop_two (c : Sl) (n : Nat) : ∀ (ds : List PyData) (b : Int) (x : Sl), ∃ y, forL 2 (c_l_moment_1 n) ds [c, .fz (.int b), x] = .nx [c, .fz (.int (2 ^ ds.length * b)), y]
  | [], b, x => ⟨x, by rw [a_for0, List.length_nil, p2_one, Int.one_mul]⟩
  | d :: ds, b, x => by
    obtain ⟨y, h⟩ := loop_two c n ds (2 * b) (.fz d)
    refine ⟨y, ?_⟩
    rw [a_for1]
    unfold c_l_moment_1 at h ⊢
    simp only [a_nil, a_seq, a_if, a_ret, a_set, a_setO, a_sfrz, a_frz, a_mut, a_for, a_bin, a_seqv, a_var, a_c, a_un, a_tup, a_evs0, a_evs1, a_call, a_gs, a_gw, a_gnil, a_tof, a_tand, a_tor, a_tnot, a_and, a_or, a_not, a_eif, a_neg, a_lstD, a_rg1, a_rg2, a_ilst, a_itpl, a_olst, a_cat, a_ttrue, dAdd_int, dSub_int, dLt_int, dLe_int, dGt_int, dGe_int, dEq_int, dNe_int, dEq_bool, dNe_bool, dIs_non, dIsNot_non, isN_none, isN_int, isN_tup, isN_lst, dLen_list, dLen_t2, mo_0, mo_1, beq_self_eq_true, dAbs_int, ix_t0, ix_t1, isi_tt, isi_ib, isi_ii, isi_bb, isi_ll, isi_ss, mod_2, div_2, mul_two, Option.bind_some, Option.map_some, Option.some.injEq, List.getElem?_cons_zero, List.getElem?_cons_succ, List.set_cons_zero, List.set_cons_succ, List.cons_append, List.nil_append, List.replicate_zero, List.replicate_succ, List.append_nil, Bool.not_true, Bool.not_false, decide_true, decide_false, if_true, if_false, h, List.length_cons, p2_succ]
    rw [Int.mul_comm 2 (2 ^ ds.length), Int.mul_assoc]
theorem rngD_len (lo : Int) (m : Nat) : (rngD lo m).length = m := by unfold rngD; rw [List.length_map, List.length_range]
def momV (c : Int) : Int := 2 ^ (8 - (c % 9).toNat) * (c / 9 % (6 * 2 ^ (c % 9).toNat))
theorem run_l_moment {n : Nat} (c : Int) (hn : 200 ≤ n) : b_l_moment n [.fz (.int c), .un, .un] = .rt (mo (lowN 8 (momV c))) := by
  have h0 : 0 ≤ c % 9 := Int.emod_nonneg _ (by decide)
  have h9 : c % 9 < 9 := Int.emod_lt_of_pos _ (by decide)
  have hr : rngOk (c % 9) = true := rngOk_iff.mpr ⟨by omega, by omega⟩
  obtain ⟨y, hy⟩ := loop_two (.fz (.int c)) n (rngD 0 (c % 9).toNat) 1 .un
  rw [rngD_len, Int.mul_one] at hy
  have hp := p2_pos (c % 9).toNat
  have m9 : dMod (.int c) (.int 9) = some (.int (c % 9)) := mod_p (by decide)
  have d9 : dDiv (.int c) (.int 9) = some (.int (c / 9)) := div_p (by decide) (by decide)
  have m6 : ∀ j, dMul (.int 6) (.int j) = some (.int (6 * j)) := fun j => mul_l (by decide)
  have mm : ∀ i, dMod (.int i) (.int (6 * 2 ^ (c % 9).toNat)) = some (.int (i % (6 * 2 ^ (c % 9).toNat))) := fun i => mod_p (by omega)
  unfold b_l_moment
  simp only [a_nil, a_seq, a_if, a_ret, a_set, a_setO, a_sfrz, a_frz, a_mut, a_for, a_bin, a_seqv, a_var, a_c, a_un, a_tup, a_evs0, a_evs1, a_call, a_gs, a_gw, a_gnil, a_tof, a_tand, a_tor, a_tnot, a_and, a_or, a_not, a_eif, a_neg, a_lstD, a_rg1, a_rg2, a_ilst, a_itpl, a_olst, a_cat, a_ttrue, dAdd_int, dSub_int, dLt_int, dLe_int, dGt_int, dGe_int, dEq_int, dNe_int, dEq_bool, dNe_bool, dIs_non, dIsNot_non, isN_none, isN_int, isN_tup, isN_lst, dLen_list, dLen_t2, mo_0, mo_1, beq_self_eq_true, dAbs_int, ix_t0, ix_t1, isi_tt, isi_ib, isi_ii, isi_bb, isi_ll, isi_ss, mod_2, div_2, mul_two, Option.bind_some, Option.map_some, Option.some.injEq, List.getElem?_cons_zero, List.getElem?_cons_succ, List.set_cons_zero, List.set_cons_succ, List.cons_append, List.nil_append, List.replicate_zero, List.replicate_succ, List.append_nil, Bool.not_true, Bool.not_false, decide_true, decide_false, if_true, if_false, m9, hr, hy, d9, m6, mm]
  rw [run_l_low _ (by omega)]
  have e := lowN_up (c % 9).toNat (c / 9 % (6 * 2 ^ (c % 9).toNat)) (8 - (c % 9).toNat)
  rw [show (c % 9).toNat + (8 - (c % 9).toNat) = 8 by omega] at e
  unfold momV
  rw [e]
end L2.RC

namespace L2.RC
open PySem PySem.Spec PyProof.Rows
theorem pow1020 : dPow (.int 10) (.int 20) = some (.int 100000000000000000000) := rfl
theorem seq_nx {f g : SFn} {ρ ρ' : DEnv} (h : f ρ = .nx ρ') : sSeq f g ρ = g ρ' := by rw [a_seq, h]
theorem law_turn (v u : Int) (x y s a b : Sl) : ∃ x' y', c_law_1 1000 [s, a, b, .fz (.tuple [mo (lowN 8 v), mo (lowN 8 u)]), x, y] = .nx [s, a, b, .fz (.tuple [mo (lowN 8 v), mo (lowN 8 u)]), x', y'] := by
  refine ⟨.fz (mo (lowN 8 (v + u + 2 ^ 8))), .fz (.bool (decide (v < u))), ?_⟩
  have r1 := run_l_sum (n := 1000) (K := 8) v u (by decide) (by decide)
  have r2 := run_l_sum_one (n := 1000) (K := 8) (v + u) (by decide) (by decide)
  have r3 := run_mean_and_half (n := 1000) (K := 8) v u (by decide) (by decide)
  have r4 := run_low_half (n := 1000) (K := 8) (v + u + 2 ^ 8) (by decide) (by decide)
  have r5 := run_hour_behind (n := 1000) (K := 8) v
  have r6 := run_l_sum_one (n := 1000) (K := 8) v (by decide) (by decide)
  have r7 := run_earlier (n := 1000) (K := 8) v u (by decide)
  have r8 := run_l_less (n := 1000) (K := 8) v u (by decide)
  have r9 := run_between (n := 1000) (K := 8) v u (by decide) (by decide)
  have r10 := run_l_gap (n := 1000) (K := 8) v u (by decide) (by decide)
  have fr : ∀ m, b_l_fraction 1000 [.fz (mo m), .fz (mo m), .un] = .rt (.bool true) := fun m => by rw [run_l_fraction, decide_eq_true rfl]
  unfold c_law_1
  simp only [a_nil, a_seq, a_if, a_ret, a_set, a_setO, a_sfrz, a_frz, a_mut, a_for, a_bin, a_seqv, a_var, a_c, a_un, a_tup, a_evs0, a_evs1, a_call, a_gs, a_gw, a_gnil, a_tof, a_tand, a_tor, a_tnot, a_and, a_or, a_not, a_eif, a_neg, a_lstD, a_rg1, a_rg2, a_ilst, a_itpl, a_olst, a_cat, a_ttrue, dAdd_int, dSub_int, dLt_int, dLe_int, dGt_int, dGe_int, dEq_int, dNe_int, dEq_bool, dNe_bool, dIs_non, dIsNot_non, isN_none, isN_int, isN_tup, isN_lst, dLen_list, dLen_t2, mo_0, mo_1, beq_self_eq_true, dAbs_int, ix_t0, ix_t1, isi_tt, isi_ib, isi_ii, isi_bb, isi_ll, isi_ss, mod_2, div_2, mul_two, Option.bind_some, Option.map_some, Option.some.injEq, List.getElem?_cons_zero, List.getElem?_cons_succ, List.set_cons_zero, List.set_cons_succ, List.cons_append, List.nil_append, List.replicate_zero, List.replicate_succ, List.append_nil, Bool.not_true, Bool.not_false, decide_true, decide_false, if_true, if_false, r1, r2, r3, r4, r5, r6, r7, r8, r9, r10, fr]
theorem law_true (ns : List Int) (h : ns.length ≤ 63) : ∃ n, b_law n (Sl.br (ns.map .int) :: List.replicate (N_law.length - 1) .un) = .rt (.bool true) := by
  refine ⟨1000, ?_⟩
  have c0 : b_l_cell_at 1000 [.br (ns.map .int), .fz (.int 0)] = .rt (.int (cell ns 0)) := run_l_cell_at ns 0
  have c1 : b_l_cell_at 1000 [.br (ns.map .int), .fz (.int 1)] = .rt (.int (cell ns 1)) := run_l_cell_at ns 1
  have c2 : b_l_cell_at 1000 [.br (ns.map .int), .fz (.int 2)] = .rt (.int (cell ns 2)) := run_l_cell_at ns 2
  have m0 := run_l_moment (n := 1000) (cell ns 0) (by decide)
  have m1 := run_l_moment (n := 1000) (cell ns 1) (by decide)
  have m4 : dMod (.int (cell ns 2)) (.int 4) = some (.int (cell ns 2 % 4)) := mod_p (by decide)
  have d4 : dDiv (.int (cell ns 2)) (.int 4) = some (.int (cell ns 2 / 4)) := div_p (by decide) (by decide)
  have mq : dMod (.int (cell ns 2 / 4)) (.int 100000000000000000000) = some (.int (cell ns 2 / 4 % 100000000000000000000)) := mod_p (by decide)
  have big : ∀ z : Int, PyData.tuple [.int z, .int 1] = mo (lowN 8 (2 ^ 8 * z)) := fun z => by
    have e := lowN_up 0 z 8
    rw [show 0 + 8 = 8 from rfl] at e
    rw [e]
    rfl
  have r11 := run_l_sum (n := 1000) (K := 8) (momV (cell ns 0)) (2 ^ 8 * (cell ns 2 / 4 % 100000000000000000000)) (by decide) (by decide)
  have fin : ∀ v u : Int, (match (match some [PyData.tuple [mo (lowN 8 v), mo (lowN 8 u)], .tuple [mo (lowN 8 u), mo (lowN 8 v)], .tuple [mo (lowN 8 v), mo (lowN 8 v)]] with | some ds => forL 3 (c_law_1 1000) ds [Sl.br (ns.map .int), .fz (mo (lowN 8 v)), .fz (mo (lowN 8 u)), .un, .un, .un] | none => .no) with | .nx _ => Out.rt (.bool true) | o => o) = .rt (.bool true) := by
    intro v u
    obtain ⟨x1, y1, t1⟩ := law_turn v u .un .un (.br (ns.map .int)) (.fz (mo (lowN 8 v))) (.fz (mo (lowN 8 u)))
    obtain ⟨x2, y2, t2⟩ := law_turn u v x1 y1 (.br (ns.map .int)) (.fz (mo (lowN 8 v))) (.fz (mo (lowN 8 u)))
    obtain ⟨x3, y3, t3⟩ := law_turn v v x2 y2 (.br (ns.map .int)) (.fz (mo (lowN 8 v))) (.fz (mo (lowN 8 u)))
    simp only [a_for1, a_for0, List.set_cons_zero, List.set_cons_succ, t1, t2, t3]
  show b_law 1000 [.br (ns.map .int), .un, .un, .un, .un, .un] = _
  unfold b_law
  by_cases c : cell ns 2 % 4 = 1
  · have c' : (cell ns 2 % 4 == 1) = true := beq_iff_eq.mpr c
    simp only [a_nil, a_seq, a_if, a_ret, a_set, a_setO, a_sfrz, a_frz, a_mut, a_for, a_bin, a_seqv, a_var, a_c, a_un, a_tup, a_evs0, a_evs1, a_call, a_gs, a_gw, a_gnil, a_tof, a_tand, a_tor, a_tnot, a_and, a_or, a_not, a_eif, a_neg, a_lstD, a_rg1, a_rg2, a_ilst, a_itpl, a_olst, a_cat, a_ttrue, dAdd_int, dSub_int, dLt_int, dLe_int, dGt_int, dGe_int, dEq_int, dNe_int, dEq_bool, dNe_bool, dIs_non, dIsNot_non, isN_none, isN_int, isN_tup, isN_lst, dLen_list, dLen_t2, mo_0, mo_1, beq_self_eq_true, dAbs_int, ix_t0, ix_t1, isi_tt, isi_ib, isi_ii, isi_bb, isi_ll, isi_ss, mod_2, div_2, mul_two, Option.bind_some, Option.map_some, Option.some.injEq, List.getElem?_cons_zero, List.getElem?_cons_succ, List.set_cons_zero, List.set_cons_succ, List.cons_append, List.nil_append, List.replicate_zero, List.replicate_succ, List.append_nil, Bool.not_true, Bool.not_false, decide_true, decide_false, if_true, if_false, c0, c1, c2, m0, m1, m4, c', d4, pow1020, mq, big, r11]
    exact fin _ _
  · have c' : (cell ns 2 % 4 == 1) = false := beq_eq_false_iff_ne.mpr c
    simp only [a_nil, a_seq, a_if, a_ret, a_set, a_setO, a_sfrz, a_frz, a_mut, a_for, a_bin, a_seqv, a_var, a_c, a_un, a_tup, a_evs0, a_evs1, a_call, a_gs, a_gw, a_gnil, a_tof, a_tand, a_tor, a_tnot, a_and, a_or, a_not, a_eif, a_neg, a_lstD, a_rg1, a_rg2, a_ilst, a_itpl, a_olst, a_cat, a_ttrue, dAdd_int, dSub_int, dLt_int, dLe_int, dGt_int, dGe_int, dEq_int, dNe_int, dEq_bool, dNe_bool, dIs_non, dIsNot_non, isN_none, isN_int, isN_tup, isN_lst, dLen_list, dLen_t2, mo_0, mo_1, beq_self_eq_true, dAbs_int, ix_t0, ix_t1, isi_tt, isi_ib, isi_ii, isi_bb, isi_ll, isi_ss, mod_2, div_2, mul_two, Option.bind_some, Option.map_some, Option.some.injEq, List.getElem?_cons_zero, List.getElem?_cons_succ, List.set_cons_zero, List.set_cons_succ, List.cons_append, List.nil_append, List.replicate_zero, List.replicate_succ, List.append_nil, Bool.not_true, Bool.not_false, decide_true, decide_false, if_true, if_false, c0, c1, c2, m0, m1, m4, c', d4, pow1020, mq, big, r11]
    exact fin _ _
end L2.RC

namespace L2.RC
open PySem PySem.Spec PyProof.Rows
/-- the law's promise: True -/
def spLaw (K : PySem.W.Frag) : Sp := fun vs H Q _ => ∃ (a : Addr) (ns : List Int), vs = [.ref a] ∧ SqL K H a (ns.map V.int) ∧ ns.length ≤ 63 ∧ ∀ H', Q (.bl true) H'
theorem all_mk {l : PySem.W.OpenLaw} {w : World} {K : PySem.W.Frag} {h : Heap} {mg : Str → Option Value} {fa : Addr} (X : K.In h) (G : h.Ns mainGlobals mg) (hfa : mg "law" = some (.ref fa))
    {f1 : Addr} {od1 an1 : Option Addr} {sl1 : Array (Option Value)} {oc1 kV1 dc1 pm1 cd1 ct1 : Value}
    {f2 : Addr} {od2 an2 : Option Addr} {sl2 : Array (Option Value)} {oc2 kV2 dc2 pm2 cd2 ct2 : Value}
    {f3 : Addr} {od3 an3 : Option Addr} {sl3 : Array (Option Value)} {oc3 kV3 dc3 pm3 cd3 ct3 : Value}
    {f4 : Addr} {od4 an4 : Option Addr} {sl4 : Array (Option Value)} {oc4 kV4 dc4 pm4 cd4 ct4 : Value}
    {f5 : Addr} {od5 an5 : Option Addr} {sl5 : Array (Option Value)} {oc5 kV5 dc5 pm5 cd5 ct5 : Value}
    {f6 : Addr} {od6 an6 : Option Addr} {sl6 : Array (Option Value)} {oc6 kV6 dc6 pm6 cd6 ct6 : Value}
    {f7 : Addr} {od7 an7 : Option Addr} {sl7 : Array (Option Value)} {oc7 kV7 dc7 pm7 cd7 ct7 : Value}
    {f8 : Addr} {od8 an8 : Option Addr} {sl8 : Array (Option Value)} {oc8 kV8 dc8 pm8 cd8 ct8 : Value}
    {f9 : Addr} {od9 an9 : Option Addr} {sl9 : Array (Option Value)} {oc9 kV9 dc9 pm9 cd9 ct9 : Value}
    {f10 : Addr} {od10 an10 : Option Addr} {sl10 : Array (Option Value)} {oc10 kV10 dc10 pm10 cd10 ct10 : Value}
    {f11 : Addr} {od11 an11 : Option Addr} {sl11 : Array (Option Value)} {oc11 kV11 dc11 pm11 cd11 ct11 : Value}
    {f12 : Addr} {od12 an12 : Option Addr} {sl12 : Array (Option Value)} {oc12 kV12 dc12 pm12 cd12 ct12 : Value}
    {f13 : Addr} {od13 an13 : Option Addr} {sl13 : Array (Option Value)} {oc13 kV13 dc13 pm13 cd13 ct13 : Value}
    (a1 : PySem.W.nsIn K mainGlobals "plain" = some (some (.ref f1))) (l1 : K.lookup f1 = some ⟨oc1, od1, .func (PySem.W.fnOf "plain" "plain" (defArgs (topS 1)) (defBody (topS 1)) (defScope (topS 1)) .none kV1 dc1 pm1 an1 cd1 ct1), sl1⟩) (c1 : PySem.W.codeIn K cd1 "plain" = true) (k1 : PySem.W.keepIn K (.ref f1) = true)
    (a2 : PySem.W.nsIn K mainGlobals "mean_and_half" = some (some (.ref f2))) (l2 : K.lookup f2 = some ⟨oc2, od2, .func (PySem.W.fnOf "mean_and_half" "mean_and_half" (defArgs (topS 2)) (defBody (topS 2)) (defScope (topS 2)) .none kV2 dc2 pm2 an2 cd2 ct2), sl2⟩) (c2 : PySem.W.codeIn K cd2 "mean_and_half" = true) (k2 : PySem.W.keepIn K (.ref f2) = true)
    (a3 : PySem.W.nsIn K mainGlobals "hour_behind" = some (some (.ref f3))) (l3 : K.lookup f3 = some ⟨oc3, od3, .func (PySem.W.fnOf "hour_behind" "hour_behind" (defArgs (topS 3)) (defBody (topS 3)) (defScope (topS 3)) .none kV3 dc3 pm3 an3 cd3 ct3), sl3⟩) (c3 : PySem.W.codeIn K cd3 "hour_behind" = true) (k3 : PySem.W.keepIn K (.ref f3) = true)
    (a4 : PySem.W.nsIn K mainGlobals "earlier" = some (some (.ref f4))) (l4 : K.lookup f4 = some ⟨oc4, od4, .func (PySem.W.fnOf "earlier" "earlier" (defArgs (topS 4)) (defBody (topS 4)) (defScope (topS 4)) .none kV4 dc4 pm4 an4 cd4 ct4), sl4⟩) (c4 : PySem.W.codeIn K cd4 "earlier" = true) (k4 : PySem.W.keepIn K (.ref f4) = true)
    (a5 : PySem.W.nsIn K mainGlobals "between" = some (some (.ref f5))) (l5 : K.lookup f5 = some ⟨oc5, od5, .func (PySem.W.fnOf "between" "between" (defArgs (topS 5)) (defBody (topS 5)) (defScope (topS 5)) .none kV5 dc5 pm5 an5 cd5 ct5), sl5⟩) (c5 : PySem.W.codeIn K cd5 "between" = true) (k5 : PySem.W.keepIn K (.ref f5) = true)
    (a6 : PySem.W.nsIn K mainGlobals "_law_cell_at" = some (some (.ref f6))) (l6 : K.lookup f6 = some ⟨oc6, od6, .func (PySem.W.fnOf "_law_cell_at" "_law_cell_at" (defArgs (topS 7)) (defBody (topS 7)) (defScope (topS 7)) .none kV6 dc6 pm6 an6 cd6 ct6), sl6⟩) (c6 : PySem.W.codeIn K cd6 "_law_cell_at" = true) (k6 : PySem.W.keepIn K (.ref f6) = true)
    (a7 : PySem.W.nsIn K mainGlobals "_law_low" = some (some (.ref f7))) (l7 : K.lookup f7 = some ⟨oc7, od7, .func (PySem.W.fnOf "_law_low" "_law_low" (defArgs (topS 8)) (defBody (topS 8)) (defScope (topS 8)) .none kV7 dc7 pm7 an7 cd7 ct7), sl7⟩) (c7 : PySem.W.codeIn K cd7 "_law_low" = true) (k7 : PySem.W.keepIn K (.ref f7) = true)
    (a8 : PySem.W.nsIn K mainGlobals "_law_sum" = some (some (.ref f8))) (l8 : K.lookup f8 = some ⟨oc8, od8, .func (PySem.W.fnOf "_law_sum" "_law_sum" (defArgs (topS 9)) (defBody (topS 9)) (defScope (topS 9)) .none kV8 dc8 pm8 an8 cd8 ct8), sl8⟩) (c8 : PySem.W.codeIn K cd8 "_law_sum" = true) (k8 : PySem.W.keepIn K (.ref f8) = true)
    (a9 : PySem.W.nsIn K mainGlobals "_law_less" = some (some (.ref f9))) (l9 : K.lookup f9 = some ⟨oc9, od9, .func (PySem.W.fnOf "_law_less" "_law_less" (defArgs (topS 10)) (defBody (topS 10)) (defScope (topS 10)) .none kV9 dc9 pm9 an9 cd9 ct9), sl9⟩) (c9 : PySem.W.codeIn K cd9 "_law_less" = true) (k9 : PySem.W.keepIn K (.ref f9) = true)
    (a10 : PySem.W.nsIn K mainGlobals "_law_gap" = some (some (.ref f10))) (l10 : K.lookup f10 = some ⟨oc10, od10, .func (PySem.W.fnOf "_law_gap" "_law_gap" (defArgs (topS 11)) (defBody (topS 11)) (defScope (topS 11)) .none kV10 dc10 pm10 an10 cd10 ct10), sl10⟩) (c10 : PySem.W.codeIn K cd10 "_law_gap" = true) (k10 : PySem.W.keepIn K (.ref f10) = true)
    (a11 : PySem.W.nsIn K mainGlobals "_law_fraction" = some (some (.ref f11))) (l11 : K.lookup f11 = some ⟨oc11, od11, .func (PySem.W.fnOf "_law_fraction" "_law_fraction" (defArgs (topS 12)) (defBody (topS 12)) (defScope (topS 12)) .none kV11 dc11 pm11 an11 cd11 ct11), sl11⟩) (c11 : PySem.W.codeIn K cd11 "_law_fraction" = true) (k11 : PySem.W.keepIn K (.ref f11) = true)
    (a12 : PySem.W.nsIn K mainGlobals "_law_moment" = some (some (.ref f12))) (l12 : K.lookup f12 = some ⟨oc12, od12, .func (PySem.W.fnOf "_law_moment" "_law_moment" (defArgs (topS 13)) (defBody (topS 13)) (defScope (topS 13)) .none kV12 dc12 pm12 an12 cd12 ct12), sl12⟩) (c12 : PySem.W.codeIn K cd12 "_law_moment" = true) (k12 : PySem.W.keepIn K (.ref f12) = true)
    (a13 : PySem.W.nsIn K mainGlobals "law" = some (some (.ref f13))) (l13 : K.lookup f13 = some ⟨oc13, od13, .func (PySem.W.fnOf "law" "law" (defArgs (topS 14)) (defBody (topS 14)) (defScope (topS 14)) .none kV13 dc13 pm13 an13 cd13 ct13), sl13⟩) (c13 : PySem.W.codeIn K cd13 "law" = true) (k13 : PySem.W.keepIn K (.ref f13) = true)
    (z1 : PySem.W.nsIn K mainGlobals "abs" = some none)
    (z2 : PySem.W.nsIn K mainGlobals "bool" = some none)
    (z3 : PySem.W.nsIn K mainGlobals "int" = some none)
    (z4 : PySem.W.nsIn K mainGlobals "isinstance" = some none)
    (z5 : PySem.W.nsIn K mainGlobals "len" = some none)
    (z6 : PySem.W.nsIn K mainGlobals "range" = some none)
    (z7 : PySem.W.nsIn K mainGlobals "tuple" = some none) :
    ∃ fd : FuncData, (∀ (s : Shared) (v : Value), BindsTo s fd ⟨[v], []⟩ [("script", v)]) ∧ ∀ base : Heap, K.In base → base.Ns mainGlobals mg → FnOk l.prog w K mg base CX0 3 fa fd ["script"] (spLaw K) := by
  have e := hfa.symm.trans (PySem.W.mg_of X G a13)
  cases e
  let T : Txt K mg := { CL := 0, CN := 0, f_plain := f1, d_plain := _, a_plain := ⟨fun_mk (st := topS 1) l1 c1 k1, PySem.W.mg_of X G a1⟩, f_mean_and_half := f2, d_mean_and_half := _, a_mean_and_half := ⟨fun_mk (st := topS 2) l2 c2 k2, PySem.W.mg_of X G a2⟩, f_hour_behind := f3, d_hour_behind := _, a_hour_behind := ⟨fun_mk (st := topS 3) l3 c3 k3, PySem.W.mg_of X G a3⟩, f_earlier := f4, d_earlier := _, a_earlier := ⟨fun_mk (st := topS 4) l4 c4 k4, PySem.W.mg_of X G a4⟩, f_between := f5, d_between := _, a_between := ⟨fun_mk (st := topS 5) l5 c5 k5, PySem.W.mg_of X G a5⟩, f_l_cell_at := f6, d_l_cell_at := _, a_l_cell_at := ⟨fun_mk (st := topS 7) l6 c6 k6, PySem.W.mg_of X G a6⟩, f_l_low := f7, d_l_low := _, a_l_low := ⟨fun_mk (st := topS 8) l7 c7 k7, PySem.W.mg_of X G a7⟩, f_l_sum := f8, d_l_sum := _, a_l_sum := ⟨fun_mk (st := topS 9) l8 c8 k8, PySem.W.mg_of X G a8⟩, f_l_less := f9, d_l_less := _, a_l_less := ⟨fun_mk (st := topS 10) l9 c9 k9, PySem.W.mg_of X G a9⟩, f_l_gap := f10, d_l_gap := _, a_l_gap := ⟨fun_mk (st := topS 11) l10 c10 k10, PySem.W.mg_of X G a10⟩, f_l_fraction := f11, d_l_fraction := _, a_l_fraction := ⟨fun_mk (st := topS 12) l11 c11 k11, PySem.W.mg_of X G a11⟩, f_l_moment := f12, d_l_moment := _, a_l_moment := ⟨fun_mk (st := topS 13) l12 c12 k12, PySem.W.mg_of X G a12⟩, f_law := fa, d_law := _, a_law := ⟨fun_mk (st := topS 14) l13 c13 k13, PySem.W.mg_of X G a13⟩, z_abs := PySem.W.mg_none_of X G z1, z_bool := PySem.W.mg_none_of X G z2, z_int := PySem.W.mg_none_of X G z3, z_isinstance := PySem.W.mg_none_of X G z4, z_len := PySem.W.mg_none_of X G z5, z_range := PySem.W.mg_none_of X G z6, z_tuple := PySem.W.mg_none_of X G z7 }
  refine ⟨_, fun s v => .of_eq rfl, fun base _ _ => (ok_law T).imp fun vs H Q E q => ?_⟩
  obtain ⟨a, ns, rfl, hS, hl, q⟩ := q
  exact law_sp hS (law_true ns hl) q
end L2.RC
open PySem PySem.W PyProof.Rows
set_option maxHeartbeats 0 in
theorem PySem.Challenge.cw_ropeclock_k01_times_reckoned_holds : PySem.Challenge.rw_ropeclock_k01_times_reckoned.Holds := by
  w_on; o_law; k_head; (case hw => w_witness2)
  k_fill
  refine L2.walk_of (l := PySem.Challenge.rw_ropeclock_k01_times_reckoned) (n := 63) (k := 3) (x := "script") (CX := fun _ => L2.CX0) (sp := fun w => L2.RC.spLaw _) rfl (by decide) rfl ⟨rfl, by decide, by decide⟩ (fun w h Y => PySem.W.kIn_of Y) ?F (fun _ _ a ns hl _ hS => ⟨a, ns, rfl, hS, hl, fun _ => rfl⟩) (fun _ _ _ _ _ h => h)
  case F =>
    intro w mg fa h KX G hmg
    refine' L2.RC.all_mk KX G hmg ?a1 ?l1 ?c1 ?k1 ?a2 ?l2 ?c2 ?k2 ?a3 ?l3 ?c3 ?k3 ?a4 ?l4 ?c4 ?k4 ?a5 ?l5 ?c5 ?k5 ?a6 ?l6 ?c6 ?k6 ?a7 ?l7 ?c7 ?k7 ?a8 ?l8 ?c8 ?k8 ?a9 ?l9 ?c9 ?k9 ?a10 ?l10 ?c10 ?k10 ?a11 ?l11 ?c11 ?k11 ?a12 ?l12 ?c12 ?k12 ?a13 ?l13 ?c13 ?k13 ?z1 ?z2 ?z3 ?z4 ?z5 ?z6 ?z7
    (case a1 => k_is); (case l1 => k_is); (case c1 => k_is); (case k1 => k_is); (case a2 => k_is); (case l2 => k_is); (case c2 => k_is); (case k2 => k_is)
    (case a3 => k_is); (case l3 => k_is); (case c3 => k_is); (case k3 => k_is); (case a4 => k_is); (case l4 => k_is); (case c4 => k_is); (case k4 => k_is)
    (case a5 => k_is); (case l5 => k_is); (case c5 => k_is); (case k5 => k_is); (case a6 => k_is); (case l6 => k_is); (case c6 => k_is); (case k6 => k_is)
    (case a7 => k_is); (case l7 => k_is); (case c7 => k_is); (case k7 => k_is); (case a8 => k_is); (case l8 => k_is); (case c8 => k_is); (case k8 => k_is)
    (case a9 => k_is); (case l9 => k_is); (case c9 => k_is); (case k9 => k_is); (case a10 => k_is); (case l10 => k_is); (case c10 => k_is); (case k10 => k_is)
    (case a11 => k_is); (case l11 => k_is); (case c11 => k_is); (case k11 => k_is); (case a12 => k_is); (case l12 => k_is); (case c12 => k_is); (case k12 => k_is)
    (case a13 => k_is); (case l13 => k_is); (case c13 => k_is); (case k13 => k_is); (case z1 => k_is); (case z2 => k_is); (case z3 => k_is); (case z4 => k_is)
    (case z5 => k_is); (case z6 => k_is); (case z7 => k_is)

