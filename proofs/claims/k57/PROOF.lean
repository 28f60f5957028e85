import PyProof.Rows.All
import Wide.All
import OpenK.AllK
import Wide.FinOn
import HandS.ForMost
import HandS.Flow
import HandS.IsInst
import HandS.TupAny
import HandS.Wide
import HandS.RaiseMore
import KE.DataMinMax
import KE.DataCmp
import HandS.Deep
import HandS.Style
import HandS.Iter
import KE.SortData
import HandS.StrMore
import HandS.Replace
import HandS.Rev
import HandS.More
import PySem.Challenge.RW_postlands_k57_whole_words_that_signals_m
set_option Elab.async false
set_option linter.all false
set_option maxRecDepth 100000
/-! Core1: data in the abstract heap, slots that hold shared data or an own list, results; what an expression gives as a plain function of the slots. -/
namespace Mi
open PySem PySem.Spec PyProof.Rows L2

abbrev D := PyData
abbrev Fr0 := PySem.W.Frag

/-- the written part, once for all -/
class KK where
  K : Fr0
variable [KK]

/-! ### data in a heap (lists and tuples tracked; the script, locked, is told as frzD) -/
abbrev frzD (ds : List D) : D := .dict [(.none, .list ds)]
mutual
inductive Dv (F : Hp) : V → D → Prop
  | non : Dv F .non .none
  | bl (b : Bool) : Dv F (.bl b) (.bool b)
  | int (i : Int) : Dv F (.int i) (.int i)
  | str (x : Str) : Dv F (.str x) (.str x)
  | lst {a : Addr} {xs : List V} {ds : List D} : F a = some (.lst xs) → Dvs F xs ds → Dv F (.ref a) (.list ds)
  | tup {a : Addr} {xs : List V} {ds : List D} : F a = some (.tup xs) → Dvs F xs ds → Dv F (.ref a) (.tuple ds)
  | frz {a : Addr} {xs : List V} {ds : List D} : SqL KK.K F a xs → Dvs F xs ds → Dv F (.ref a) (frzD ds)
inductive Dvs (F : Hp) : List V → List D → Prop
  | nil : Dvs F [] []
  | cons {v : V} {vs : List V} {d : D} {ds : List D} : Dv F v d → Dvs F vs ds → Dvs F (v :: vs) (d :: ds)
end
mutual
theorem Dv.mono {F F' : Hp} (e : Same F F') : ∀ {v : V} {d : D}, Dv F v d → Dv F' v d
  | _, _, .non => .non
  | _, _, .bl b => .bl b
  | _, _, .int i => .int i
  | _, _, .str x => .str x
  | _, _, .lst h a => .lst (e _ _ h) (Dvs.mono e a)
  | _, _, .tup h a => .tup (e _ _ h) (Dvs.mono e a)
  | _, _, .frz h a => .frz (e.seq h) (Dvs.mono e a)
theorem Dvs.mono {F F' : Hp} (e : Same F F') : ∀ {vs : List V} {ds : List D}, Dvs F vs ds → Dvs F' vs ds
  | _, _, .nil => .nil
  | _, _, .cons h a => .cons (Dv.mono e h) (Dvs.mono e a)
end
section
variable {F : Hp} {v : V} {vs us : List V} {d : D} {ds es : List D}
theorem Dvs.len : ∀ {vs : List V} {ds : List D}, Dvs F vs ds → vs.length = ds.length
  | _, _, .nil => rfl
  | _, _, .cons _ a => by rw [List.length_cons, List.length_cons, Dvs.len a]
theorem Dvs.app : ∀ {vs : List V} {ds : List D}, Dvs F vs ds → Dvs F us es → Dvs F (vs ++ us) (ds ++ es)
  | _, _, .nil, b => b
  | _, _, .cons h a, b => .cons h (Dvs.app a b)
theorem Dvs.get : ∀ {vs : List V} {ds : List D} {i : Nat} {d : D}, Dvs F vs ds → ds[i]? = some d → ∃ v, vs[i]? = some v ∧ Dv F v d
  | _, _, i, _, .nil, e => by simp at e
  | _, _, 0, d, .cons h a, e => by
    have e' := Option.some.inj e
    subst e'
    exact ⟨_, rfl, h⟩
  | _, _, i + 1, d, .cons h a, e => by
    obtain ⟨v, e1, h1⟩ := Dvs.get (i := i) (d := d) a (by simpa using e)
    exact ⟨v, by simpa using e1, h1⟩
theorem Dvs.take : ∀ {vs : List V} {ds : List D} (n : Nat), Dvs F vs ds → Dvs F (vs.take n) (ds.take n)
  | _, _, 0, _ => .nil
  | _, _, _ + 1, .nil => .nil
  | _, _, n + 1, .cons h a => .cons h (Dvs.take n a)
theorem Dvs.drop : ∀ {vs : List V} {ds : List D} (n : Nat), Dvs F vs ds → Dvs F (vs.drop n) (ds.drop n)
  | _, _, 0, a => a
  | _, _, _ + 1, .nil => .nil
  | _, _, n + 1, .cons _ a => Dvs.drop n a
theorem Dvs.set : ∀ {vs : List V} {ds : List D} (n : Nat), Dvs F vs ds → Dv F v d → Dvs F (vs.set n v) (ds.set n d)
  | _, _, _, .nil, _ => .nil
  | _, _, 0, .cons _ a, h => .cons h a
  | _, _, n + 1, .cons g a, h => .cons g (Dvs.set n a h)
theorem Dvs.rev : ∀ {vs : List V} {ds : List D}, Dvs F vs ds → Dvs F vs.reverse ds.reverse
  | _, _, .nil => .nil
  | _, _, .cons h a => by
    rw [List.reverse_cons, List.reverse_cons]
    exact Dvs.app (Dvs.rev a) (.cons h .nil)
theorem Dvs.snoc (a : Dvs F vs ds) (h : Dv F v d) : Dvs F (vs ++ [v]) (ds ++ [d]) := a.app (.cons h .nil)
theorem Dvs.ints : ∀ {vs : List V} {ns : List Int}, Dvs F vs (ns.map PyData.int) → vs = ns.map V.int
  | _, [], .nil => rfl
  | _, n :: ns, .cons (.int _) a => by rw [List.map_cons, Dvs.ints a]
theorem Dvs.bls : ∀ {vs : List V} {ns : List Bool}, Dvs F vs (ns.map PyData.bool) → vs = ns.map V.bl
  | _, [], .nil => rfl
  | _, n :: ns, .cons (.bl _) a => by rw [List.map_cons, Dvs.bls a]
theorem Dvs.strs : ∀ {vs : List V} {ns : List Str}, Dvs F vs (ns.map PyData.str) → vs = ns.map V.str
  | _, [], .nil => rfl
  | _, n :: ns, .cons (.str _) a => by rw [List.map_cons, Dvs.strs a]
theorem Dvs.of_ints : ∀ (ns : List Int), Dvs F (ns.map V.int) (ns.map PyData.int)
  | [] => .nil
  | n :: ns => .cons (.int n) (Dvs.of_ints ns)
theorem Dvs.of_strs : ∀ (ns : List Str), Dvs F (ns.map V.str) (ns.map PyData.str)
  | [] => .nil
  | n :: ns => .cons (.str n) (Dvs.of_strs ns)
end
mutual
theorem Dv.dp {K : Fr0} {F : Hp} : ∀ {v : V} {d : D}, Dv F v d → d.canLay0 = true → Dp K F v d
  | _, _, .non, _ => .non
  | _, _, .bl b, _ => .bl b
  | _, _, .int i, _ => .int i
  | _, _, .str x, _ => .str x
  | _, _, .lst h a, c => .lst (.of h) (Dvs.dp a c)
  | _, _, .tup h a, c => .tup (.of h) (Dvs.dp a c)
  | _, _, .frz h a, c => by cases c
theorem Dvs.dp {K : Fr0} {F : Hp} : ∀ {vs : List V} {ds : List D}, Dvs F vs ds → PyData.canLayAll0 ds = true → DpAll K F vs ds
  | _, _, .nil, _ => .nil
  | _, _, .cons h a, c => by
    have c' := Bool.and_eq_true_iff.mp c
    exact .cons (Dv.dp h c'.1) (Dvs.dp a c'.2)
end

/-! ### results, slots -/
/-- what an expression gives: shared data; a new list of its own; the list (or data) that slot i holds -/
inductive R where
  | sh (d : D) | fr (ds : List D) | bw (i : Nat)
/-- what a slot holds: nothing; shared data; an own list; the list that was handed in to be changed -/
inductive M where
  | no | sh (d : D) | own (ds : List D) | io (ds : List D)
abbrev En := List M
def OwnAt (ρ : En) (i : Nat) : Prop := (∃ ds, ρ[i]? = some (.own ds)) ∨ ∃ ds, ρ[i]? = some (.io ds)
def deref (ρ : En) : R → Option D
  | .sh d => some d
  | .fr ds => some (.list ds)
  | .bw i => match ρ[i]? with
    | some (.own ds) => some (.list ds)
    | some (.io ds) => some (.list ds)
    | some (.sh d) => some d
    | _ => none

def SlotOk (F G H : Hp) (b : Addr) (σ : L2.St) (i : Nat) : M → Prop
  | .no => True
  | .sh d => ∃ v, σ[i]? = some (some v) ∧ Dv F v d
  | .own ds => ∃ p vs, σ[i]? = some (some (.ref p)) ∧ H p = some (.lst vs) ∧ Dvs F vs ds ∧ F p = none ∧ G p = none
  | .io ds => σ[i]? = some (some (.ref b)) ∧ ∃ vs, H b = some (.lst vs) ∧ Dvs F vs ds ∧ F b = none ∧ G b = none
/-- the slots stand for ρ: F what is shared for good, G what others have (not to be changed), H the heap -/
structure Rp (F G H : Hp) (b : Addr) (σ : L2.St) (ρ : En) : Prop where
  fh : Same F H
  gh : Same G H
  len : ρ.length = σ.length
  slot : ∀ i m, ρ[i]? = some m → SlotOk F G H b σ i m
  ne : ∀ i j p, OwnAt ρ i → OwnAt ρ j → σ[i]? = some (some (.ref p)) → σ[j]? = some (some (.ref p)) → i = j
def RsOk (F G H : Hp) (σ : L2.St) (ρ : En) (v : V) : R → Prop
  | .sh d => Dv F v d
  | .fr ds => ∃ p vs, v = .ref p ∧ H p = some (.lst vs) ∧ Dvs F vs ds ∧ F p = none ∧ G p = none ∧ ∀ i, OwnAt ρ i → σ[i]? ≠ some (some (.ref p))
  | .bw i => σ[i]? = some (some v)
def Cln (F G F' : Hp) : Prop := ∀ a, G a ≠ none → F' a ≠ none → F a ≠ none
theorem Cln.refl (F G : Hp) : Cln F G F := fun _ _ h => h
theorem Cln.trans {F F1 F2 G : Hp} (a : Cln F G F1) (b : Cln F1 G F2) : Cln F G F2 := fun x g h => a x g (b x g h)
theorem Cln.less {F F' G G' : Hp} (c : Cln F G' F') (e : Same G G') : Cln F G F' := fun x g h => by
  refine c x (fun z => g ?_) h
  cases q : G x with
  | none => rfl
  | some o => rw [e x o q] at z; cases z

abbrev MR := En → Option (R × En)
abbrev MB := En → Option (Bool × En)
/-- what an expression asks, by its plain function -/
def tM (m : MR) : TE := fun σ H Q => ∃ F G b ρ, Rp F G H b σ ρ ∧ ∃ r ρ', m ρ = some (r, ρ') ∧ ∀ F' H' v, Same F F' → Cln F G F' → Rp F' G H' b σ ρ' → RsOk F' G H' σ ρ' v r → Q v H'
def tMB (m : MB) : TT := fun σ H Q => ∃ F G b ρ, Rp F G H b σ ρ ∧ ∃ r ρ', m ρ = some (r, ρ') ∧ ∀ F' H', Same F F' → Cln F G F' → Rp F' G H' b σ ρ' → Q r H'
theorem _root_.L2.PE.imq {X : Cx} {e : Expr} {t t' : TE} (h : PE X e t) (i : ∀ σ H Q, t' σ H Q → t σ H Q) : PE X e t' := ⟨fun pins s σ H Q I q => h.run pins s σ H Q I (i σ H Q q)⟩
theorem _root_.L2.PT.imq {X : Cx} {e : Expr} {t t' : TT} (h : PT X e t) (i : ∀ σ H Q, t' σ H Q → t σ H Q) : PT X e t' := ⟨fun pins s σ H Q I q => h.run pins s σ H Q I (i σ H Q q)⟩
theorem _root_.L2.PW.imq {X : Cx} {e : Expr} {t t' : TT} (h : PW X e t) (i : ∀ σ H Q, t' σ H Q → t σ H Q) : PW X e t' := ⟨fun wh pins s σ H Q I q => h.run wh pins s σ H Q I (i σ H Q q)⟩
theorem _root_.L2.PA.imq {X : Cx} {es : List Expr} {t t' : TA} (h : PA X es t) (i : ∀ σ H Q, t' σ H Q → t σ H Q) : PA X es t' := ⟨fun pos pins s σ H Q I q => h.run pos pins s σ H Q I (i σ H Q q)⟩
theorem _root_.L2.PS.imq {X : Cx} {st : Stmt} {t t' : TS} (h : PS X st t) (i : ∀ D σ H, t' D σ H → t D σ H) : PS X st t' := ⟨fun pins s σ H D I q => h.run pins s σ H D I (i D σ H q)⟩
theorem _root_.L2.PSs.imq {X : Cx} {st : List Stmt} {t t' : TS} (h : PSs X st t) (i : ∀ D σ H, t' D σ H → t D σ H) : PSs X st t' := ⟨fun pins s σ H D I q => h.run pins s σ H D I (i D σ H q)⟩

section
variable {F F' F1 F2 G G' H H' : Hp} {b : Addr} {σ : L2.St} {ρ ρ' : En} {v : V} {r : R}
/-- fresh in the larger heap is fresh in the smaller -/
theorem nn (e : Same F H) {p : Addr} (h : H p = none) : F p = none := e.free h
theorem Rp.slotAddr (h : Rp F G H b σ ρ) {i : Nat} (o : OwnAt ρ i) : ∃ p vs ds, σ[i]? = some (some (.ref p)) ∧ H p = some (.lst vs) ∧ Dvs F vs ds ∧ F p = none ∧ G p = none ∧ (ρ[i]? = some (.own ds) ∨ (ρ[i]? = some (.io ds) ∧ p = b)) := by
  rcases o with ⟨ds, e⟩ | ⟨ds, e⟩
  · obtain ⟨p, vs, a, c, d, f, g⟩ := h.slot i _ e
    exact ⟨p, vs, ds, a, c, d, f, g, .inl e⟩
  · obtain ⟨a, vs, c, d, f, g⟩ := h.slot i _ e
    exact ⟨b, vs, ds, a, c, d, f, g, .inr ⟨e, rfl⟩⟩
/-- more is guarded: the guard grows by what no own list is -/
theorem Rp.more (h : Rp F G H b σ ρ) (e : Same G' H) (hn : ∀ i p, OwnAt ρ i → σ[i]? = some (some (.ref p)) → G' p = none) : Rp F G' H b σ ρ := by
  refine ⟨h.fh, e, h.len, fun i m q => ?_, h.ne⟩
  have s := h.slot i m q
  cases m with
  | no => trivial
  | sh d => exact s
  | own ds =>
    obtain ⟨p, vs, a, c, d, f, g⟩ := s
    exact ⟨p, vs, a, c, d, f, hn i p (.inl ⟨ds, q⟩) a⟩
  | io ds =>
    obtain ⟨a, vs, c, d, f, g⟩ := s
    exact ⟨a, vs, c, d, f, hn i b (.inr ⟨ds, q⟩) a⟩
/-- less is guarded -/
theorem Rp.less (h : Rp F G' H b σ ρ) (e : Same G G') : Rp F G H b σ ρ := by
  refine h.more (e.trans h.gh) fun i p o q => ?_
  obtain ⟨p', vs, ds, a, c, d, f, g, _⟩ := h.slotAddr o
  rw [a] at q
  cases q
  exact e.free g
/-- only new objects and shared data come to the heap -/
theorem Rp.grow (h : Rp F G H b σ ρ) (e : Same F F') (eh : Same H H') (fh : Same F' H') (hn : ∀ i p, OwnAt ρ i → σ[i]? = some (some (.ref p)) → F' p = none) : Rp F' G H' b σ ρ := by
  refine ⟨fh, h.gh.trans eh, h.len, fun i m q => ?_, h.ne⟩
  have s := h.slot i m q
  cases m with
  | no => trivial
  | sh d =>
    obtain ⟨v, a, c⟩ := s
    exact ⟨v, a, c.mono e⟩
  | own ds =>
    obtain ⟨p, vs, a, c, d, f, g⟩ := s
    exact ⟨p, vs, a, eh _ _ c, d.mono e, hn i p (.inl ⟨ds, q⟩) a, g⟩
  | io ds =>
    obtain ⟨a, vs, c, d, f, g⟩ := s
    exact ⟨a, vs, eh _ _ c, d.mono e, hn i b (.inr ⟨ds, q⟩) a, g⟩
theorem Rp.own_some (h : Rp F G H b σ ρ) {i : Nat} {p : Addr} (o : OwnAt ρ i) (q : σ[i]? = some (some (.ref p))) : ∃ vs, H p = some (.lst vs) ∧ F p = none ∧ G p = none := by
  obtain ⟨p', vs, ds, a, c, d, f, g, _⟩ := h.slotAddr o
  rw [a] at q
  cases q
  exact ⟨vs, c, f, g⟩

/-- the guard of a result while more is evaluated -/
def guard (G : Hp) (H : Hp) (v : V) : R → Hp
  | .fr _ => match v with
    | .ref p => match H p with
      | some o => upd G p o
      | none => G
    | _ => G
  | _ => G
theorem guard_same (r : R) (hg : Same G H) : Same G (guard G H v r) ∧ Same (guard G H v r) H ∨ True := .inr trivial
theorem guard_ge (h : RsOk F G H σ ρ v r) : Same G (guard G H v r) := by
  cases r with
  | sh d => exact Same.refl G
  | bw i => exact Same.refl G
  | fr ds =>
    obtain ⟨p, vs, rfl, a, _, _, g, _⟩ := h
    unfold guard
    simp only [a]
    intro x o e
    rw [upd_ne (ne_of_none e g)]
    exact e
theorem guard_le (hg : Same G H) (h : RsOk F G H σ ρ v r) : Same (guard G H v r) H := by
  cases r with
  | sh d => exact hg
  | bw i => exact hg
  | fr ds =>
    obtain ⟨p, vs, rfl, a, _, _, g, _⟩ := h
    unfold guard
    simp only [a]
    intro x o e
    by_cases hx : x = p
    · subst hx
      rw [upd_same] at e
      rw [a, e]
    · rw [upd_ne hx] at e
      exact hg _ _ e
theorem Rp.guarded (R0 : Rp F G H b σ ρ) (h : RsOk F G H σ ρ v r) : Rp F (guard G H v r) H b σ ρ := by
  refine R0.more (guard_le R0.gh h) fun i p o q => ?_
  obtain ⟨vs, a, f, g⟩ := R0.own_some o q
  cases r with
  | sh d => exact g
  | bw i => exact g
  | fr ds =>
    obtain ⟨p', vs', rfl, a', _, _, _, ne⟩ := h
    unfold guard
    simp only [a']
    have : p ≠ p' := fun z => ne i o (z ▸ q)
    rw [upd_ne this]
    exact g
/-- a result stands on behind an evaluation that kept its guard -/
theorem RsOk.keep (h : RsOk F G H σ ρ v r) (e : Same F F') (c : Cln F (guard G H v r) F') (k : Rp F' (guard G H v r) H' b σ ρ') : RsOk F' G H' σ ρ' v r := by
  cases r with
  | sh d => exact Dv.mono e h
  | bw i => exact h
  | fr ds =>
    obtain ⟨p, vs, rfl, a, ha, f, g, ne⟩ := h
    have gp : guard G H (.ref p) (.fr ds) p = some (.lst vs) := by
      unfold guard
      simp only [a]
      exact upd_same
    refine ⟨p, vs, rfl, k.gh _ _ gp, ha.mono e, ?_, g, fun i o q => ?_⟩
    · cases q : F' p with
      | none => rfl
      | some o => exact absurd f (c p (by rw [gp]; exact fun z => nomatch z) (by rw [q]; exact fun z => nomatch z))
    · obtain ⟨_, _, _, g'⟩ := k.own_some o q
      rw [gp] at g'
      cases g'
/-- the results differ, if both are new -/
theorem RsOk.less (h : RsOk F G' H σ ρ v r) (e : Same G G') : RsOk F G H σ ρ v r := by
  cases r with
  | sh d => exact h
  | bw i => exact h
  | fr ds =>
    obtain ⟨p, vs, rfl, a, ha, f, g, ne⟩ := h
    exact ⟨p, vs, rfl, a, ha, f, e.free g, ne⟩
end

/-- two evaluations, one behind the other -/
theorem seq2 {ma mb : MR} {F G H : Hp} {b : Addr} {σ : L2.St} {ρ ρ1 ρ2 : En} {r1 r2 : R} {Q : V → V → Hp → Prop} (h : Rp F G H b σ ρ) (ea : ma ρ = some (r1, ρ1)) (eb : mb ρ1 = some (r2, ρ2))
    (q : ∀ F' H' v1 v2, Same F F' → Cln F G F' → Rp F' G H' b σ ρ2 → RsOk F' G H' σ ρ2 v1 r1 → RsOk F' G H' σ ρ2 v2 r2 → Q v1 v2 H') : tM ma σ H fun v1 H1 => tM mb σ H1 fun v2 H2 => Q v1 v2 H2 := by
  refine ⟨F, G, b, ρ, h, r1, ρ1, ea, fun F1 H1 v1 e1 c1 h1 k1 => ?_⟩
  refine ⟨F1, guard G H1 v1 r1, b, ρ1, h1.guarded k1, r2, ρ2, eb, fun F2 H2 v2 e2 c2 h2 k2 => ?_⟩
  have ge := guard_ge k1
  exact q F2 H2 v1 v2 (e1.trans e2) (c1.trans (c2.less ge)) (h2.less ge) (k1.keep e2 c2 h2) (k2.less ge)

/-! ### what is asked of a value where it is used: data by its contents now -/
/-- v stands for d in H, its items shared for good -/
def Bd (F H : Hp) (v : V) (d : D) : Prop := Dv F v d ∨ ∃ p vs ds, v = .ref p ∧ H p = some (.lst vs) ∧ Dvs F vs ds ∧ d = .list ds
theorem Bd.dv {F H : Hp} {v : V} {d : D} (e : Same F H) (h : Bd F H v d) : Dv H v d := by
  rcases h with h | ⟨p, vs, ds, rfl, a, b, rfl⟩
  · exact h.mono e
  · exact .lst a (b.mono e)
theorem Bd.list {F H : Hp} {v : V} {ds : List D} (e : Same F H) (h : Bd F H v (.list ds)) : ∃ p vs, v = .ref p ∧ H p = some (.lst vs) ∧ Dvs F vs ds := by
  rcases h with h | ⟨p, vs, ds, rfl, a, b, q⟩
  · cases h with
    | lst h a => exact ⟨_, _, rfl, e _ _ h, a⟩
  · cases q
    exact ⟨p, vs, rfl, a, b⟩
theorem Bd.tup {F H : Hp} {v : V} {ds : List D} (h : Bd F H v (.tuple ds)) : ∃ p vs, v = .ref p ∧ F p = some (.tup vs) ∧ Dvs F vs ds := by
  rcases h with h | ⟨p, vs, ds, rfl, a, b, q⟩
  · cases h with
    | tup h a => exact ⟨_, _, rfl, h, a⟩
  · cases q
theorem Bd.frz {F H : Hp} {v : V} {ds : List D} (h : Bd F H v (frzD ds)) : ∃ p vs, v = .ref p ∧ SqL KK.K F p vs ∧ Dvs F vs ds := by
  rcases h with h | ⟨p, vs, ds, rfl, a, b, q⟩
  · cases h with
    | frz h a => exact ⟨_, _, rfl, h, a⟩
  · cases q
theorem Bd.int {F H : Hp} {v : V} {i : Int} (h : Bd F H v (.int i)) : v = .int i := by
  rcases h with h | ⟨p, vs, ds, rfl, a, b, q⟩
  · cases h; rfl
  · cases q
theorem Bd.bl {F H : Hp} {v : V} {i : Bool} (h : Bd F H v (.bool i)) : v = .bl i := by
  rcases h with h | ⟨p, vs, ds, rfl, a, b, q⟩
  · cases h; rfl
  · cases q
theorem Bd.str {F H : Hp} {v : V} {i : Str} (h : Bd F H v (.str i)) : v = .str i := by
  rcases h with h | ⟨p, vs, ds, rfl, a, b, q⟩
  · cases h; rfl
  · cases q
theorem Bd.non {F H : Hp} {v : V} (h : Bd F H v .none) : v = .non := by
  rcases h with h | ⟨p, vs, ds, rfl, a, b, q⟩
  · cases h; rfl
  · cases q
theorem RsOk.bd {F G H : Hp} {b : Addr} {σ : L2.St} {ρ : En} {v : V} {r : R} {d : D} (h : Rp F G H b σ ρ) (k : RsOk F G H σ ρ v r) (e : deref ρ r = some d) : Bd F H v d := by
  cases r with
  | sh d' =>
    cases e
    exact .inl k
  | fr ds =>
    cases e
    obtain ⟨p, vs, rfl, a, ha, _⟩ := k
    exact .inr ⟨p, vs, ds, rfl, a, ha, rfl⟩
  | bw i =>
    have k' : σ[i]? = some (some v) := k
    unfold deref at e
    cases q : ρ[i]? with
    | none => simp [q] at e
    | some m =>
      have s := h.slot i m q
      cases m with
      | no => simp [q] at e
      | sh d' =>
        simp only [q] at e
        cases e
        obtain ⟨v', a, c⟩ := s
        rw [k'] at a
        cases a
        exact .inl c
      | own ds =>
        simp only [q] at e
        cases e
        obtain ⟨p, vs, a, c, d, _⟩ := s
        rw [k'] at a
        cases a
        exact .inr ⟨p, vs, ds, rfl, c, d, rfl⟩
      | io ds =>
        simp only [q] at e
        cases e
        obtain ⟨a, vs, c, d, _⟩ := s
        rw [k'] at a
        cases a
        exact .inr ⟨b, vs, ds, rfl, c, d, rfl⟩
end Mi
set_option Elab.async false
set_option linter.all false
set_option maxRecDepth 100000
/-! Core2: expressions. -/
namespace Mi
open PySem PySem.Spec PyProof.Rows L2
variable [KK]

abbrev lim : Nat := 1000000
theorem lim_le {n : Nat} (h : n ≤ lim) : n ≤ sizeLine := Nat.le_trans h (by rw [sizeLine_eq]; decide)
theorem lim_lt {n : Nat} (h : n < lim) : n < sizeLine := Nat.lt_of_lt_of_le h (by rw [sizeLine_eq]; decide)

/-! ### what an operation leaves: the heap grown -/
def ResOk (F' H H' : Hp) (v : V) : R → Prop
  | .sh d => Dv F' v d
  | .fr ds => ∃ p vs, v = .ref p ∧ H p = none ∧ H' p = some (.lst vs) ∧ Dvs F' vs ds ∧ F' p = none
  | .bw _ => False
structure Post (F H : Hp) (r : R) (F' H' : Hp) (v : V) : Prop where
  ff : Same F F'
  hh : Same H H'
  fh : Same F' H'
  new : ∀ a, F' a ≠ none → F a ≠ none ∨ H a = none
  res : ResOk F' H H' v r
theorem post_sh {F H : Hp} {v : V} {d : D} (e : Same F H) (h : Dv F v d) : Post F H (.sh d) F H v := ⟨.refl _, .refl _, e, fun _ h => .inl h, h⟩
theorem same_upd {H : Hp} {p : Addr} {o : HO} (h : H p = none) : Same H (upd H p o) := fun b x e => by
  rw [upd_ne (ne_of_none e h)]
  exact e
theorem post_fr {F H : Hp} {p : Addr} {vs : List V} {ds : List D} (e : Same F H) (h : H p = none) (a : Dvs F vs ds) : Post F H (.fr ds) F (upd H p (.lst vs)) (.ref p) :=
  ⟨.refl _, same_upd h, e.trans (same_upd h), fun _ h => .inl h, p, vs, rfl, h, upd_same, a, e.free h⟩
theorem same_upd2 {F H : Hp} {p : Addr} {o : HO} (e : Same F H) : Same (upd F p o) (upd H p o) := fun b x q => by
  by_cases hb : b = p
  · subst hb
    rw [upd_same] at q ⊢
    exact q
  · rw [upd_ne hb] at q ⊢
    exact e _ _ q
theorem upd_some {F : Hp} {p a : Addr} {o : HO} (h : upd F p o a ≠ none) : F a ≠ none ∨ a = p := by
  by_cases q : a = p
  · exact .inr q
  · rw [upd_ne q] at h
    exact .inl h
theorem post_tup {F H : Hp} {p : Addr} {vs : List V} {ds : List D} (e : Same F H) (h : H p = none) (a : Dvs F vs ds) : Post F H (.sh (.tuple ds)) (upd F p (.tup vs)) (upd H p (.tup vs)) (.ref p) :=
  ⟨same_upd (e.free h), same_upd h, same_upd2 e, fun x q => (upd_some q).imp id (fun z => by rw [z]; exact h), .tup upd_same (a.mono (same_upd (e.free h)))⟩
theorem Post.cln {F G H F' H' : Hp} {r : R} {v : V} (p : Post F H r F' H' v) (g : Same G H) : Cln F G F' := fun a ga fa => by
  rcases p.new a fa with h | h
  · exact h
  · exact absurd (g.free h) ga
theorem Post.rp {F G H F' H' : Hp} {r : R} {v : V} {b : Addr} {σ : L2.St} {ρ : En} (p : Post F H r F' H' v) (h : Rp F G H b σ ρ) : Rp F' G H' b σ ρ :=
  h.grow p.ff p.hh p.fh fun i q o e => by
    obtain ⟨vs, a, f, g⟩ := h.own_some o e
    cases z : F' q with
    | none => rfl
    | some u =>
      rcases p.new q (by rw [z]; exact fun x => nomatch x) with h1 | h1
      · exact absurd f h1
      · rw [a] at h1
        cases h1
theorem Post.rs {F G H F' H' : Hp} {r : R} {v : V} {b : Addr} {σ : L2.St} {ρ : En} (p : Post F H r F' H' v) (h : Rp F G H b σ ρ) : RsOk F' G H' σ ρ v r := by
  have q := p.res
  cases r with
  | sh d => exact q
  | bw i => exact False.elim q
  | fr ds =>
    obtain ⟨a, vs, rfl, n, e, x, f⟩ := q
    refine ⟨a, vs, rfl, e, x, f, h.gh.free n, fun i o z => ?_⟩
    obtain ⟨_, y, _, _⟩ := h.own_some o z
    rw [n] at y
    cases y

/-! ### judgements -/
structure ME (X : Cx) (e : Expr) (m : MR) : Prop where
  ok : PE X e (tM m)
structure MT (X : Cx) (e : Expr) (m : MB) : Prop where
  ok : PT X e (tMB m)
structure MW (X : Cx) (e : Expr) (m : MB) : Prop where
  ok : PW X e (tMB m)

/-! ### slots and constants -/
def mVar (i : Nat) : MR := fun ρ => match ρ[i]? with
  | some (.sh d) => some (.sh d, ρ)
  | some (.own _) => some (.bw i, ρ)
  | some (.io _) => some (.bw i, ρ)
  | _ => none
def mC (d : D) : MR := fun ρ => some (.sh d, ρ)
section
variable {X : Cx} {e a b c : Expr} {pos : Pos} {m ma mb mc : MR} {t u : MB}
theorem me_var {i : Nat} {x : Str} (h : PE X (.Name x pos) (tVar i)) : ME X (.Name x pos) (mVar i) := ⟨h.imq fun σ H Q q => by
  obtain ⟨F, G, b, ρ, hr, r, ρ', e, k⟩ := q
  unfold mVar at e
  cases q : ρ[i]? with
  | none => simp [q] at e
  | some w =>
    have s := hr.slot i w q
    cases w with
    | no => simp [q] at e
    | sh d =>
      simp only [q] at e
      cases e
      obtain ⟨v, a, c⟩ := s
      exact ⟨v, a, k F H v (.refl _) (.refl _ _) hr c⟩
    | own ds =>
      simp only [q] at e
      cases e
      obtain ⟨p, vs, a, _⟩ := s
      exact ⟨.ref p, a, k F H _ (.refl _) (.refl _ _) hr a⟩
    | io ds =>
      simp only [q] at e
      cases e
      obtain ⟨a, _⟩ := s
      exact ⟨.ref b, a, k F H _ (.refl _) (.refl _ _) hr a⟩⟩
theorem me_const {v : V} {d : D} (h : PE X e (tC v)) (hd : ∀ F, Dv F v d) : ME X e (mC d) := ⟨h.imq fun σ H Q q => by
  obtain ⟨F, G, b, ρ, hr, r, ρ', e, k⟩ := q
  cases e
  exact k F H v (.refl _) (.refl _ _) hr (hd F)⟩
theorem me_int {i : Int} {j} : ME X (.Constant (.int i) j pos) (mC (.int i)) := me_const pe_int fun _ => .int _
theorem me_bl {i : Bool} {j} : ME X (.Constant (.bool i) j pos) (mC (.bool i)) := me_const pe_bl fun _ => .bl _
theorem me_non {j} : ME X (.Constant .none j pos) (mC .none) := me_const pe_non fun _ => .non
theorem me_str {i : Str} {j} : ME X (.Constant (.str i) j pos) (mC (.str i)) := me_const pe_str fun _ => .str _

/-! ### operators -/
/-- an operation on two values keeps f -/
def Op2 (r : R2) (f : D → D → Option R) : Prop := ∀ F H v1 v2 d1 d2 k, Same F H → Bd F H v1 d1 → Bd F H v2 d2 → f d1 d2 = some k → ∀ Q : VK, (∀ F' H' v, Post F H k F' H' v → Q v H') → r v1 v2 H Q
def Op1 (r : V → Hp → VK → Prop) (f : D → Option R) : Prop := ∀ F H v1 d1 k, Same F H → Bd F H v1 d1 → f d1 = some k → ∀ Q : VK, (∀ F' H' v, Post F H k F' H' v → Q v H') → r v1 H Q
theorem Op2.or {r r' : R2} {f g k : D → D → Option R} (h : Op2 r f) (h' : Op2 r' g) (e : ∀ a b z, k a b = some z → f a b = some z ∨ g a b = some z) : Op2 (fun x y H Q => r x y H Q ∨ r' x y H Q) k :=
  fun F H v1 v2 d1 d2 z s b1 b2 q Q w => (e d1 d2 z q).imp (fun q => h F H v1 v2 d1 d2 z s b1 b2 q Q w) (fun q => h' F H v1 v2 d1 d2 z s b1 b2 q Q w)
def mBin (f : D → D → Option R) (ma mb : MR) : MR := fun ρ => do
  let (r1, ρ1) ← ma ρ
  let (r2, ρ2) ← mb ρ1
  let d1 ← deref ρ2 r1
  let d2 ← deref ρ2 r2
  let k ← f d1 d2
  some (k, ρ2)
def mUn (f : D → Option R) (ma : MR) : MR := fun ρ => do
  let (r1, ρ1) ← ma ρ
  let d1 ← deref ρ1 r1
  let k ← f d1
  some (k, ρ1)
theorem bind_some {α β : Type} {o : Option α} {f : α → Option β} {z : β} (h : (o >>= f) = some z) : ∃ a, o = some a ∧ f a = some z := by
  cases o with
  | none => cases h
  | some a => exact ⟨a, rfl, h⟩
theorem tM_bin {r : R2} {f : D → D → Option R} (o : Op2 r f) (σ : L2.St) (H : Hp) (Q : VK) (q : tM (mBin f ma mb) σ H Q) : tOp r (tM ma) (tM mb) σ H Q := by
  obtain ⟨F, G, b, ρ, hr, r', ρ', e, k⟩ := q
  obtain ⟨⟨r1, ρ1⟩, e1, e⟩ := bind_some e
  obtain ⟨⟨r2, ρ2⟩, e2, e⟩ := bind_some e
  obtain ⟨d1, e3, e⟩ := bind_some e
  obtain ⟨d2, e4, e⟩ := bind_some e
  obtain ⟨z, e5, e⟩ := bind_some e
  cases e
  refine seq2 hr e1 e2 fun F1 H1 v1 v2 s1 c1 h1 k1 k2 => ?_
  refine o F1 H1 v1 v2 d1 d2 _ h1.fh (k1.bd h1 e3) (k2.bd h1 e4) e5 Q fun F' H' v p => ?_
  exact k F' H' v (s1.trans p.ff) (c1.trans (p.cln h1.gh)) (p.rp h1) (p.rs h1)
theorem tM_un {r : V → Hp → VK → Prop} {f : D → Option R} (o : Op1 r f) (σ : L2.St) (H : Hp) (Q : VK) (q : tM (mUn f ma) σ H Q) : tUn r (tM ma) σ H Q := by
  obtain ⟨F, G, b, ρ, hr, r', ρ', e, k⟩ := q
  obtain ⟨⟨r1, ρ1⟩, e1, e⟩ := bind_some e
  obtain ⟨d1, e3, e⟩ := bind_some e
  obtain ⟨z, e5, e⟩ := bind_some e
  cases e
  refine ⟨F, G, b, ρ, hr, r1, _, e1, fun F1 H1 v1 s1 c1 h1 k1 => ?_⟩
  refine o F1 H1 v1 d1 _ h1.fh (k1.bd h1 e3) e5 Q fun F' H' v p => ?_
  exact k F' H' v (s1.trans p.ff) (c1.trans (p.cln h1.gh)) (p.rp h1) (p.rs h1)
structure BinOk (X : Cx) (op : Operator) (f : D → D → Option R) : Prop where
  ex : ∃ r, OpR X (binaryOp op) r ∧ Op2 r f
theorem me_bin {op : Operator} {f : D → D → Option R} (o : BinOk X op f) (ha : ME X a ma) (hb : ME X b mb) : ME X (.BinOp a op b pos) (mBin f ma mb) := by
  obtain ⟨r, h1, h2⟩ := o.ex
  exact ⟨(pe_op h1 ha.ok hb.ok).imq (tM_bin h2)⟩
structure UnOk (X : Cx) (op : UnaryOp) (f : D → Option R) : Prop where
  ex : ∃ r, UnR X (unaryOp op) r ∧ Op1 r f
theorem me_un {op : UnaryOp} {f : D → Option R} (o : UnOk X op f) (ha : ME X a ma) : ME X (.UnaryOp op a pos) (mUn f ma) := by
  obtain ⟨r, h1, h2⟩ := o.ex
  exact ⟨(pe_un h1 ha.ok).imq (tM_un h2)⟩

/-! comparisons -/
def Op2B (r : R2) (f : D → D → Option Bool) : Prop := ∀ F H v1 v2 d1 d2 k, Same F H → Bd F H v1 d1 → Bd F H v2 d2 → f d1 d2 = some k → ∀ Q : VK, Q (.bl k) H → r v1 v2 H Q
theorem Op2B.or {r r' : R2} {f g k : D → D → Option Bool} (h : Op2B r f) (h' : Op2B r' g) (e : ∀ a b z, k a b = some z → f a b = some z ∨ g a b = some z) : Op2B (fun x y H Q => r x y H Q ∨ r' x y H Q) k :=
  fun F H v1 v2 d1 d2 z s b1 b2 q Q w => (e d1 d2 z q).imp (fun q => h F H v1 v2 d1 d2 z s b1 b2 q Q w) (fun q => h' F H v1 v2 d1 d2 z s b1 b2 q Q w)
def mCmp (f : D → D → Option Bool) (ma mb : MR) : MB := fun ρ => do
  let (r1, ρ1) ← ma ρ
  let (r2, ρ2) ← mb ρ1
  let d1 ← deref ρ2 r1
  let d2 ← deref ρ2 r2
  let k ← f d1 d2
  some (k, ρ2)
/-- a test as a value -/
def mBV (t : MB) : MR := fun ρ => do
  let (k, ρ1) ← t ρ
  some (.sh (.bool k), ρ1)
structure CmpOk (X : Cx) (op : CmpOp) (f : D → D → Option Bool) : Prop where
  ex : ∃ r, OpR X (compareOp op) r ∧ Op2B r f
theorem mt_cmp {op : CmpOp} {f : D → D → Option Bool} (o : CmpOk X op f) (ha : ME X a ma) (hb : ME X b mb) (hm : behindInMarks op b = false) : MT X (.Compare a [op] [b] pos) (mCmp f ma mb) := by
  obtain ⟨r, h1, h2⟩ := o.ex
  refine ⟨(pt_cmpR h1 ha.ok hb.ok hm).imq fun σ H Q q => ?_⟩
  obtain ⟨F, G, b, ρ, hr, r', ρ', e, k⟩ := q
  obtain ⟨⟨r1, ρ1⟩, e1, e⟩ := bind_some e
  obtain ⟨⟨r2, ρ2⟩, e2, e⟩ := bind_some e
  obtain ⟨d1, e3, e⟩ := bind_some e
  obtain ⟨d2, e4, e⟩ := bind_some e
  obtain ⟨z, e5, e⟩ := bind_some e
  cases e
  refine seq2 hr e1 e2 fun F1 H1 v1 v2 s1 c1 g1 k1 k2 => ?_
  exact h2 F1 H1 v1 v2 d1 d2 _ g1.fh (k1.bd g1 e3) (k2.bd g1 e4) e5 _ ⟨_, rfl, k F1 H1 s1 c1 g1⟩
theorem me_cmp {op : CmpOp} {f : D → D → Option Bool} (o : CmpOk X op f) (ha : ME X a ma) (hb : ME X b mb) (hm : behindInMarks op b = false) : ME X (.Compare a [op] [b] pos) (mBV (mCmp f ma mb)) := by
  obtain ⟨r, h1, h2⟩ := o.ex
  refine ⟨(pe_cmpR h1 ha.ok hb.ok hm).imq fun σ H Q q => ?_⟩
  obtain ⟨F, G, b, ρ, hr, r', ρ', e, k⟩ := q
  obtain ⟨⟨kb, ρ3⟩, e0, e⟩ := bind_some e
  cases e
  obtain ⟨⟨r1, ρ1⟩, e1, e⟩ := bind_some e0
  obtain ⟨⟨r2, ρ2⟩, e2, e⟩ := bind_some e
  obtain ⟨d1, e3, e⟩ := bind_some e
  obtain ⟨d2, e4, e⟩ := bind_some e
  obtain ⟨z, e5, e⟩ := bind_some e
  cases e
  refine seq2 hr e1 e2 fun F1 H1 v1 v2 s1 c1 g1 k1 k2 => ?_
  exact h2 F1 H1 v1 v2 d1 d2 _ g1.fh (k1.bd g1 e3) (k2.bd g1 e4) e5 _ (k F1 H1 _ s1 c1 g1 (.bl _))

theorem ite_some {α : Type} {c : Prop} [Decidable c] {a z : α} (h : (if c then some a else none) = some z) : c ∧ a = z := by
  by_cases q : c
  · rw [if_pos q] at h
    exact ⟨q, Option.some.inj h⟩
  · rw [if_neg q] at h
    cases h
/-! ### tests -/
def truD : D → Option Bool
  | .none => some false
  | .bool b => some b
  | .int i => some (i != 0)
  | .str y => if y.length ≤ lim then some ((y.length : Int) != 0) else none
  | .list ds => some (!ds.isEmpty)
  | .tuple ds => some (!ds.isEmpty)
  | .dict _ => none
def mTest (m : MR) : MB := fun ρ => do
  let (r, ρ1) ← m ρ
  let d ← deref ρ1 r
  let k ← truD d
  some (k, ρ1)
theorem empty_of {F : Hp} {vs : List V} {ds : List D} (h : Dvs F vs ds) : vs.isEmpty = ds.isEmpty := by
  cases h <;> rfl
theorem tru_of {K : Fr0} {F H : Hp} {v : V} {d : D} {k : Bool} (s : Same F H) (h : Bd F H v d) (e : truD d = some k) : TruV K v H k := by
  cases d with
  | none => cases e; rw [h.non]; rfl
  | bool b => cases e; rw [h.bl]; rfl
  | int i => cases e; rw [h.int]; rfl
  | str y =>
    rw [h.str]
    obtain ⟨q, e⟩ := ite_some (show (if y.length ≤ lim then some ((y.length : Int) != 0) else none) = some k from e)
    exact ⟨lim_le q, e.symm⟩
  | list ds =>
    cases e
    obtain ⟨p, vs, rfl, a, b⟩ := h.list s
    exact .inl ⟨vs, .of a, by rw [empty_of b]⟩
  | tuple ds =>
    cases e
    obtain ⟨p, vs, rfl, a, b⟩ := h.tup
    exact .inr (.inl ⟨vs, .of (s _ _ a), by rw [empty_of b]⟩)
  | dict _ => cases e
theorem mt_val (ha : ME X a ma) (he : ∀ whole, isTrue a X.env whole = (do let v ← whole; standAt a.pos; holding [v] (truthy v))) : MT X a (mTest ma) := by
  refine ⟨(pt_truth ha.ok he).imq fun σ H Q q => ?_⟩
  obtain ⟨F, G, b, ρ, hr, r', ρ', e, k⟩ := q
  obtain ⟨⟨r1, ρ1⟩, e1, e⟩ := bind_some e
  obtain ⟨d1, e3, e⟩ := bind_some e
  obtain ⟨z, e5, e⟩ := bind_some e
  cases e
  exact ⟨F, G, b, ρ, hr, r1, _, e1, fun F1 H1 v1 s1 c1 h1 k1 => ⟨_, tru_of h1.fh (k1.bd h1 e3) e5, k F1 H1 s1 c1 h1⟩⟩
def mAnd (t u : MB) : MB := fun ρ => do
  let (k, ρ1) ← t ρ
  if k = true then u ρ1 else some (false, ρ1)
def mOr (t u : MB) : MB := fun ρ => do
  let (k, ρ1) ← t ρ
  if k = true then some (true, ρ1) else u ρ1
def mNot (t : MB) : MB := fun ρ => do
  let (k, ρ1) ← t ρ
  some (!k, ρ1)
variable {rest : List Expr}
theorem MW.mt (h : MW X e t) : MT X e t := ⟨h.ok.pt⟩
theorem mw_and1 (h : MT X a t) : MW X (.BoolOp .And [a] pos) t := ⟨pw_and1 h.ok⟩
theorem mw_or1 (h : MT X a t) : MW X (.BoolOp .Or [a] pos) t := ⟨pw_or1 h.ok⟩
theorem mw_and (ha : MT X a t) (hb : MW X (.BoolOp .And (b :: rest) pos) u) : MW X (.BoolOp .And (a :: b :: rest) pos) (mAnd t u) := ⟨(pw_and ha.ok hb.ok).imq fun σ H Q q => by
  obtain ⟨F, G, b, ρ, hr, r', ρ', e, k⟩ := q
  obtain ⟨⟨k1, ρ1⟩, e1, e⟩ := bind_some e
  refine ⟨F, G, b, ρ, hr, k1, ρ1, e1, fun F1 H1 s1 c1 h1 => ?_⟩
  cases k1 with
  | true => exact ⟨F1, G, b, ρ1, h1, r', ρ', e, fun F2 H2 s2 c2 h2 => k F2 H2 (s1.trans s2) (c1.trans c2) h2⟩
  | false =>
    cases e
    exact k F1 H1 s1 c1 h1⟩
theorem mw_or (ha : MT X a t) (hb : MW X (.BoolOp .Or (b :: rest) pos) u) : MW X (.BoolOp .Or (a :: b :: rest) pos) (mOr t u) := ⟨(pw_or ha.ok hb.ok).imq fun σ H Q q => by
  obtain ⟨F, G, b, ρ, hr, r', ρ', e, k⟩ := q
  obtain ⟨⟨k1, ρ1⟩, e1, e⟩ := bind_some e
  refine ⟨F, G, b, ρ, hr, k1, ρ1, e1, fun F1 H1 s1 c1 h1 => ?_⟩
  cases k1 with
  | false => exact ⟨F1, G, b, ρ1, h1, r', ρ', e, fun F2 H2 s2 c2 h2 => k F2 H2 (s1.trans s2) (c1.trans c2) h2⟩
  | true =>
    cases e
    exact k F1 H1 s1 c1 h1⟩
theorem mt_not (ha : MT X a t) : MT X (.UnaryOp .Not a pos) (mNot t) := ⟨(pt_not ha.ok).imq fun σ H Q q => by
  obtain ⟨F, G, b, ρ, hr, r', ρ', e, k⟩ := q
  obtain ⟨⟨k1, ρ1⟩, e1, e⟩ := bind_some e
  cases e
  exact ⟨F, G, b, ρ, hr, k1, _, e1, fun F1 H1 s1 c1 h1 => k F1 H1 s1 c1 h1⟩⟩
/-- values that are bools -/
def mAndV (ma mb : MR) : MR := fun ρ => do
  let (r, ρ1) ← ma ρ
  match r with
  | .sh (.bool true) => mb ρ1
  | .sh (.bool false) => some (.sh (.bool false), ρ1)
  | _ => none
def mOrV (ma mb : MR) : MR := fun ρ => do
  let (r, ρ1) ← ma ρ
  match r with
  | .sh (.bool false) => mb ρ1
  | .sh (.bool true) => some (.sh (.bool true), ρ1)
  | _ => none
theorem me_one {op} (h : ME X a m) : ME X (.BoolOp op [a] pos) m := ⟨pe_one h.ok⟩
theorem me_and (ha : ME X a ma) (hb : ME X (.BoolOp .And (b :: rest) pos) mb) : ME X (.BoolOp .And (a :: b :: rest) pos) (mAndV ma mb) := ⟨(pe_and ha.ok hb.ok).imq fun σ H Q q => by
  obtain ⟨F, G, b, ρ, hr, r', ρ', e, k⟩ := q
  obtain ⟨⟨k1, ρ1⟩, e1, e⟩ := bind_some e
  refine ⟨F, G, b, ρ, hr, k1, ρ1, e1, fun F1 H1 v1 s1 c1 h1 w1 => ?_⟩
  match k1, w1, e with
  | .sh (.bool true), w1, e =>
    cases (show Dv F1 v1 (.bool true) from w1)
    exact ⟨true, rfl, F1, G, b, ρ1, h1, r', ρ', e, fun F2 H2 v2 s2 c2 h2 => k F2 H2 v2 (s1.trans s2) (c1.trans c2) h2⟩
  | .sh (.bool false), w1, e =>
    cases (show Dv F1 v1 (.bool false) from w1)
    cases e
    exact ⟨false, rfl, k F1 H1 _ s1 c1 h1 (.bl _)⟩⟩
theorem me_or (ha : ME X a ma) (hb : ME X (.BoolOp .Or (b :: rest) pos) mb) : ME X (.BoolOp .Or (a :: b :: rest) pos) (mOrV ma mb) := ⟨(pe_or ha.ok hb.ok).imq fun σ H Q q => by
  obtain ⟨F, G, b, ρ, hr, r', ρ', e, k⟩ := q
  obtain ⟨⟨k1, ρ1⟩, e1, e⟩ := bind_some e
  refine ⟨F, G, b, ρ, hr, k1, ρ1, e1, fun F1 H1 v1 s1 c1 h1 w1 => ?_⟩
  match k1, w1, e with
  | .sh (.bool false), w1, e =>
    cases (show Dv F1 v1 (.bool false) from w1)
    exact ⟨false, rfl, F1, G, b, ρ1, h1, r', ρ', e, fun F2 H2 v2 s2 c2 h2 => k F2 H2 v2 (s1.trans s2) (c1.trans c2) h2⟩
  | .sh (.bool true), w1, e =>
    cases (show Dv F1 v1 (.bool true) from w1)
    cases e
    exact ⟨true, rfl, k F1 H1 _ s1 c1 h1 (.bl _)⟩⟩
def mNotV (ma : MR) : MR := fun ρ => do
  let (r, ρ1) ← ma ρ
  match r with
  | .sh (.bool k) => some (.sh (.bool (!k)), ρ1)
  | _ => none
theorem me_not (ha : ME X a ma) : ME X (.UnaryOp .Not a pos) (mNotV ma) := ⟨(pe_not ha.ok).imq fun σ H Q q => by
  obtain ⟨F, G, b, ρ, hr, r', ρ', e, k⟩ := q
  obtain ⟨⟨k1, ρ1⟩, e1, e⟩ := bind_some e
  refine ⟨F, G, b, ρ, hr, k1, ρ1, e1, fun F1 H1 v1 s1 c1 h1 w1 => ?_⟩
  match k1, w1, e with
  | .sh (.bool z), w1, e =>
    cases (show Dv F1 v1 (.bool z) from w1)
    cases e
    exact ⟨z, rfl, k F1 H1 _ s1 c1 h1 (.bl _)⟩⟩
def mIf (t : MB) (ma mb : MR) : MR := fun ρ => do
  let (k, ρ1) ← t ρ
  if k = true then ma ρ1 else mb ρ1
theorem me_if (hc : MT X c t) (ha : ME X a ma) (hb : ME X b mb) : ME X (.IfExp c a b pos) (mIf t ma mb) := ⟨(pe_ifExp hc.ok ha.ok hb.ok).imq fun σ H Q q => by
  obtain ⟨F, G, b, ρ, hr, r', ρ', e, k⟩ := q
  obtain ⟨⟨k1, ρ1⟩, e1, e⟩ := bind_some e
  refine ⟨F, G, b, ρ, hr, k1, ρ1, e1, fun F1 H1 s1 c1 h1 => ?_⟩
  cases k1 with
  | true => exact ⟨F1, G, b, ρ1, h1, r', ρ', e, fun F2 H2 v2 s2 c2 h2 => k F2 H2 v2 (s1.trans s2) (c1.trans c2) h2⟩
  | false => exact ⟨F1, G, b, ρ1, h1, r', ρ', e, fun F2 H2 v2 s2 c2 h2 => k F2 H2 v2 (s1.trans s2) (c1.trans c2) h2⟩⟩

/-! ### captured: a result becomes shared data -/
def cap (ρ : En) : R → Option (D × En)
  | .sh d => some (d, ρ)
  | .fr ds => some (.list ds, ρ)
  | .bw i => match ρ[i]? with
    | some (.own ds) => some (.list ds, ρ.set i (.sh (.list ds)))
    | some (.sh d) => some (d, ρ)
    | _ => none
theorem own_set {ρ : En} {i j : Nat} {d : D} (h : OwnAt (ρ.set i (.sh d)) j) : OwnAt ρ j ∧ j ≠ i := by
  by_cases q : j = i
  · subst q
    rcases h with ⟨ds, e⟩ | ⟨ds, e⟩
    · by_cases hl : j < ρ.length
      · rw [List.getElem?_set_self hl] at e; cases e
      · rw [List.getElem?_eq_none (by rw [List.length_set]; omega)] at e; cases e
    · by_cases hl : j < ρ.length
      · rw [List.getElem?_set_self hl] at e; cases e
      · rw [List.getElem?_eq_none (by rw [List.length_set]; omega)] at e; cases e
  · rcases h with ⟨ds, e⟩ | ⟨ds, e⟩
    · rw [List.getElem?_set_ne (Ne.symm q)] at e
      exact ⟨.inl ⟨ds, e⟩, q⟩
    · rw [List.getElem?_set_ne (Ne.symm q)] at e
      exact ⟨.inr ⟨ds, e⟩, q⟩
theorem cap_ok {F G H : Hp} {b : Addr} {σ : L2.St} {ρ ρ' : En} {v : V} {r : R} {d : D} (h : Rp F G H b σ ρ) (k : RsOk F G H σ ρ v r) (e : cap ρ r = some (d, ρ')) :
    ∃ F', Same F F' ∧ Cln F G F' ∧ Rp F' G H b σ ρ' ∧ Dv F' v d := by
  cases r with
  | sh d' =>
    cases e
    exact ⟨F, .refl _, .refl _ _, h, k⟩
  | fr ds =>
    cases e
    obtain ⟨p, vs, rfl, a, x, f, g, n⟩ := k
    have s1 : Same F (upd F p (.lst vs)) := same_upd f
    refine ⟨upd F p (.lst vs), s1, fun z gz fz => (upd_some fz).elim id fun w => absurd (w ▸ g) gz, h.grow s1 (.refl _) (fun z o q => ?_) (fun i p' o q => ?_), .lst upd_same (x.mono s1)⟩
    · by_cases hz : z = p
      · subst hz
        rw [upd_same] at q
        rw [a, q]
      · rw [upd_ne hz] at q
        exact h.fh _ _ q
    · obtain ⟨_, _, f', _⟩ := h.own_some o q
      rw [upd_ne (show p' ≠ p from fun z => n i o (by rw [← z]; exact q))]
      exact f'
  | bw i =>
    have k' : σ[i]? = some (some v) := k
    unfold cap at e
    cases q : ρ[i]? with
    | none => simp [q] at e
    | some w =>
      have s := h.slot i w q
      cases w with
      | no => simp [q] at e
      | io ds => simp [q] at e
      | sh d' =>
        simp only [q] at e
        cases e
        obtain ⟨v', a, c⟩ := s
        rw [k'] at a
        cases a
        exact ⟨F, .refl _, .refl _ _, h, c⟩
      | own ds =>
        simp only [q] at e
        cases e
        obtain ⟨p, vs, a, c, x, f, g⟩ := s
        rw [k'] at a
        cases a
        have s1 : Same F (upd F p (.lst vs)) := same_upd f
        have dvl : Dv (upd F p (.lst vs)) (.ref p) (.list ds) := .lst upd_same (x.mono s1)
        refine ⟨upd F p (.lst vs), s1, fun z gz fz => (upd_some fz).elim id fun w => absurd (w ▸ g) gz, ⟨fun z o q' => ?_, h.gh, by rw [List.length_set]; exact h.len, fun j m qj => ?_, fun i1 j1 p1 o1 o2 => h.ne i1 j1 p1 (own_set o1).1 (own_set o2).1⟩, dvl⟩
        · by_cases hz : z = p
          · subst hz
            rw [upd_same] at q'
            rw [c, q']
          · rw [upd_ne hz] at q'
            exact h.fh _ _ q'
        · by_cases hj : j = i
          · subst hj
            have hl : j < ρ.length := (List.getElem?_eq_some_iff.mp q).1
            rw [List.getElem?_set_self hl] at qj
            cases qj
            exact ⟨_, k', dvl⟩
          · rw [List.getElem?_set_ne (Ne.symm hj)] at qj
            have sj := h.slot j m qj
            have np : ∀ p', OwnAt ρ j → σ[j]? = some (some (.ref p')) → p' ≠ p := fun p' oj ej z => hj (h.ne j i p oj (.inl ⟨ds, q⟩) (z ▸ ej) k')
            cases m with
            | no => trivial
            | sh d1 =>
              obtain ⟨v1, a1, c1⟩ := sj
              exact ⟨v1, a1, c1.mono s1⟩
            | own ds1 =>
              obtain ⟨p1, vs1, a1, c1, x1, f1, g1⟩ := sj
              exact ⟨p1, vs1, a1, c1, x1.mono s1, by rw [upd_ne (np p1 (.inl ⟨ds1, qj⟩) a1)]; exact f1, g1⟩
            | io ds1 =>
              obtain ⟨a1, vs1, c1, x1, f1, g1⟩ := sj
              exact ⟨a1, vs1, c1, x1.mono s1, by rw [upd_ne (np b (.inr ⟨ds1, qj⟩) a1)]; exact f1, g1⟩

/-! ### lists of expressions, each captured -/
abbrev MA := En → Option (List D × En)
def tMA (m : MA) : TA := fun σ H Q => ∃ F G b ρ, Rp F G H b σ ρ ∧ ∃ ds ρ', m ρ = some (ds, ρ') ∧ ∀ F' H' vs, Same F F' → Cln F G F' → Rp F' G H' b σ ρ' → Dvs F' vs ds → Q vs H'
structure MAs (X : Cx) (es : List Expr) (m : MA) : Prop where
  ok : PA X es (tMA m)
def aNil : MA := fun ρ => some ([], ρ)
def mCap (m : MR) : En → Option (D × En) := fun ρ => do
  let (r, ρ1) ← m ρ
  cap ρ1 r
def aCons (m : MR) (ms : MA) : MA := fun ρ => do
  let (d, ρ1) ← mCap m ρ
  let (ds, ρ2) ← ms ρ1
  some (d :: ds, ρ2)
theorem ma_nil : MAs X [] aNil := ⟨pa_nil.imq fun σ H Q q => by
  obtain ⟨F, G, b, ρ, hr, ds, ρ', e, k⟩ := q
  cases e
  exact k F H [] (.refl _) (.refl _ _) hr .nil⟩
theorem ma_cons {es : List Expr} {ms : MA} (ha : ME X e m) (hr : MAs X es ms) (hs : starEach (e :: es) X.env = (false, eval e X.env) :: starEach es X.env := by rfl) : MAs X (e :: es) (aCons m ms) := ⟨(pa_cons ha.ok hr.ok hs).imq fun σ H Q q => by
  obtain ⟨F, G, b, ρ, h0, ds, ρ', e, k⟩ := q
  obtain ⟨⟨d, ρ1⟩, e1, e⟩ := bind_some e
  obtain ⟨⟨ds2, ρ2⟩, e2, e⟩ := bind_some e
  cases e
  obtain ⟨⟨r, ρ0⟩, e0, e1⟩ := bind_some e1
  refine ⟨F, G, b, ρ, h0, r, ρ0, e0, fun F1 H1 v1 s1 c1 h1 k1 => ?_⟩
  obtain ⟨F2, s2, c2, h2, dv⟩ := cap_ok h1 k1 e1
  exact ⟨F2, G, b, ρ1, h2, ds2, ρ', e2, fun F3 H3 vs s3 c3 h3 dvs => k F3 H3 _ (s1.trans (s2.trans s3)) (c1.trans (c2.trans c3)) h3 (.cons (dv.mono s3) dvs)⟩⟩
def mTup (ms : MA) : MR := fun ρ => do
  let (ds, ρ1) ← ms ρ
  if ds.length ≤ lim then some (.sh (.tuple ds), ρ1) else none
def mLst (ms : MA) : MR := fun ρ => do
  let (ds, ρ1) ← ms ρ
  if ds.length ≤ lim then some (.fr ds, ρ1) else none
theorem me_tup {es : List Expr} {ms : MA} {x1} (h : MAs X es ms) : ME X (.Tuple es x1 pos) (mTup ms) := ⟨(pe_tup h.ok).imq fun σ H Q q => by
  obtain ⟨F, G, b, ρ, h0, ds, ρ', e, k⟩ := q
  obtain ⟨⟨ds1, ρ1⟩, e1, e⟩ := bind_some e
  obtain ⟨hl, e⟩ := ite_some e
  cases e
  refine ⟨F, G, b, ρ, h0, ds1, _, e1, fun F1 H1 vs s1 c1 h1 dvs => ⟨by rw [dvs.len]; exact lim_le hl, fun p hp => ?_⟩⟩
  have P := post_tup h1.fh hp dvs
  exact k _ _ _ (s1.trans P.ff) (c1.trans (P.cln h1.gh)) (P.rp h1) (P.rs h1)⟩
theorem me_lst {es : List Expr} {ms : MA} (h : MAs X es ms) : ME X (.List es pos) (mLst ms) := ⟨(pe_lst h.ok).imq fun σ H Q q => by
  obtain ⟨F, G, b, ρ, h0, ds, ρ', e, k⟩ := q
  obtain ⟨⟨ds1, ρ1⟩, e1, e⟩ := bind_some e
  obtain ⟨hl, e⟩ := ite_some e
  cases e
  refine ⟨F, G, b, ρ, h0, ds1, _, e1, fun F1 H1 vs s1 c1 h1 dvs => ⟨by rw [dvs.len]; exact lim_le hl, fun p hp => ?_⟩⟩
  have P := post_fr h1.fh hp dvs
  exact k _ _ _ (s1.trans P.ff) (c1.trans (P.cln h1.gh)) (P.rp h1) (P.rs h1)⟩
end
end Mi
set_option Elab.async false
set_option linter.all false
set_option maxRecDepth 100000
/-! Core3: targets, what is walked, comprehensions, statements, loops. -/
namespace Mi
open PySem PySem.Spec PyProof.Rows L2
variable [KK]

/-! ### slots stored -/
section
variable {F G H : Hp} {b : Addr} {σ : L2.St} {ρ : En} {v : V} {d : D} {i : Nat}
/-- slot i holds no list that was handed in -/
def free1 (ρ : En) (i : Nat) : Bool := match ρ[i]? with
  | some (.io _) => false
  | some _ => true
  | none => false
theorem get_set {α : Type} {l : List α} {i j : Nat} {x m : α} (h : (l.set i x)[j]? = some m) : (j = i ∧ m = x) ∨ (j ≠ i ∧ l[j]? = some m) := by
  by_cases q : j = i
  · subst q
    by_cases hl : j < l.length
    · rw [List.getElem?_set_self hl] at h
      exact .inl ⟨rfl, (Option.some.inj h).symm⟩
    · rw [List.getElem?_eq_none (by rw [List.length_set]; omega)] at h
      cases h
  · rw [List.getElem?_set_ne (Ne.symm q)] at h
    exact .inr ⟨q, h⟩
theorem free1_lt (h : free1 ρ i = true) : i < ρ.length := by
  unfold free1 at h
  by_cases q : i < ρ.length
  · exact q
  · rw [List.getElem?_eq_none (by omega)] at h
    cases h
theorem own_set2 {m : M} {j : Nat} (h : OwnAt (ρ.set i m) j) : (j = i ∧ ((∃ ds, m = .own ds) ∨ ∃ ds, m = .io ds)) ∨ (j ≠ i ∧ OwnAt ρ j) := by
  rcases h with ⟨ds, e⟩ | ⟨ds, e⟩
  · rcases get_set e with ⟨a, b⟩ | ⟨a, b⟩
    · exact .inl ⟨a, .inl ⟨ds, b.symm⟩⟩
    · exact .inr ⟨a, .inl ⟨ds, b⟩⟩
  · rcases get_set e with ⟨a, b⟩ | ⟨a, b⟩
    · exact .inl ⟨a, .inr ⟨ds, b.symm⟩⟩
    · exact .inr ⟨a, .inr ⟨ds, b⟩⟩
theorem SlotOk.at {σ' : L2.St} {i : Nat} {m : M} (h : SlotOk F G H b σ i m) (e : σ'[i]? = σ[i]?) : SlotOk F G H b σ' i m := by
  cases m with
  | no => trivial
  | sh d =>
    obtain ⟨v, a, c⟩ := h
    exact ⟨v, e.trans a, c⟩
  | own ds =>
    obtain ⟨p, vs, a, c⟩ := h
    exact ⟨p, vs, e.trans a, c⟩
  | io ds =>
    obtain ⟨a, c⟩ := h
    exact ⟨e.trans a, c⟩
/-- a slot gets shared data -/
theorem Rp.setSh (h : Rp F G H b σ ρ) (hi : i < ρ.length) (dv : Dv F v d) : Rp F G H b (σ.set i (some v)) (ρ.set i (.sh d)) := by
  have hiσ : i < σ.length := by rw [← h.len]; exact hi
  refine ⟨h.fh, h.gh, by rw [List.length_set, List.length_set]; exact h.len, fun j m q => ?_, fun j k p oj ok ej ek => ?_⟩
  · rcases get_set q with ⟨rfl, rfl⟩ | ⟨hj, q⟩
    · exact ⟨v, List.getElem?_set_self hiσ, dv⟩
    · exact (h.slot j m q).at (List.getElem?_set_ne (Ne.symm hj))
  · rcases own_set2 oj with ⟨_, ⟨_, z⟩ | ⟨_, z⟩⟩ | ⟨hj, oj⟩
    · cases z
    · cases z
    · rcases own_set2 ok with ⟨_, ⟨_, z⟩ | ⟨_, z⟩⟩ | ⟨hk, ok⟩
      · cases z
      · cases z
      · rw [List.getElem?_set_ne (Ne.symm hj)] at ej
        rw [List.getElem?_set_ne (Ne.symm hk)] at ek
        exact h.ne j k p oj ok ej ek
/-- a slot gets a new list of its own -/
theorem Rp.setOwn {p : Addr} {vs : List V} {ds : List D} (h : Rp F G H b σ ρ) (hi : i < ρ.length) (a : H p = some (.lst vs)) (x : Dvs F vs ds) (f : F p = none) (g : G p = none) (n : ∀ j, OwnAt ρ j → σ[j]? ≠ some (some (.ref p))) :
    Rp F G H b (σ.set i (some (.ref p))) (ρ.set i (.own ds)) := by
  have hiσ : i < σ.length := by rw [← h.len]; exact hi
  refine ⟨h.fh, h.gh, by rw [List.length_set, List.length_set]; exact h.len, fun j m q => ?_, fun j k p' oj ok ej ek => ?_⟩
  · rcases get_set q with ⟨rfl, rfl⟩ | ⟨hj, q⟩
    · exact ⟨p, vs, List.getElem?_set_self hiσ, a, x, f, g⟩
    · exact (h.slot j m q).at (List.getElem?_set_ne (Ne.symm hj))
  · rcases own_set2 oj with ⟨ej', _⟩ | ⟨hj, oj'⟩
    · rcases own_set2 ok with ⟨ek', _⟩ | ⟨hk, ok'⟩
      · rw [ej', ek']
      · subst ej'
        rw [List.getElem?_set_self hiσ] at ej
        cases ej
        rw [List.getElem?_set_ne (Ne.symm hk)] at ek
        exact absurd ek (n k ok')
    · rcases own_set2 ok with ⟨ek', _⟩ | ⟨hk, ok'⟩
      · subst ek'
        rw [List.getElem?_set_self hiσ] at ek
        cases ek
        rw [List.getElem?_set_ne (Ne.symm hj)] at ej
        exact absurd ej (n j oj')
      · rw [List.getElem?_set_ne (Ne.symm hj)] at ej
        rw [List.getElem?_set_ne (Ne.symm hk)] at ek
        exact h.ne j k p' oj' ok' ej ek
end
/-- a result is stored in slot i -/
def asg (ρ : En) (i : Nat) : R → Option En
  | .fr ds => if free1 ρ i = true then some (ρ.set i (.own ds)) else none
  | r => do
    let (d, ρ1) ← cap ρ r
    if free1 ρ1 i = true then some (ρ1.set i (.sh d)) else none
theorem asg_ok {F G H : Hp} {b : Addr} {σ : L2.St} {ρ ρ' : En} {v : V} {r : R} {i : Nat} (h : Rp F G H b σ ρ) (k : RsOk F G H σ ρ v r) (e : asg ρ i r = some ρ') :
    ∃ F', Same F F' ∧ Cln F G F' ∧ Rp F' G H b (σ.set i (some v)) ρ' := by
  have sh : ∀ r, RsOk F G H σ ρ v r → (do let (d, ρ1) ← cap ρ r; if free1 ρ1 i = true then some (ρ1.set i (.sh d)) else none) = some ρ' → ∃ F', Same F F' ∧ Cln F G F' ∧ Rp F' G H b (σ.set i (some v)) ρ' := fun r k e => by
    obtain ⟨⟨d, ρ1⟩, e1, e⟩ := bind_some e
    obtain ⟨hf, e⟩ := ite_some e
    cases e
    obtain ⟨F', s1, c1, h1, dv⟩ := cap_ok h k e1
    exact ⟨F', s1, c1, h1.setSh (free1_lt hf) dv⟩
  cases r with
  | sh d => exact sh _ k e
  | bw j => exact sh _ k e
  | fr ds =>
    obtain ⟨hf, e⟩ := ite_some (show (if free1 ρ i = true then some (ρ.set i (.own ds)) else none) = some ρ' from e)
    cases e
    obtain ⟨p, vs, rfl, a, x, f, g, n⟩ := k
    exact ⟨F, .refl _, .refl _ _, h.setOwn (free1_lt hf) a x f g n⟩

/-! ### targets of loops -/
theorem wipe_ne {σ : L2.St} {i : Nat} : ∀ {vs : List Nat}, i ∉ vs → (wipe σ vs)[i]? = σ[i]?
  | [], _ => rfl
  | v :: vs, h => by
    unfold wipe
    have h1 : v ≠ i := fun z => h (by rw [z]; exact List.mem_cons_self)
    rw [List.getElem?_set_ne h1]
    exact wipe_ne fun z => h (List.mem_cons_of_mem _ z)
theorem wipe_in {σ : L2.St} {i : Nat} : ∀ {vs : List Nat}, i ∈ vs → i < σ.length → (wipe σ vs)[i]? = some none
  | v :: vs, h, hl => by
    unfold wipe
    by_cases q : v = i
    · subst q
      exact List.getElem?_set_self (by rw [wipe_length]; exact hl)
    · rw [List.getElem?_set_ne q]
      refine wipe_in ?_ hl
      rcases List.mem_cons.mp h with z | z
      · exact absurd z.symm q
      · exact z
theorem wipe_set {σ : L2.St} {i : Nat} {o : Option V} {vs : List Nat} (h : i ∈ vs) : wipe (σ.set i o) vs = wipe σ vs := by
  apply List.ext_getElem?
  intro j
  by_cases q : j ∈ vs
  · by_cases hl : j < σ.length
    · rw [wipe_in q hl, wipe_in q (by rw [List.length_set]; exact hl)]
    · rw [List.getElem?_eq_none (by rw [wipe_length, List.length_set]; omega), List.getElem?_eq_none (by rw [wipe_length]; omega)]
  · rw [wipe_ne q, wipe_ne q, List.getElem?_set_ne]
    intro z
    exact q (z ▸ h)
abbrev MG := D → En → Option En
def tMG (g : MG) (ws : List Nat) : TG := fun v σ H Q => ∃ F G b ρ d, Rp F G H b σ ρ ∧ Dv F v d ∧ ∃ ρ', g d ρ = some ρ' ∧ ∀ σ', Rp F G H b σ' ρ' → (∀ vs, (∀ i ∈ ws, i ∈ vs) → wipe σ' vs = wipe σ vs) → Q σ' H
structure MGt (X : Cx) (tg : Expr) (g : MG) (ws : List Nat) : Prop where
  ok : PG X tg (tMG g ws)
def gNm (i : Nat) : MG := fun d ρ => if free1 ρ i = true then some (ρ.set i (.sh d)) else none
theorem _root_.L2.PG.imq {X : Cx} {e : Expr} {t t' : TG} (h : PG X e t) (i : ∀ v σ H Q, t' v σ H Q → t v σ H Q) : PG X e t' := ⟨fun pins s σ H v u Q I r q => h.run pins s σ H v u Q I r (i v σ H Q q)⟩
theorem _root_.L2.PI.imq {X : Cx} {tg e : Expr} {t t' : TI} (h : PI X tg e t) (i : ∀ σ H Q, t' σ H Q → t σ H Q) : PI X tg e t' := ⟨fun pins s σ H R I q => h.run pins s σ H R I (i σ H R q)⟩
section
variable {X : Cx} {e a b c tg : Expr} {pos : Pos} {m ma mb mc : MR} {t u : MB}
theorem mg_name {i : Nat} {x : Str} (h : PG X (.Name x pos) (gName i)) : MGt X (.Name x pos) (gNm i) [i] := ⟨h.imq fun v σ H Q q => by
  obtain ⟨F, G, b, ρ, d, hr, dv, ρ', e, k⟩ := q
  obtain ⟨hf, e⟩ := ite_some e
  cases e
  exact k _ (hr.setSh (free1_lt hf) dv) fun vs hv => wipe_set (hv i (by simp))⟩
abbrev MGs' := List D → En → Option En
def tMGs (g : MGs') (ws : List Nat) : TGs := fun vs σ H Q => ∃ F G b ρ ds, Rp F G H b σ ρ ∧ Dvs F vs ds ∧ ∃ ρ', g ds ρ = some ρ' ∧ ∀ σ', Rp F G H b σ' ρ' → (∀ vs, (∀ i ∈ ws, i ∈ vs) → wipe σ' vs = wipe σ vs) → Q σ' H
structure MGts (X : Cx) (tg : List Expr) (g : MGs') (ws : List Nat) : Prop where
  ok : PGs X tg (tMGs g ws)
def gNil' : MGs' := fun ds ρ => match ds with
  | [] => some ρ
  | _ :: _ => none
def gCons' (g : MG) (gs : MGs') : MGs' := fun ds ρ => match ds with
  | [] => none
  | d :: r => do
    let ρ1 ← g d ρ
    gs r ρ1
theorem _root_.L2.PGs.imq {X : Cx} {e : List Expr} {t t' : TGs} (h : PGs X e t) (i : ∀ v σ H Q, t' v σ H Q → t v σ H Q) : PGs X e t' := ⟨fun pins s σ H v u Q I r q => h.run pins s σ H v u Q I r (i v σ H Q q)⟩
theorem mgs_nil : MGts X [] gNil' [] := ⟨pgs_nil.imq fun vs σ H Q q => by
  obtain ⟨F, G, b, ρ, ds, hr, dv, ρ', e, k⟩ := q
  cases dv with
  | nil =>
    cases e
    exact ⟨rfl, k σ hr fun _ _ => rfl⟩
  | cons _ _ => cases e⟩
theorem mgs_cons {es : List Expr} {g : MG} {gs : MGs'} {w1 w2 : List Nat} (h1 : MGt X e g w1) (h2 : MGts X es gs w2) (hs : (assignEach (e :: es) X.env).map (·.2) = assign e X.env :: (assignEach es X.env).map (·.2) := by rfl) : MGts X (e :: es) (gCons' g gs) (w1 ++ w2) :=
  ⟨(pgs_cons h1.ok h2.ok hs).imq fun vs σ H Q q => by
    obtain ⟨F, G, b, ρ, ds, hr, dv, ρ', e, k⟩ := q
    cases dv with
    | nil => cases e
    | cons dv dvs =>
      obtain ⟨ρ1, e1, e2⟩ := bind_some e
      refine ⟨_, _, rfl, F, G, b, ρ, _, hr, dv, ρ1, e1, fun σ1 hr1 w1' => ?_⟩
      refine ⟨F, G, b, ρ1, _, hr1, dvs, ρ', e2, fun σ2 hr2 w2' => k σ2 hr2 fun vs hv => ?_⟩
      rw [w2' vs fun i hi => hv i (List.mem_append_right _ hi), w1' vs fun i hi => hv i (List.mem_append_left _ hi)]⟩
def gTp (n : Nat) (gs : MGs') : MG := fun d ρ => match d with
  | .tuple ds => if ds.length = n then gs ds ρ else none
  | _ => none
theorem ite_some' {α : Type} {c : Prop} [Decidable c] {a : Option α} {z : α} (h : (if c then a else none) = some z) : c ∧ a = some z := by
  by_cases q : c
  · rw [if_pos q] at h
    exact ⟨q, h⟩
  · rw [if_neg q] at h
    cases h
theorem mg_tup {es : List Expr} {k n : Nat} {gs : MGs'} {ws : List Nat} (hc : X.calm = true) (h : MGts X es gs ws) (hn : (assignEach es X.env).length = n := by rfl) (hst : (assignEach es X.env).findIdx? (·.1) = none := by rfl) : MGt X (.Tuple es k pos) (gTp n gs) ws :=
  ⟨(pg_tup hc h.ok hn hst).imq fun v σ H Q q => by
    obtain ⟨F, G, b, ρ, d, hr, dv, ρ', e, k⟩ := q
    cases dv with
    | tup hx dvs =>
      obtain ⟨hl, e⟩ := ite_some' (show (if _ = n then gs _ ρ else none) = some ρ' from e)
      exact ⟨_, _, rfl, .of (hr.fh _ _ hx), by rw [dvs.len]; exact hl, F, G, b, ρ, _, hr, dvs, ρ', e, k⟩
    | non => cases e
    | bl _ => cases e
    | int _ => cases e
    | str _ => cases e
    | lst _ _ => cases e
    | frz _ _ => cases e⟩

/-! ### what is walked -/
structure Wk (J : It) (F : Hp) (ds : List D) : Prop where
  go : ∀ i H, i < ds.length → Same F H → J.go i H
  stop : ∀ H, Same F H → J.stop ds.length H
  yld : ∀ i F1 H x H', i < ds.length → Same F F1 → Same F1 H → J.yld i H x H' → ∃ F2 d, ds[i]? = some d ∧ Post F1 H (.sh d) F2 H' x
abbrev MI := En → Option (List D × En)
def tMI (m : MI) : TI := fun σ H R => ∃ F G b ρ, Rp F G H b σ ρ ∧ ∃ ds ρ', m ρ = some (ds, ρ') ∧ ∀ F' H' J, Same F F' → Cln F G F' → Rp F' G H' b σ ρ' → Wk J F' ds → R J H'
structure MIt (X : Cx) (tg e : Expr) (m : MI) : Prop where
  ok : PI X tg e (tMI m)
def charsD (z : Str) : List D := z.cps.toList.map fun c => .str ⟨#[c]⟩
def itemsD : D → Option (List D)
  | .list ds => some ds
  | .tuple ds => some ds
  | .str z => some (charsD z)
  | _ => none
def mIter (m : MR) : MI := fun ρ => do
  let (d, ρ1) ← mCap m ρ
  let ds ← itemsD d
  some (ds, ρ1)
theorem wk_list {K : Fr0} {F : Hp} {p : Addr} {vs : List V} {ds : List D} (h : F p = some (.lst vs)) (a : Dvs F vs ds) : Wk (Itl K p) F ds := by
  refine ⟨fun i H hi s => ?_, fun H s => ⟨vs, .of (s _ _ h), by rw [a.len]; exact Nat.le_refl _⟩, fun i F1 H x H' hi s1 s2 y => ?_⟩
  · have hv : i < vs.length := by rw [a.len]; exact hi
    exact ⟨vs, vs[i], .of (s _ _ h), List.getElem?_eq_getElem hv⟩
  · obtain ⟨rfl, y⟩ := y
    obtain ⟨v, e1, dv⟩ := a.get (List.getElem?_eq_getElem hi)
    have e2 := y vs (.of (s2 _ _ (s1 _ _ h)))
    rw [e1] at e2
    cases e2
    exact ⟨F1, _, List.getElem?_eq_getElem hi, post_sh s2 (dv.mono s1)⟩
theorem wk_tup {K : Fr0} {F : Hp} {p : Addr} {vs : List V} {ds : List D} (h : F p = some (.tup vs)) (a : Dvs F vs ds) : Wk (Itt K p) F ds := by
  refine ⟨fun i H hi s => ?_, fun H s => ⟨vs, .of (s _ _ h), by rw [a.len]; exact Nat.le_refl _⟩, fun i F1 H x H' hi s1 s2 y => ?_⟩
  · have hv : i < vs.length := by rw [a.len]; exact hi
    exact ⟨vs, vs[i], .of (s _ _ h), List.getElem?_eq_getElem hv⟩
  · obtain ⟨rfl, y⟩ := y
    obtain ⟨v, e1, dv⟩ := a.get (List.getElem?_eq_getElem hi)
    have e2 := y vs (.of (s2 _ _ (s1 _ _ h)))
    rw [e1] at e2
    cases e2
    exact ⟨F1, _, List.getElem?_eq_getElem hi, post_sh s2 (dv.mono s1)⟩
theorem charsD_len (z : Str) : (charsD z).length = z.cps.size := by
  unfold charsD
  rw [List.length_map, Array.length_toList]
theorem wk_str {F : Hp} {z : Str} : Wk (Its z) F (charsD z) := by
  refine ⟨fun i H hi s => by rw [charsD_len] at hi; exact hi, fun H s => by rw [charsD_len]; exact Nat.le_refl _, fun i F1 H x H' hi s1 s2 y => ?_⟩
  obtain ⟨rfl, c, hc, rfl⟩ := y
  refine ⟨F1, .str ⟨#[c]⟩, ?_, post_sh s2 (.str _)⟩
  unfold charsD
  rw [List.getElem?_map, Array.getElem?_toList, hc]
  rfl
theorem mi_of (ha : ME X a ma) : MIt X tg a (mIter ma) := ⟨by
  have pl := pi_list (tg := tg) ha.ok
  have pt := pi_tup (tg := tg) ha.ok
  have ps := pi_str (tg := tg) ha.ok
  refine ⟨fun pins s σ H R I q => ?_⟩
  obtain ⟨F, G, b, ρ, hr, ds, ρ', e, k⟩ := q
  obtain ⟨⟨d, ρ1⟩, e1, e⟩ := bind_some e
  obtain ⟨ds1, e2, e⟩ := bind_some e
  cases e
  obtain ⟨⟨r, ρ0⟩, e0, e1⟩ := bind_some e1
  -- the three roads share the operand
  have step : ∀ (Z : V → Hp → Prop), (∀ F2 H1 v1, Same F F2 → Cln F G F2 → Rp F2 G H1 b σ ρ' → Dv F2 v1 d → Z v1 H1) → tM ma σ H Z := fun Z z =>
    ⟨F, G, b, ρ, hr, r, ρ0, e0, fun F1 H1 v1 s1 c1 h1 k1 => by
      obtain ⟨F2, s2, c2, h2, dv⟩ := cap_ok h1 k1 e1
      exact z F2 H1 v1 (s1.trans s2) (c1.trans c2) h2 dv⟩
  cases d with
  | list xs =>
    cases e2
    refine pl.run pins s σ H R I (step _ fun F2 H1 v1 s1 c1 h1 dv => ?_)
    cases dv with
    | lst hx dvs => exact ⟨_, rfl, ⟨_, .of (h1.fh _ _ hx)⟩, k F2 H1 _ s1 c1 h1 (wk_list hx dvs)⟩
  | tuple xs =>
    cases e2
    refine pt.run pins s σ H R I (step _ fun F2 H1 v1 s1 c1 h1 dv => ?_)
    cases dv with
    | tup hx dvs => exact ⟨_, rfl, ⟨_, .of (h1.fh _ _ hx)⟩, k F2 H1 _ s1 c1 h1 (wk_tup hx dvs)⟩
  | str z =>
    cases e2
    refine ps.run pins s σ H R I (step _ fun F2 H1 v1 s1 c1 h1 dv => ?_)
    cases dv with
    | str z => exact ⟨_, rfl, k F2 H1 _ s1 c1 h1 wk_str⟩
  | none => cases e2
  | bool _ => cases e2
  | int _ => cases e2
  | dict _ => cases e2⟩
/-! ranges -/
def rangeL (lo : Int) : Nat → List Int
  | 0 => []
  | n + 1 => lo :: rangeL (lo + 1) n
theorem rangeL_len (lo : Int) : ∀ n, (rangeL lo n).length = n
  | 0 => rfl
  | n + 1 => by unfold rangeL; rw [List.length_cons, rangeL_len (lo + 1) n]
theorem rangeL_get : ∀ (lo : Int) (n i : Nat), i < n → (rangeL lo n)[i]? = some (lo + i)
  | lo, n + 1, 0, _ => by
    unfold rangeL
    show some lo = some (lo + ((0 : Nat) : Int))
    rw [show lo + ((0 : Nat) : Int) = lo by omega]
  | lo, n + 1, i + 1, h => by
    unfold rangeL
    rw [List.getElem?_cons_succ, rangeL_get (lo + 1) n i (by omega)]
    congr 1
    omega
def rangeD (lo hi : Int) : List D := (rangeL lo (hi - lo).toNat).map .int
theorem wk_range {F : Hp} {lo : Int} {n : Nat} : Wk (Itr lo n) F ((rangeL lo n).map .int) := by
  refine ⟨fun i H hi s => by rw [List.length_map, rangeL_len] at hi; exact hi, fun H s => by rw [List.length_map, rangeL_len]; exact Nat.le_refl _, fun i F1 H x H' hi s1 s2 y => ?_⟩
  obtain ⟨rfl, rfl⟩ := y
  rw [List.length_map, rangeL_len] at hi
  exact ⟨F1, _, by rw [List.getElem?_map, rangeL_get lo n i hi]; rfl, post_sh s2 (.int _)⟩
def i62 (i : Int) : Bool := decide (-(2 ^ 62) ≤ i) && decide (i < 2 ^ 62)
def mRange1 (ms : MA) : MI := fun ρ => do
  let (ds, ρ1) ← ms ρ
  match ds with
  | [.int j] => if i62 j = true then some (rangeD 0 j, ρ1) else none
  | _ => none
def mRange2 (ms : MA) : MI := fun ρ => do
  let (ds, ρ1) ← ms ρ
  match ds with
  | [.int i, .int j] => if (i62 i && i62 j) = true then some (rangeD i j, ρ1) else none
  | _ => none
theorem i62_ok {i : Int} (h : i62 i = true) : -(2 ^ 62) ≤ i ∧ i < 2 ^ 62 := by
  unfold i62 at h
  have := Bool.and_eq_true_iff.mp h
  exact ⟨of_decide_eq_true this.1, of_decide_eq_true this.2⟩
variable {ms : MA} {p : Pos}
theorem mi_range1 (hg : Gl X "range") (hm : X.mg "range" = none) (ha : MAs X [a] ms) (hs : starEach [a] X.env = [(false, eval a X.env)] := by rfl) : MIt X tg (.Call (.Name "range" p) [a] [] pos) (mRange1 ms) := ⟨(pi_range1 hg hm ha.ok hs).imq fun σ H R q => by
  obtain ⟨F, G, b, ρ, hr, ds, ρ', e, k⟩ := q
  obtain ⟨⟨ds1, ρ1⟩, e1, e⟩ := bind_some e
  refine ⟨F, G, b, ρ, hr, ds1, ρ1, e1, fun F1 H1 vs s1 c1 h1 dvs => ?_⟩
  match ds1, dvs, e with
  | [.int j], .cons (.int _) .nil, e =>
    obtain ⟨hj, e⟩ := ite_some (show (if i62 j = true then some (rangeD 0 j, ρ1) else none) = some (ds, ρ') from e)
    cases e
    have b62 := i62_ok hj
    refine ⟨j, rfl, b62.1, b62.2, k F1 H1 _ s1 c1 h1 ?_⟩
    have := wk_range (F := F1) (lo := 0) (n := j.toNat)
    unfold rangeD
    rw [show (j - 0).toNat = j.toNat by omega]
    exact this⟩
theorem mi_range2 (hg : Gl X "range") (hm : X.mg "range" = none) (ha : MAs X [a, b] ms) (hs : starEach [a, b] X.env = [(false, eval a X.env), (false, eval b X.env)] := by rfl) (hs2 : starEach [b] X.env = [(false, eval b X.env)] := by rfl) :
    MIt X tg (.Call (.Name "range" p) [a, b] [] pos) (mRange2 ms) := ⟨(pi_range2 hg hm ha.ok hs hs2).imq fun σ H R q => by
  obtain ⟨F, G, b, ρ, hr, ds, ρ', e, k⟩ := q
  obtain ⟨⟨ds1, ρ1⟩, e1, e⟩ := bind_some e
  refine ⟨F, G, b, ρ, hr, ds1, ρ1, e1, fun F1 H1 vs s1 c1 h1 dvs => ?_⟩
  match ds1, dvs, e with
  | [.int i, .int j], .cons (.int _) (.cons (.int _) .nil), e =>
    obtain ⟨hj, e⟩ := ite_some (show (if (i62 i && i62 j) = true then some (rangeD i j, ρ1) else none) = some (ds, ρ') from e)
    cases e
    have hj := Bool.and_eq_true_iff.mp hj
    have b1 := i62_ok hj.1
    have b2 := i62_ok hj.2
    exact ⟨i, j, rfl, ⟨b1.1, b1.2, b2.1, b2.2⟩, k F1 H1 _ s1 c1 h1 wk_range⟩⟩
end
end Mi
set_option Elab.async false
set_option linter.all false
set_option maxRecDepth 100000
/-! Core4: comprehensions, statements, loops, defs. -/
namespace Mi
open PySem PySem.Spec PyProof.Rows L2
variable [KK]

/-! ### comprehensions -/
def wipeE (ρ : En) : List Nat → En
  | [] => ρ
  | v :: vs => (wipeE ρ vs).set v .no
def backE (ρ ρ1 : En) : List Nat → En
  | [] => ρ1
  | v :: vs => (backE ρ ρ1 vs).set v (ρ.getD v .no)
def okW (ρ : En) (vs : List Nat) : Bool := vs.all fun v => match ρ[v]? with
  | some (.own _) => false
  | some (.io _) => false
  | _ => true
theorem wipeE_len (ρ : En) : ∀ vs, (wipeE ρ vs).length = ρ.length
  | [] => rfl
  | v :: vs => by unfold wipeE; rw [List.length_set, wipeE_len ρ vs]
theorem backE_len (ρ ρ1 : En) : ∀ vs, (backE ρ ρ1 vs).length = ρ1.length
  | [] => rfl
  | v :: vs => by unfold backE; rw [List.length_set, backE_len ρ ρ1 vs]
theorem wipeE_get {ρ : En} {i : Nat} {m : M} : ∀ {vs : List Nat}, (wipeE ρ vs)[i]? = some m → (i ∈ vs ∧ m = .no) ∨ (i ∉ vs ∧ ρ[i]? = some m)
  | [], h => .inr ⟨by simp, h⟩
  | v :: vs, h => by
    unfold wipeE at h
    rcases get_set h with ⟨rfl, rfl⟩ | ⟨hj, h⟩
    · exact .inl ⟨List.mem_cons_self, rfl⟩
    · rcases wipeE_get h with ⟨a, b⟩ | ⟨a, b⟩
      · exact .inl ⟨List.mem_cons_of_mem _ a, b⟩
      · refine .inr ⟨fun z => ?_, b⟩
        rcases List.mem_cons.mp z with z | z
        · exact hj z
        · exact a z
theorem backE_get {ρ ρ1 : En} {i : Nat} {m : M} : ∀ {vs : List Nat}, (backE ρ ρ1 vs)[i]? = some m → (i ∈ vs ∧ m = ρ.getD i .no) ∨ (i ∉ vs ∧ ρ1[i]? = some m)
  | [], h => .inr ⟨by simp, h⟩
  | v :: vs, h => by
    unfold backE at h
    rcases get_set h with ⟨rfl, rfl⟩ | ⟨hj, h⟩
    · exact .inl ⟨List.mem_cons_self, rfl⟩
    · rcases backE_get h with ⟨a, b⟩ | ⟨a, b⟩
      · exact .inl ⟨List.mem_cons_of_mem _ a, b⟩
      · refine .inr ⟨fun z => ?_, b⟩
        rcases List.mem_cons.mp z with z | z
        · exact hj z
        · exact a z
section
variable {F F' G H H' : Hp} {b : Addr} {σ σ2 : L2.St} {ρ ρ3 : En} {vs : List Nat}
theorem Rp.wiped (h : Rp F G H b σ ρ) : Rp F G H b (wipe σ vs) (wipeE ρ vs) := by
  have oo : ∀ i, OwnAt (wipeE ρ vs) i → OwnAt ρ i ∧ i ∉ vs := fun i o => by
    rcases o with ⟨ds, e⟩ | ⟨ds, e⟩
    · rcases wipeE_get e with ⟨_, z⟩ | ⟨a, z⟩
      · cases z
      · exact ⟨.inl ⟨ds, z⟩, a⟩
    · rcases wipeE_get e with ⟨_, z⟩ | ⟨a, z⟩
      · cases z
      · exact ⟨.inr ⟨ds, z⟩, a⟩
  refine ⟨h.fh, h.gh, by rw [wipeE_len, wipe_length]; exact h.len, fun i m q => ?_, fun i j p oi oj ei ej => ?_⟩
  · rcases wipeE_get q with ⟨_, rfl⟩ | ⟨hi, q⟩
    · trivial
    · exact (h.slot i m q).at (wipe_ne hi)
  · obtain ⟨oi, ni⟩ := oo i oi
    obtain ⟨oj, nj⟩ := oo j oj
    rw [wipe_ne ni] at ei
    rw [wipe_ne nj] at ej
    exact h.ne i j p oi oj ei ej
/-- behind a turn of a comprehension: its own slots are what they were -/
theorem Rp.backed (h0 : Rp F G H b σ ρ) (e : Same F F') (h : Rp F' G H' b σ2 ρ3) (w : wipe σ2 vs = wipe σ vs) (ok : okW ρ vs = true) : Rp F' G H' b σ (backE ρ ρ3 vs) := by
  have ls : σ2.length = σ.length := by
    have := congrArg List.length w
    rw [wipe_length, wipe_length] at this
    exact this
  have out : ∀ i, i ∉ vs → σ[i]? = σ2[i]? := fun i hi => by rw [← wipe_ne (σ := σ2) hi, w, wipe_ne hi]
  have noW : ∀ i, i ∈ vs → ∀ m, m = ρ.getD i .no → (m = .no ∨ ∃ d, m = .sh d ∧ ρ[i]? = some m) := fun i hi m hm => by
    have q := List.all_eq_true.mp ok i hi
    rw [List.getD_eq_getElem?_getD] at hm
    cases z : ρ[i]? with
    | none => rw [z] at hm; exact .inl hm
    | some w =>
      rw [z] at hm q
      cases w with
      | no => exact .inl hm
      | sh d => exact .inr ⟨d, hm, by rw [hm]; rfl⟩
      | own ds => cases q
      | io ds => cases q
  have oo : ∀ i, OwnAt (backE ρ ρ3 vs) i → OwnAt ρ3 i ∧ i ∉ vs := fun i o => by
    rcases o with ⟨ds, e⟩ | ⟨ds, e⟩
    · rcases backE_get e with ⟨a, z⟩ | ⟨a, z⟩
      · rcases noW i a _ z with q | ⟨d, q, _⟩ <;> cases q
      · exact ⟨.inl ⟨ds, z⟩, a⟩
    · rcases backE_get e with ⟨a, z⟩ | ⟨a, z⟩
      · rcases noW i a _ z with q | ⟨d, q, _⟩ <;> cases q
      · exact ⟨.inr ⟨ds, z⟩, a⟩
  refine ⟨h.fh, h.gh, by rw [backE_len, h.len, ls], fun i m q => ?_, fun i j p oi oj ei ej => ?_⟩
  · rcases backE_get q with ⟨a, z⟩ | ⟨a, z⟩
    · rcases noW i a m z with rfl | ⟨d, rfl, q⟩
      · trivial
      · obtain ⟨v, c, dv⟩ := h0.slot i _ q
        exact ⟨v, c, dv.mono e⟩
    · exact (h.slot i m z).at (out i a)
  · obtain ⟨oi, ni⟩ := oo i oi
    obtain ⟨oj, nj⟩ := oo j oj
    rw [out i ni] at ei
    rw [out j nj] at ej
    exact h.ne i j p oi oj ei ej
end
theorem wipe_wipe {σ : L2.St} {vs : List Nat} : wipe (wipe σ vs) vs = wipe σ vs := by
  apply List.ext_getElem?
  intro j
  by_cases q : j ∈ vs
  · by_cases hl : j < σ.length
    · rw [wipe_in q hl, wipe_in q (by rw [wipe_length]; exact hl)]
    · rw [List.getElem?_eq_none (by rw [wipe_length, wipe_length]; omega), List.getElem?_eq_none (by rw [wipe_length]; omega)]
  · rw [wipe_ne q]
def mYes : MB := fun ρ => some (true, ρ)
def lcGo (g : MG) (t : MB) (el : MR) (vs : List Nat) : List D → En → List D → Option (List D × En)
  | [], ρ, acc => some (acc, ρ)
  | d :: ds, ρ, acc => do
    let ρ1 ← g d (wipeE ρ vs)
    let (k, ρ2) ← t ρ1
    if k = true then do
      let (y, ρ3) ← mCap el ρ2
      if acc.length < lim then lcGo g t el vs ds (backE ρ ρ3 vs) (acc ++ [y]) else none
    else lcGo g t el vs ds (backE ρ ρ2 vs) acc
def mLc (it : MI) (g : MG) (t : MB) (el : MR) (vs : List Nat) : MR := fun ρ => do
  let (ds, ρ1) ← it ρ
  if okW ρ1 vs = true then do
    let (acc, ρ2) ← lcGo g t el vs ds ρ1 []
    some (.fr acc, ρ2)
  else none
theorem okW_back {ρ ρ3 : En} {vs : List Nat} (hl : ρ3.length = ρ.length) (h : okW ρ vs = true) : okW (backE ρ ρ3 vs) vs = true := by
  unfold okW at h ⊢
  rw [List.all_eq_true] at h ⊢
  intro i hi
  have q := h i hi
  cases z : (backE ρ ρ3 vs)[i]? with
  | none => rfl
  | some m =>
    rcases backE_get z with ⟨_, e⟩ | ⟨e, _⟩
    · rw [List.getD_eq_getElem?_getD] at e
      cases y : ρ[i]? with
      | none => rw [y] at e; subst e; rfl
      | some w =>
        rw [y] at e q
        cases w <;> first | (cases q; done) | (subst e; rfl)
    · exact absurd hi e
/-- the tests of a clause -/
structure MTs (X : Cx) (ifs : List Expr) (t : MB) : Prop where
  ok : PTs X ifs (tMB t)
theorem mts_nil {X : Cx} : MTs X [] mYes := ⟨⟨fun pins s σ H Q I q => pts_nil.run pins s σ H Q I (by
  obtain ⟨F, G, b, ρ, hr, r, ρ', e, k⟩ := q
  cases e
  exact k F H (.refl _) (.refl _ _) hr)⟩⟩
theorem mts_one {X : Cx} {c : Expr} {t : MB} (h : MT X c t) : MTs X [c] t := ⟨pts_one h.ok⟩
theorem same_less {G H : Hp} {p : Addr} (h : G p = none) {o : HO} (e : Same (upd G p o) H) : Same G H := (same_upd h).trans e
section
variable {X : Cx} {elt tg iter : Expr} {ifs : List Expr} {scope : Scope} {own : List (Str × Nat)} {pos : Pos} {it : MI} {g : MG} {t : MB} {el : MR}
/-- the loop of a comprehension: from the reading by plain functions to the layer's -/
theorem lc_read {ws : List Nat} {vs : List Nat} (hws : ∀ i ∈ ws, i ∈ vs) {σ : L2.St} {H : Hp} {Q : VK} (q : tM (mLc it g t el vs) σ H Q) : tLc (tMI it) (tMG g ws) (tMB t) (tM el) vs σ H Q := by
  obtain ⟨F, G, b, ρ, hr, r, ρ', e, k⟩ := q
  obtain ⟨⟨ds, ρ1⟩, e1, e⟩ := bind_some e
  obtain ⟨hok, e⟩ := ite_some' e
  obtain ⟨⟨accE, ρ2⟩, e2, e⟩ := bind_some e
  cases e
  refine ⟨F, G, b, ρ, hr, ds, ρ1, e1, fun F1 H1 J s1 c1 h1 wk Dl hD => ?_⟩
  have gD : G Dl = none := h1.gh.free hD
  have fD : F1 Dl = none := h1.fh.free hD
  refine ⟨fun i m Hc => i ≤ ds.length ∧ m = ds.length - i ∧ ∃ F2 ρi acc vacc, Same F1 F2 ∧ Cln F1 G F2 ∧ Rp F2 G Hc b σ ρi ∧ Hc Dl = some (.lst vacc) ∧ Dvs F2 vacc acc ∧ F2 Dl = none ∧
      (∀ j, OwnAt ρi j → σ[j]? ≠ some (some (.ref Dl))) ∧ okW ρi vs = true ∧ lcGo g t el vs (ds.drop i) ρi acc = some (accE, ρ'), ⟨ds.length, Nat.zero_le _, rfl, F1, ρ1, [], [], .refl _, .refl _ _, ?_, upd_same, .nil, fD, ?_, hok, e2⟩, ?_⟩
  · exact h1.grow (.refl _) (same_upd hD) (h1.fh.trans (same_upd hD)) fun i p o q => (h1.own_some o q).elim fun _ z => z.2.1
  · intro j o q
    obtain ⟨_, z, _, _⟩ := h1.own_some o q
    rw [hD] at z
    cases z
  rintro i m Hc ⟨hi, rfl, F2, ρi, acc, vacc, s2, c2, h2, aD, xD, fD2, nD, okI, eL⟩
  by_cases hlt : i < ds.length
  · have hdrop : ds.drop i = ds[i] :: ds.drop (i + 1) := List.drop_eq_getElem_cons hlt
    rw [hdrop] at eL
    obtain ⟨ρa, ea, eL⟩ := bind_some eL
    obtain ⟨⟨kb, ρb⟩, eb, eL⟩ := bind_some eL
    refine .inr ⟨wk.go i Hc hlt (s2.trans h2.fh), fun H' => ∃ F5 ρ5 acc5 vacc5, Same F1 F5 ∧ Cln F1 G F5 ∧ Rp F5 G H' b σ ρ5 ∧ H' Dl = some (.lst vacc5) ∧ Dvs F5 vacc5 acc5 ∧ F5 Dl = none ∧
      (∀ j, OwnAt ρ5 j → σ[j]? ≠ some (some (.ref Dl))) ∧ okW ρ5 vs = true ∧ lcGo g t el vs (ds.drop (i + 1)) ρ5 acc5 = some (accE, ρ'), fun H' ⟨F5, ρ5, a5, v5, r5⟩ => ⟨ds.length - (i + 1), by omega, by omega, rfl, F5, ρ5, a5, v5, r5⟩, fun x H' y => ?_⟩
    obtain ⟨F3, d, ed, P⟩ := wk.yld i F2 Hc x H' hlt s2 h2.fh y
    have edd : d = ds[i] := by
      rw [List.getElem?_eq_getElem hlt] at ed
      exact (Option.some.inj ed).symm
    subst edd
    -- the guard: G and the list that grows
    have gu : Same (upd G Dl (.lst vacc)) H' := fun a o q => by
      by_cases z : a = Dl
      · subst z
        rw [upd_same] at q
        rw [P.hh _ _ aD, q]
      · rw [upd_ne z] at q
        exact P.hh _ _ (h2.gh _ _ q)
    have h3 : Rp F3 G H' b σ ρi := P.rp h2
    have c3 : Cln F2 G F3 := P.cln h2.gh
    have h3g : Rp F3 (upd G Dl (.lst vacc)) H' b (wipe σ vs) (wipeE ρi vs) := by
      refine (h3.more gu fun j p o q => ?_).wiped
      have : p ≠ Dl := fun z => nD j o (by rw [← z]; exact q)
      rw [upd_ne this]
      exact (h3.own_some o q).elim fun _ z => z.2.2
    have fD3 : F3 Dl = none := by
      cases z : F3 Dl with
      | none => rfl
      | some o =>
        rcases P.new Dl (by rw [z]; exact fun x => nomatch x) with w | w
        · exact absurd fD2 w
        · rw [aD] at w; cases w
    have dv : Dv F3 x ds[i] := P.res
    refine ⟨F3, _, b, _, _, h3g, dv, ρa, ea, fun σ2 h4 w4 => ⟨(w4 vs hws).trans wipe_wipe, ?_⟩⟩
    have w4' := (w4 vs hws).trans wipe_wipe
    refine ⟨F3, _, b, ρa, h4, kb, ρb, eb, fun F5 H5 s5 c5 h5 => ?_⟩
    have lenb : ∀ {ρz : En} {Fz Hz : Hp}, Rp Fz (upd G Dl (.lst vacc)) Hz b σ2 ρz → ρz.length = ρi.length := fun {ρz Fz Hz} hz => by
      have l1 := hz.len
      have l2 := congrArg List.length w4'
      rw [wipe_length, wipe_length] at l2
      rw [l1, l2, h3.len]
    have fin : ∀ {ρz : En} {Fz Hz : Hp}, Same F3 Fz → Cln F3 (upd G Dl (.lst vacc)) Fz → Rp Fz (upd G Dl (.lst vacc)) Hz b σ2 ρz →
        Rp Fz G Hz b σ (backE ρi ρz vs) ∧ Hz Dl = some (.lst vacc) ∧ Fz Dl = none ∧ (∀ j, OwnAt (backE ρi ρz vs) j → σ[j]? ≠ some (some (.ref Dl))) ∧ okW (backE ρi ρz vs) vs = true := fun {ρz Fz Hz} sz cz hz => by
      have hb := h3.backed sz (hz.less (same_upd gD)) w4' okI
      have hb2 : Rp Fz (upd G Dl (.lst vacc)) Hz b σ (backE ρi ρz vs) := (h3.more gu fun j p o q => by
        have : p ≠ Dl := fun z => nD j o (by rw [← z]; exact q)
        rw [upd_ne this]
        exact (h3.own_some o q).elim fun _ z => z.2.2).backed sz hz w4' okI
      refine ⟨hb, hz.gh _ _ upd_same, ?_, fun j o q => ?_, okW_back (lenb hz) okI⟩
      · cases z : Fz Dl with
        | none => rfl
        | some o => exact absurd fD3 (cz Dl (by rw [upd_same]; exact fun x => nomatch x) (by rw [z]; exact fun x => nomatch x))
      · obtain ⟨_, _, _, z⟩ := hb2.own_some o q
        rw [upd_same] at z
        cases z
    cases kb with
    | false =>
      have eL : lcGo g t el vs (ds.drop (i + 1)) (backE ρi ρb vs) acc = some (accE, ρ') := eL
      refine iteF ?_
      obtain ⟨f1, f2, f3, f4, f5⟩ := fin s5 c5 h5
      exact ⟨F5, _, acc, vacc, s2.trans (P.ff.trans s5), c2.trans (c3.trans (c5.less (same_upd gD))), f1, f2, xD.mono (P.ff.trans s5), f3, f4, f5, eL⟩
    | true =>
      refine iteT ?_
      obtain ⟨⟨y', ρ6⟩, e6, eL⟩ := bind_some eL
      obtain ⟨hlen, eL⟩ := ite_some' eL
      obtain ⟨⟨r6, ρ7⟩, e7, e6⟩ := bind_some e6
      refine ⟨F5, _, b, ρb, h5, r6, ρ7, e7, fun F7 H7 v7 s7 c7 h7 k7 => ?_⟩
      obtain ⟨F8, s8, c8, h8, dv8⟩ := cap_ok h7 k7 e6
      have cc := c5.trans (c7.trans c8)
      obtain ⟨f1, f2, f3, f4, f5⟩ := fin (s5.trans (s7.trans s8)) cc h8
      have x8 : Dvs F8 vacc acc := xD.mono (P.ff.trans (s5.trans (s7.trans s8)))
      refine ⟨vacc, f2, by rw [xD.len]; exact lim_lt hlen, F8, _, acc ++ [y'], vacc ++ [v7], s2.trans (P.ff.trans (s5.trans (s7.trans s8))), c2.trans (c3.trans (cc.less (same_upd gD))), ?_, upd_same, x8.snoc dv8, f3, f4, f5, eL⟩
      -- the grown list: nobody else looks at it
      refine ⟨fun a o q => ?_, fun a o q => ?_, f1.len, fun j mm q => ?_, f1.ne⟩
      · rw [upd_ne (ne_of_none q f3)]
        exact f1.fh _ _ q
      · rw [upd_ne (ne_of_none q gD)]
        exact f1.gh _ _ q
      · have sl := f1.slot j mm q
        cases mm with
        | no => trivial
        | sh d => exact sl
        | own ds1 =>
          obtain ⟨p1, vs1, a1, c1', x1⟩ := sl
          exact ⟨p1, vs1, a1, by rw [upd_ne (fun z => f4 j (.inl ⟨ds1, q⟩) (by rw [← z]; exact a1))]; exact c1', x1⟩
        | io ds1 =>
          obtain ⟨a1, vs1, c1', x1⟩ := sl
          exact ⟨a1, vs1, by rw [upd_ne (fun z => f4 j (.inr ⟨ds1, q⟩) (by rw [← z]; exact a1))]; exact c1', x1⟩
  · have ei : i = ds.length := by omega
    subst ei
    rw [List.drop_length] at eL
    cases eL
    refine .inl ⟨wk.stop Hc (s2.trans h2.fh), k F2 Hc (.ref Dl) (s1.trans s2) (c1.trans c2) h2 ⟨Dl, vacc, rfl, aD, xD, fD2, gD, nD⟩⟩
theorem me_lc {ws : List Nat} (hc : X.calm = true) (hN : X.N.Nodup) (hi : MIt X tg iter it) (ok : BlkOk X.N X.env.scope scope own)
    (hg : ∀ (s : Shared) (H : Hp) (C : Addr) (cl : List (Str × Addr)) (fp : List Addr), MGt (X.blk s H scope (compEnvC scope cl C X.env) fp) tg g ws)
    (ht : ∀ (s : Shared) (H : Hp) (C : Addr) (cl : List (Str × Addr)) (fp : List Addr), MTs (X.blk s H scope (compEnvC scope cl C X.env) fp) ifs t)
    (he : ∀ (s : Shared) (H : Hp) (C : Addr) (cl : List (Str × Addr)) (fp : List Addr), ME (X.blk s H scope (compEnvC scope cl C X.env) fp) elt el)
    (hws : ∀ i ∈ ws, i ∈ own.map (·.2) := by decide) (hs : ∀ x, foldedSetIterable iter X.env x = pure x := by intro _; rfl) :
    ME X (.ListComp elt [⟨tg, iter, ifs, 0⟩] scope pos) (mLc it g t el (own.map (·.2))) :=
  ⟨(pe_lc hc hN hi.ok ok (fun s H C cl fp => (hg s H C cl fp).ok) (fun s H C cl fp => (ht s H C cl fp).ok) (fun s H C cl fp => (he s H C cl fp).ok) hs).imq fun σ H Q q => lc_read hws q⟩
end

/-! ### statements -/
inductive Out where
  | nx | bk | ct | rt (r : R)
abbrev MS' := En → Option (Out × En)
def endOf (Dn : Ends) (F G H : Hp) (σ : L2.St) (ρ : En) : Out → Prop
  | .nx => Dn.nx σ H
  | .bk => Dn.bk σ H
  | .ct => Dn.ct σ H
  | .rt r => ∀ v, RsOk F G H σ ρ v r → Dn.rt v H
def tMS (m : MS') : TS := fun Dn σ H => ∃ F G b ρ, Rp F G H b σ ρ ∧ ∃ o ρ', m ρ = some (o, ρ') ∧ ∀ F' H' σ', Same F F' → Cln F G F' → Rp F' G H' b σ' ρ' → endOf Dn F' G H' σ' ρ' o
structure MSt (X : Cx) (st : Stmt) (m : MS') : Prop where
  ok : PS X st (tMS m)
structure MSs (X : Cx) (st : List Stmt) (m : MS') : Prop where
  ok : PSs X st (tMS m)
def sNil : MS' := fun ρ => some (.nx, ρ)
def sSeq (m n : MS') : MS' := fun ρ => do
  let (o, ρ1) ← m ρ
  match o with
  | .nx => n ρ1
  | o => some (o, ρ1)
section
variable {X : Cx} {e a b c tg : Expr} {pos : Pos} {m ma mb mc : MR} {t u : MB} {st : Stmt} {rest : List Stmt} {n n1 n2 : MS'}
theorem mss_nil : MSs X [] sNil := ⟨pss_nil.imq fun D σ H q => by
  obtain ⟨F, G, b, ρ, hr, o, ρ', e, k⟩ := q
  cases e
  exact k F H σ (.refl _) (.refl _ _) hr⟩
theorem mss_cons (h1 : MSt X st n1) (h2 : MSs X rest n2) : MSs X (st :: rest) (sSeq n1 n2) := ⟨(pss_cons h1.ok h2.ok).imq fun D σ H q => by
  obtain ⟨F, G, b, ρ, hr, o, ρ', e, k⟩ := q
  obtain ⟨⟨o1, ρ1⟩, e1, e⟩ := bind_some e
  refine ⟨F, G, b, ρ, hr, o1, ρ1, e1, fun F1 H1 σ1 s1 c1 h1 => ?_⟩
  cases o1 with
  | nx => exact ⟨F1, G, b, ρ1, h1, o, ρ', e, fun F2 H2 σ2 s2 c2 h2 => k F2 H2 σ2 (s1.trans s2) (c1.trans c2) h2⟩
  | bk => cases e; exact k F1 H1 σ1 s1 c1 h1
  | ct => cases e; exact k F1 H1 σ1 s1 c1 h1
  | rt r => cases e; exact k F1 H1 σ1 s1 c1 h1⟩
def sBrk : MS' := fun ρ => some (.bk, ρ)
def sCont : MS' := fun ρ => some (.ct, ρ)
theorem ms_pass : MSt X (.Pass pos) sNil := ⟨ps_pass.imq fun D σ H q => by
  obtain ⟨F, G, b, ρ, hr, o, ρ', e, k⟩ := q
  cases e
  exact k F H σ (.refl _) (.refl _ _) hr⟩
theorem ms_break : MSt X (.Break pos) sBrk := ⟨ps_break.imq fun D σ H q => by
  obtain ⟨F, G, b, ρ, hr, o, ρ', e, k⟩ := q
  cases e
  exact k F H σ (.refl _) (.refl _ _) hr⟩
theorem ms_continue : MSt X (.Continue pos) sCont := ⟨ps_continue.imq fun D σ H q => by
  obtain ⟨F, G, b, ρ, hr, o, ρ', e, k⟩ := q
  cases e
  exact k F H σ (.refl _) (.refl _ _) hr⟩
def sExpr (m : MR) : MS' := fun ρ => do
  let (_, ρ1) ← m ρ
  some (.nx, ρ1)
theorem ms_expr (he : ME X e m) (hs : swapsWith e none pos.line X.env = pure false := by rfl) : MSt X (.Expr e pos) (sExpr m) := ⟨(ps_expr he.ok hs).imq fun D σ H q => by
  obtain ⟨F, G, b, ρ, hr, o, ρ', e, k⟩ := q
  obtain ⟨⟨o1, ρ1⟩, e1, e⟩ := bind_some e
  cases e
  exact ⟨F, G, b, ρ, hr, o1, _, e1, fun F1 H1 v s1 c1 h1 k1 => k F1 H1 σ s1 c1 h1⟩⟩
/-- what is handed back: an own list becomes new data of the caller's -/
def retR (ρ : En) : R → Option (R × En)
  | .sh d => some (.sh d, ρ)
  | .fr ds => some (.fr ds, ρ)
  | .bw i => match ρ[i]? with
    | some (.own ds) => some (.fr ds, ρ.set i .no)
    | some (.sh d) => some (.sh d, ρ)
    | _ => none
def sRet (m : MR) : MS' := fun ρ => do
  let (r, ρ1) ← m ρ
  let (r', ρ2) ← retR ρ1 r
  some (.rt r', ρ2)
theorem Rp.drop {F G H : Hp} {b : Addr} {σ : L2.St} {ρ : En} {i : Nat} (h : Rp F G H b σ ρ) : Rp F G H b σ (ρ.set i .no) := by
  refine ⟨h.fh, h.gh, by rw [List.length_set]; exact h.len, fun j m q => ?_, fun j k p oj ok => ?_⟩
  · rcases get_set q with ⟨rfl, rfl⟩ | ⟨_, q⟩
    · trivial
    · exact h.slot j m q
  · have z : ∀ j, OwnAt (ρ.set i .no) j → OwnAt ρ j := fun j o => by
      rcases own_set2 o with ⟨_, ⟨_, z⟩ | ⟨_, z⟩⟩ | ⟨_, o⟩
      · cases z
      · cases z
      · exact o
    exact h.ne j k p (z j oj) (z k ok)
theorem ret_ok {F G H : Hp} {b : Addr} {σ : L2.St} {ρ ρ' : En} {v : V} {r r' : R} (h : Rp F G H b σ ρ) (k : RsOk F G H σ ρ v r) (e : retR ρ r = some (r', ρ')) : Rp F G H b σ ρ' ∧ RsOk F G H σ ρ' v r' := by
  cases r with
  | sh d => cases e; exact ⟨h, k⟩
  | fr ds => cases e; exact ⟨h, k⟩
  | bw i =>
    have k' : σ[i]? = some (some v) := k
    unfold retR at e
    cases q : ρ[i]? with
    | none => simp [q] at e
    | some w =>
      have s := h.slot i w q
      cases w with
      | no => simp [q] at e
      | io ds => simp [q] at e
      | sh d =>
        simp only [q] at e
        cases e
        obtain ⟨v', a, c⟩ := s
        rw [k'] at a
        cases a
        exact ⟨h, c⟩
      | own ds =>
        simp only [q] at e
        cases e
        obtain ⟨p, vs, a, c, x, f, g⟩ := s
        rw [k'] at a
        cases a
        refine ⟨h.drop, p, vs, rfl, c, x, f, g, fun j o z => ?_⟩
        rcases own_set2 o with ⟨_, ⟨_, w⟩ | ⟨_, w⟩⟩ | ⟨hj, o⟩
        · cases w
        · cases w
        · exact hj (h.ne j i p o (.inl ⟨ds, q⟩) z k')
theorem ms_ret (he : ME X e m) : MSt X (.Return (some e) pos) (sRet m) := ⟨(ps_ret he.ok).imq fun D σ H q => by
  obtain ⟨F, G, b, ρ, hr, o, ρ', e, k⟩ := q
  obtain ⟨⟨r1, ρ1⟩, e1, e⟩ := bind_some e
  obtain ⟨⟨r2, ρ2⟩, e2, e⟩ := bind_some e
  cases e
  refine ⟨F, G, b, ρ, hr, r1, ρ1, e1, fun F1 H1 v s1 c1 h1 k1 => ?_⟩
  obtain ⟨h2, k2⟩ := ret_ok h1 k1 e2
  exact k F1 H1 σ s1 c1 h2 v k2⟩
def sRetN : MS' := fun ρ => some (.rt (.sh .none), ρ)
theorem ms_retN : MSt X (.Return none pos) sRetN := ⟨ps_retN.imq fun D σ H q => by
  obtain ⟨F, G, b, ρ, hr, o, ρ', e, k⟩ := q
  cases e
  exact k F H σ (.refl _) (.refl _ _) hr _ .non⟩
def sIf (t : MB) (n1 n2 : MS') : MS' := fun ρ => do
  let (k, ρ1) ← t ρ
  if k = true then n1 ρ1 else n2 ρ1
theorem ms_if {s1 s2 : List Stmt} (hc : MT X c t) (ha : MSs X s1 n1) (hb : MSs X s2 n2) : MSt X (.If c s1 s2 pos) (sIf t n1 n2) := ⟨(ps_if hc.ok ha.ok hb.ok).imq fun D σ H q => by
  obtain ⟨F, G, b, ρ, hr, o, ρ', e, k⟩ := q
  obtain ⟨⟨k1, ρ1⟩, e1, e⟩ := bind_some e
  refine ⟨F, G, b, ρ, hr, k1, ρ1, e1, fun F1 H1 s1 c1 h1 => ?_⟩
  cases k1 with
  | true => exact ⟨F1, G, b, ρ1, h1, o, ρ', e, fun F2 H2 σ2 s2 c2 h2 => k F2 H2 σ2 (s1.trans s2) (c1.trans c2) h2⟩
  | false => exact ⟨F1, G, b, ρ1, h1, o, ρ', e, fun F2 H2 σ2 s2 c2 h2 => k F2 H2 σ2 (s1.trans s2) (c1.trans c2) h2⟩⟩
def sSet (i : Nat) (m : MR) : MS' := fun ρ => do
  let (r, ρ1) ← m ρ
  let ρ2 ← asg ρ1 i r
  some (.nx, ρ2)
theorem asg_read {i : Nat} {D : Ends} {σ : L2.St} {H : Hp} (q : tMS (sSet i m) D σ H) : tAsg (tM m) (gName i) D σ H := by
  obtain ⟨F, G, b, ρ, hr, o, ρ', e, k⟩ := q
  obtain ⟨⟨r1, ρ1⟩, e1, e⟩ := bind_some e
  obtain ⟨ρ2, e2, e⟩ := bind_some e
  cases e
  refine ⟨F, G, b, ρ, hr, r1, ρ1, e1, fun F1 H1 v s1 c1 h1 k1 => ?_⟩
  obtain ⟨F2, s2, c2, h2⟩ := asg_ok h1 k1 e2
  exact k F2 H1 _ (s1.trans s2) (c1.trans c2) h2
theorem ms_set {i : Nat} {x : Str} {pos' : Pos} (hN : X.N.Nodup) (hi : X.N[i]? = some x) (hx : Loc X.env.scope x) (he : ME X e m) (hs : swapsWith e (some (.Name x pos')) pos.line X.env = pure false := by rfl) (hf : X.fn x = true ∨ X.env.scope.names.lookup x = some .local := by first | exact .inl rfl | exact .inr rfl | assumption) :
    MSt X (.Assign [.Name x pos'] e pos) (sSet i m) := ⟨(ps_set hN hi hx he.ok hs hf).imq fun D σ H q => asg_read q⟩
/-- a tuple of targets -/
def sAsg (g : MG) (m : MR) : MS' := fun ρ => do
  let (d, ρ1) ← mCap m ρ
  let ρ2 ← g d ρ1
  some (.nx, ρ2)
theorem ms_asg {g : MG} {ws : List Nat} (he : ME X e m) (hg : MGt X tg g ws) (hs : swapsWithSole [tg] e pos.line X.env = pure false := by rfl) (hw : swappedStores [tg] e X.env = pure none := by rfl) (h1 : (assignEach [tg] X.env).map (·.2) = [assign tg X.env] := by rfl) :
    MSt X (.Assign [tg] e pos) (sAsg g m) := ⟨(ps_asg he.ok hg.ok hs hw h1).imq fun D σ H q => by
  obtain ⟨F, G, b, ρ, hr, o, ρ', e, k⟩ := q
  obtain ⟨⟨d, ρ1⟩, e1, e⟩ := bind_some e
  obtain ⟨ρ2, e2, e⟩ := bind_some e
  cases e
  obtain ⟨⟨r, ρ0⟩, e0, e1⟩ := bind_some e1
  refine ⟨F, G, b, ρ, hr, r, ρ0, e0, fun F1 H1 v s1 c1 h1 k1 => ?_⟩
  obtain ⟨F2, s2, c2, h2, dv⟩ := cap_ok h1 k1 e1
  exact ⟨F2, G, b, ρ1, d, h2, dv, ρ', e2, fun σ2 h3 _ => k F2 H1 σ2 (s1.trans s2) (c1.trans c2) h3⟩⟩
section
variable {elt iter : Expr} {ifs : List Expr} {scope : Scope} {own : List (Str × Nat)} {spos py : Pos} {it : MI} {g : MG} {el : MR}
theorem ms_setLc {i : Nat} {y : Str} {ws : List Nat} (hc : X.calm = true) (hN : X.N.Nodup) (hy : X.N[i]? = some y) (hyl : X.env.scope.names.lookup y = some .local)
    (hsw : swapsWith (.ListComp elt [⟨tg, iter, ifs, 0⟩] scope pos) (some (.Name y py)) spos.line X.env = pure true) (hi : MIt X tg iter it) (ok : BlkOk X.N X.env.scope scope own)
    (hg : ∀ (s : Shared) (H : Hp) (C : Addr) (cl : List (Str × Addr)) (fp : List Addr), MGt (X.blk s H scope (compEnvC scope cl C X.env) fp) tg g ws)
    (ht : ∀ (s : Shared) (H : Hp) (C : Addr) (cl : List (Str × Addr)) (fp : List Addr), MTs (X.blk s H scope (compEnvC scope cl C X.env) fp) ifs t)
    (he : ∀ (s : Shared) (H : Hp) (C : Addr) (cl : List (Str × Addr)) (fp : List Addr), ME (X.blk s H scope (compEnvC scope cl C X.env) fp) elt el)
    (hws : ∀ i ∈ ws, i ∈ own.map (·.2) := by decide) (hs : ∀ x, foldedSetIterable iter X.env x = pure x := by intro _; rfl) :
    MSt X (.Assign [.Name y py] (.ListComp elt [⟨tg, iter, ifs, 0⟩] scope pos) spos) (sSet i (mLc it g t el (own.map (·.2)))) :=
  ⟨(ps_setLc hc hN hy hyl hsw hi.ok ok (fun s H C cl fp => (hg s H C cl fp).ok) (fun s H C cl fp => (ht s H C cl fp).ok) (fun s H C cl fp => (he s H C cl fp).ok) hs).imq fun D σ H q => by
    have h : tM (mLc it g t el (own.map (·.2))) σ H (fun x H1 => gName i x σ H1 D.nx) := asg_read q
    exact lc_read hws h⟩
end

/-! ### loops -/
def forGo (g : MG) (n : MS') : List D → En → Option (Out × En)
  | [], ρ => some (.nx, ρ)
  | d :: ds, ρ => do
    let ρ1 ← g d ρ
    let (o, ρ2) ← n ρ1
    match o with
    | .nx => forGo g n ds ρ2
    | .ct => forGo g n ds ρ2
    | .bk => some (.nx, ρ2)
    | .rt r => some (.rt r, ρ2)
def sFor (it : MI) (g : MG) (n : MS') : MS' := fun ρ => do
  let (ds, ρ1) ← it ρ
  forGo g n ds ρ1
theorem ms_for {iter : Expr} {body : List Stmt} {it : MI} {g : MG} {ws : List Nat} (hp : PassesOwn (model X.prog X.w) X.A X.env X.xe) (hc : X.calm = true) (hi : MIt X tg iter it) (hg : MGt X tg g ws) (hb : MSs X body n) (hs : ∀ x, foldedSetIterable iter X.env x = pure x := by intro _; rfl) :
    MSt X (.For tg iter body [] pos) (sFor it g n) := ⟨(ps_for hp hc hi.ok hg.ok hb.ok hs).imq fun D σ H q => by
  obtain ⟨F, G, b, ρ, hr, o, ρ', e, k⟩ := q
  obtain ⟨⟨ds, ρ1⟩, e1, e⟩ := bind_some e
  refine ⟨F, G, b, ρ, hr, ds, ρ1, e1, fun F1 H1 J s1 c1 h1 wk => ?_⟩
  refine ⟨fun i m σc Hc => i ≤ ds.length ∧ m = ds.length - i ∧ ∃ F2 ρi, Same F1 F2 ∧ Cln F1 G F2 ∧ Rp F2 G Hc b σc ρi ∧ forGo g n (ds.drop i) ρi = some (o, ρ'), ⟨ds.length, Nat.zero_le _, rfl, F1, ρ1, .refl _, .refl _ _, h1, e⟩, ?_⟩
  rintro i m σc Hc ⟨hi, rfl, F2, ρi, s2, c2, h2, eL⟩
  by_cases hlt : i < ds.length
  · have hdrop : ds.drop i = ds[i] :: ds.drop (i + 1) := List.drop_eq_getElem_cons hlt
    rw [hdrop] at eL
    obtain ⟨ρa, ea, eL⟩ := bind_some eL
    obtain ⟨⟨ob, ρb⟩, eb, eL⟩ := bind_some eL
    refine .inr ⟨wk.go i Hc hlt (s2.trans h2.fh), fun σ' H' => ∃ F5 ρ5, Same F1 F5 ∧ Cln F1 G F5 ∧ Rp F5 G H' b σ' ρ5 ∧ forGo g n (ds.drop (i + 1)) ρ5 = some (o, ρ'), fun σ' H' ⟨F5, ρ5, r5⟩ => ⟨ds.length - (i + 1), by omega, by omega, rfl, F5, ρ5, r5⟩, fun x H' y => ?_⟩
    obtain ⟨F3, d, ed, P⟩ := wk.yld i F2 Hc x H' hlt s2 h2.fh y
    have edd : d = ds[i] := by
      rw [List.getElem?_eq_getElem hlt] at ed
      exact (Option.some.inj ed).symm
    subst edd
    have h3 : Rp F3 G H' b σc ρi := P.rp h2
    have c3 : Cln F2 G F3 := P.cln h2.gh
    have dv : Dv F3 x ds[i] := P.res
    refine ⟨F3, G, b, _, _, h3, dv, ρa, ea, fun σ2 h4 _ => ?_⟩
    refine ⟨F3, G, b, ρa, h4, ob, ρb, eb, fun F5 H5 σ5 s5 c5 h5 => ?_⟩
    have ss := s2.trans (P.ff.trans s5)
    have cc := c2.trans (c3.trans c5)
    cases ob with
    | nx => exact ⟨F5, ρb, ss, cc, h5, eL⟩
    | ct => exact ⟨F5, ρb, ss, cc, h5, eL⟩
    | bk =>
      cases eL
      exact k F5 H5 σ5 (s1.trans ss) (c1.trans cc) h5
    | rt r =>
      cases eL
      exact k F5 H5 σ5 (s1.trans ss) (c1.trans cc) h5
  · have ei : i = ds.length := by omega
    subst ei
    rw [List.drop_length] at eL
    cases eL
    exact .inl ⟨wk.stop Hc (s2.trans h2.fh), k F2 Hc σc (s1.trans s2) (c1.trans c2) h2⟩⟩
/-- fuel turns at most -/
def whGo (t : MB) (n : MS') : Nat → En → Option (Out × En)
  | 0, _ => none
  | f + 1, ρ => do
    let (k, ρ1) ← t ρ
    if k = true then do
      let (o, ρ2) ← n ρ1
      match o with
      | .nx => whGo t n f ρ2
      | .ct => whGo t n f ρ2
      | .bk => some (.nx, ρ2)
      | .rt r => some (.rt r, ρ2)
    else some (.nx, ρ1)
def sWhile (f : Nat) (t : MB) (n : MS') : MS' := whGo t n f
theorem ms_while {body : List Stmt} {f : Nat} (hp : PassesOwn (model X.prog X.w) X.A X.env X.xe) (hc : MT X c t) (hb : MSs X body n) : MSt X (.While c body [] pos) (sWhile f t n) := ⟨(ps_while hp hc.ok hb.ok).imq fun D σ H q => by
  obtain ⟨F, G, b, ρ, hr, o, ρ', e, k⟩ := q
  refine ⟨fun m σc Hc => ∃ F2 ρi, Same F F2 ∧ Cln F G F2 ∧ Rp F2 G Hc b σc ρi ∧ whGo t n m ρi = some (o, ρ'), ⟨f, F, ρ, .refl _, .refl _ _, hr, e⟩, ?_⟩
  rintro m σc Hc ⟨F2, ρi, s2, c2, h2, eL⟩
  cases m with
  | zero => cases eL
  | succ m =>
    obtain ⟨⟨kb, ρa⟩, ea, eL⟩ := bind_some eL
    refine ⟨F2, G, b, ρi, h2, kb, ρa, ea, fun F3 H3 s3 c3 h3 => ?_⟩
    cases kb with
    | false =>
      cases eL
      exact k F3 H3 σc (s2.trans s3) (c2.trans c3) h3
    | true =>
      obtain ⟨⟨ob, ρb⟩, eb, eL⟩ := bind_some eL
      refine ⟨fun σ' H' => ∃ F5 ρ5, Same F F5 ∧ Cln F G F5 ∧ Rp F5 G H' b σ' ρ5 ∧ whGo t n m ρ5 = some (o, ρ'), fun σ' H' r5 => ⟨m, Nat.lt_succ_self m, r5⟩, ?_⟩
      refine ⟨F3, G, b, ρa, h3, ob, ρb, eb, fun F5 H5 σ5 s5 c5 h5 => ?_⟩
      have ss := s2.trans (s3.trans s5)
      have cc := c2.trans (c3.trans c5)
      cases ob with
      | nx => exact ⟨F5, ρb, ss, cc, h5, eL⟩
      | ct => exact ⟨F5, ρb, ss, cc, h5, eL⟩
      | bk =>
        cases eL
        exact k F5 H5 σ5 ss cc h5
      | rt r =>
        cases eL
        exact k F5 H5 σ5 ss cc h5⟩
end
end Mi
set_option Elab.async false
set_option linter.all false
set_option maxRecDepth 100000
/-! Core5: defs, calls, lists that are changed. -/
namespace Mi
open PySem PySem.Spec PyProof.Rows L2
variable [KK]

/-! ### defs that change nothing of their callers' -/
def spN (φ : List D → Option R) : Sp := fun vs H Q _ => ∃ F ds r, Same F H ∧ Dvs F vs ds ∧ φ ds = some r ∧ ∀ F' H' v, Post F H r F' H' v → Q v H'
def startE (n : Nat) (ds : List D) : En := ds.map M.sh ++ List.replicate (n - ds.length) M.no
def outR : Out → Option R
  | .nx => some (.sh .none)
  | .rt (.sh d) => some (.sh d)
  | .rt (.fr ds) => some (.fr ds)
  | _ => none
theorem start_len {n : Nat} {ds : List D} (h : ds.length ≤ n) : (startE n ds).length = n := by
  unfold startE
  rw [List.length_append, List.length_map, List.length_replicate]
  omega
theorem start_get {n i : Nat} {ds : List D} {m : M} (h : (startE n ds)[i]? = some m) : m = .no ∨ ∃ d, m = .sh d ∧ ds[i]? = some d := by
  unfold startE at h
  rw [List.getElem?_append] at h
  split at h
  · rw [List.getElem?_map] at h
    cases q : ds[i]? with
    | none => rw [q] at h; cases h
    | some d =>
      rw [q] at h
      exact .inr ⟨d, (Option.some.inj h).symm, rfl⟩
  · rw [List.getElem?_replicate] at h
    split at h
    · exact .inl (Option.some.inj h).symm
    · cases h
theorem startV_get {N : List Str} {vs : List V} {i : Nat} {v : V} (h : vs[i]? = some v) : (start N vs)[i]? = some (some v) := by
  unfold L2.start
  have hl := (List.getElem?_eq_some_iff.mp h).1
  rw [List.getElem?_append_left (by rw [List.length_map]; exact hl), List.getElem?_map, h]
  rfl
theorem startV_len {N : List Str} {vs : List V} (h : vs.length ≤ N.length) : (start N vs).length = N.length := by
  unfold L2.start
  rw [List.length_append, List.length_map, List.length_replicate]
  omega
theorem rp_start {F H : Hp} {N : List Str} {vs : List V} {ds : List D} (s : Same F H) (a : Dvs F vs ds) (hl : ds.length ≤ N.length) : Rp F H H 0 (start N vs) (startE N.length ds) := by
  have hv : vs.length ≤ N.length := by rw [a.len]; exact hl
  have noOwn : ∀ i, ¬ OwnAt (startE N.length ds) i := fun i o => by
    rcases o with ⟨x, e⟩ | ⟨x, e⟩
    · rcases start_get e with z | ⟨_, z, _⟩ <;> cases z
    · rcases start_get e with z | ⟨_, z, _⟩ <;> cases z
  refine ⟨s, .refl _, by rw [start_len hl, startV_len hv], fun i m q => ?_, fun i j p oi => absurd oi (noOwn i)⟩
  rcases start_get q with rfl | ⟨d, rfl, q2⟩
  · trivial
  · obtain ⟨v, e, dv⟩ := a.get q2
    exact ⟨v, startV_get e, dv⟩
theorem post_of {F G F' H H' : Hp} {b : Addr} {σ' : L2.St} {ρ' : En} {v : V} {r : R} (s : Same F F') (c : Cln F H F') (h : Rp F' H H' b σ' ρ') (k : RsOk F' H H' σ' ρ' v r) (hr : ∀ i, r ≠ .bw i) : Post F H r F' H' v := by
  refine ⟨s, h.gh, h.fh, fun a fa => ?_, ?_⟩
  · cases q : H a with
    | none => exact .inr rfl
    | some o => exact .inl (c a (by rw [q]; exact fun z => nomatch z) fa)
  · cases r with
    | sh d => exact k
    | bw i => exact absurd rfl (hr i)
    | fr ds =>
      obtain ⟨p, vs, rfl, a, x, f, g, _⟩ := k
      exact ⟨p, vs, rfl, g, a, x, f⟩
section
variable {P : Program} {w : World} {K : Fr0} {mg : Str → Option Value} {base : Heap}
/-- THE RULE for a def: φ is what its body's plain function gives -/
theorem fn_mk {x qual : Str} {st : Stmt} {f : Addr} {fd : FuncData} {N ps : List Str} {k : Nat} {φ : List D → Option R} {m : MS'} (F : Fun K x qual st f fd) (S : FnScope N ps (defScope st))
    (hb : ∀ (cdv : Value) (A : Around) (outer : List Env) (s : Shared) (H : Hp) (E : XK), Room k (A.deeper (envOfC qual (defScope st) s.heap.objs.size f cdv)) →
      MSs (cxOf CX0 P w K mg base N qual (defScope st) f cdv A outer s H E).nox (defBody st) m)
    (hφ : ∀ ds r, φ ds = some r → ds.length = ps.length ∧ ∃ o ρ', m (startE N.length ds) = some (o, ρ') ∧ outR o = some r) : FnOk P w K mg base CX0 (k + 1) f fd ps (spN φ) := by
  refine F.ok S (fun vs H Q E h => ?_) (fun cdv A outer s H vs Q E hr h => ?_)
  · obtain ⟨F0, ds, r, _, a, e, _⟩ := h
    rw [a.len, (hφ ds r e).1]
  · obtain ⟨F0, ds, r, s0, a, e, q⟩ := h
    obtain ⟨hl, o, ρ', em, eo⟩ := hφ ds r e
    have hpN : ps.length ≤ N.length := by
      have := congrArg List.length S.pre
      rw [List.length_take] at this
      omega
    refine ⟨_, (hb cdv A outer s H E hr).ok, F0, H, 0, _, rp_start s0 a (by omega), o, ρ', em, fun F' H' σ' s1 c1 h1 => ?_⟩
    cases o with
    | nx =>
      cases eo
      exact q F' H' .non (post_of (G := H) s1 c1 h1 (show RsOk F' H H' σ' ρ' .non (.sh .none) from .non) fun _ z => nomatch z)
    | bk => cases eo
    | ct => cases eo
    | rt r' =>
      cases r' with
      | sh d =>
        cases eo
        exact fun v k => q F' H' v (post_of (G := H) s1 c1 h1 k fun _ z => nomatch z)
      | fr ds' =>
        cases eo
        exact fun v k => q F' H' v (post_of (G := H) s1 c1 h1 k fun _ z => nomatch z)
      | bw i => cases eo
end

/-! ### defs that change the list that is their first argument -/
structure PostIO (F H : Hp) (b : Addr) (r : R) (F' H' : Hp) (v : V) : Prop where
  ff : Same F F'
  hh : ∀ a o, a ≠ b → H a = some o → H' a = some o
  fh : Same F' H'
  new : ∀ a, F' a ≠ none → F a ≠ none ∨ H a = none
  res : ResOk F' H H' v r
def spIO (φ : List D → List D → Option (R × List D)) : Sp := fun vs H Q _ => ∃ F b bs ws vs' ds r ws', vs = .ref b :: vs' ∧ Same F H ∧ H b = some (.lst bs) ∧ F b = none ∧ Dvs F bs ws ∧ Dvs F vs' ds ∧ φ ws ds = some (r, ws') ∧
  ∀ F' H' v bs', PostIO F H b r F' H' v → H' b = some (.lst bs') → Dvs F' bs' ws' → F' b = none → Q v H'
def startIO (n : Nat) (ws : List D) (ds : List D) : En := .io ws :: startE (n - 1) ds
def dele (H : Hp) (b : Addr) : Hp := fun a => if a = b then none else H a
theorem dele_same {H : Hp} {b : Addr} : dele H b b = none := by unfold dele; rw [if_pos rfl]
theorem dele_ne {H : Hp} {a b : Addr} (h : a ≠ b) : dele H b a = H a := by unfold dele; rw [if_neg h]
section
variable {P : Program} {w : World} {K : Fr0} {mg : Str → Option Value} {base : Heap}
theorem start_cons {N : List Str} {v : V} {vs : List V} (h : 1 ≤ N.length) : start N (v :: vs) = some v :: start (N.drop 1) vs := by
  unfold L2.start
  rw [List.map_cons, List.cons_append, List.length_cons, List.length_drop]
  congr 3
  omega
theorem fn_mkIO {x qual : Str} {st : Stmt} {f : Addr} {fd : FuncData} {N ps : List Str} {k : Nat} {φ : List D → List D → Option (R × List D)} {m : MS'} (F : Fun K x qual st f fd) (S : FnScope N ps (defScope st))
    (hb : ∀ (cdv : Value) (A : Around) (outer : List Env) (s : Shared) (H : Hp) (E : XK), Room k (A.deeper (envOfC qual (defScope st) s.heap.objs.size f cdv)) →
      MSs (cxOf CX0 P w K mg base N qual (defScope st) f cdv A outer s H E).nox (defBody st) m)
    (hφ : ∀ ws ds r ws', φ ws ds = some (r, ws') → ds.length + 1 = ps.length ∧ ∃ o ρ', m (startIO N.length ws ds) = some (o, ρ') ∧ outR o = some r ∧ ρ'[0]? = some (.io ws')) : FnOk P w K mg base CX0 (k + 1) f fd ps (spIO φ) := by
  refine F.ok S (fun vs H Q E h => ?_) (fun cdv A outer s H vs Q E hr h => ?_)
  · obtain ⟨F0, b, bs, ws, vs', ds, r, ws', rfl, _, _, _, _, a, e, _⟩ := h
    rw [List.length_cons, a.len, (hφ ws ds r ws' e).1]
  · obtain ⟨F0, b, bs, ws, vs', ds, r, ws', rfl, s0, hb0, fb, aw, a, e, q⟩ := h
    obtain ⟨hl, o, ρ', em, eo, e0⟩ := hφ ws ds r ws' e
    have hpN : ps.length ≤ N.length := by
      have := congrArg List.length S.pre
      rw [List.length_take] at this
      omega
    have hN1 : 1 ≤ N.length := by omega
    have rp : Rp F0 (dele H b) H b (start N (.ref b :: vs')) (startIO N.length ws ds) := by
      have r0 := rp_start (N := N.drop 1) s0 a (by rw [List.length_drop]; omega)
      rw [List.length_drop] at r0
      rw [start_cons hN1]
      unfold startIO
      have noOwn : ∀ i, ¬ OwnAt (startE (N.length - 1) ds) i := fun i o => by
        rcases o with ⟨x, e⟩ | ⟨x, e⟩
        · rcases start_get e with z | ⟨_, z, _⟩ <;> cases z
        · rcases start_get e with z | ⟨_, z, _⟩ <;> cases z
      refine ⟨s0, fun x o z => ?_, by rw [List.length_cons, List.length_cons, r0.len], fun i mm z => ?_, fun i j p oi oj _ _ => ?_⟩
      · by_cases hx : x = b
        · rw [hx, dele_same] at z; cases z
        · rw [dele_ne hx] at z; exact z
      · cases i with
        | zero =>
          have z' : M.io ws = mm := Option.some.inj z
          subst z'
          exact ⟨rfl, bs, hb0, aw, fb, dele_same⟩
        | succ i =>
          have z' : (startE (N.length - 1) ds)[i]? = some mm := by simpa using z
          have sl := r0.slot i mm z'
          cases mm with
          | no => trivial
          | sh d =>
            obtain ⟨v, e1, dv⟩ := sl
            exact ⟨v, by simpa using e1, dv⟩
          | own _ => exact absurd (.inl ⟨_, z'⟩) (noOwn i)
          | io _ => exact absurd (.inr ⟨_, z'⟩) (noOwn i)
      · have z : ∀ k, OwnAt (.io ws :: startE (N.length - 1) ds) k → k = 0 := fun k ok => by
          cases k with
          | zero => rfl
          | succ k =>
            rcases ok with ⟨x, e⟩ | ⟨x, e⟩
            · exact absurd (.inl ⟨x, by simpa using e⟩) (noOwn k)
            · exact absurd (.inr ⟨x, by simpa using e⟩) (noOwn k)
        rw [z i oi, z j oj]
    refine ⟨_, (hb cdv A outer s H E hr).ok, F0, dele H b, b, _, rp, o, ρ', em, fun F' H' σ' s1 c1 h1 => ?_⟩
    have sl : SlotOk F' (dele H b) H' b σ' 0 (.io ws') := h1.slot 0 _ e0
    obtain ⟨sb, bs', hb', xb, fb', _⟩ := sl
    have fin : ∀ v r', RsOk F' (dele H b) H' σ' ρ' v r' → (∀ i, r' ≠ .bw i) → r' = r → Q v H' := fun v r' kk hr' er => by
      subst er
      refine q F' H' v bs' ⟨s1, fun a' o' ha' z => h1.gh _ _ (by rw [dele_ne ha']; exact z), h1.fh, fun a' fa => ?_, ?_⟩ hb' xb fb'
      · cases z : H a' with
        | none => exact .inr rfl
        | some o' =>
          by_cases hab : a' = b
          · rw [hab] at fa
            exact absurd fb' fa
          · exact .inl (c1 a' (by rw [dele_ne hab, z]; exact fun y => nomatch y) fa)
      · cases r' with
        | sh d => exact kk
        | bw i => exact absurd rfl (hr' i)
        | fr ds' =>
          obtain ⟨p, vs1, rfl, a1, x1, f1, g1, n1⟩ := kk
          have hpb : p ≠ b := fun z => n1 0 (.inr ⟨ws', e0⟩) (by rw [z]; exact sb)
          rw [dele_ne hpb] at g1
          exact ⟨p, vs1, rfl, g1, a1, x1, f1⟩
    cases o with
    | nx =>
      cases eo
      exact fin .non (.sh .none) .non (fun _ z => nomatch z) rfl
    | bk => cases eo
    | ct => cases eo
    | rt r' =>
      cases r' with
      | sh d =>
        cases eo
        exact fun v k => fin v _ k (fun _ z => nomatch z) rfl
      | fr ds' =>
        cases eo
        exact fun v k => fin v _ k (fun _ z => nomatch z) rfl
      | bw i => cases eo
end

/-! ### calls of defs -/
section
variable {X : Cx} {e a b c tg : Expr} {pos p : Pos} {m ma mb mc : MR} {es : List Expr} {ms : MA} {k : Nat} {f : Addr} {fd : FuncData} {ps : List Str} {x : Str}
def mCall (φ : List D → Option R) (ms : MA) : MR := fun ρ => do
  let (ds, ρ1) ← ms ρ
  let r ← φ ds
  some (r, ρ1)
theorem me_call {φ : List D → Option R} (F : FnOk X.prog X.w X.K X.mg X.base CX0 k f fd ps (spN φ)) (hr : Room k X.A) (hg : Gl X x) (hm : X.mg x = some (.ref f)) (hk : PySem.W.keepIn X.K (.ref f) = true) (hb : Binds X.K fd ps [])
    (ha : MAs X (e :: es) ms) (hdb : (x == ("__debug__" : Str)) = false := by decide) (he : starEach (e :: es) X.env = (false, eval e X.env) :: starEach es X.env := by rfl) (hpl : (backTo pos (starEach es X.env)).any (·.1) = false := by rfl) :
    ME X (.Call (.Name x p) (e :: es) [] pos) (mCall φ ms) := ⟨(pe_call (dvs := []) F hr hg hm hk hb .nil pass0 ha.ok hdb he hpl).imq fun σ H Q q => by
  obtain ⟨F0, G, b, ρ, hr0, r, ρ', e, k⟩ := q
  obtain ⟨⟨ds, ρ1⟩, e1, e⟩ := bind_some e
  obtain ⟨r1, e2, e⟩ := bind_some e
  cases e
  refine ⟨F0, G, b, ρ, hr0, ds, _, e1, fun F1 H1 vs s1 c1 h1 dvs => ?_⟩
  refine (show spN φ (vs ++ []) H1 Q E0 from ?_)
  rw [List.append_nil]
  exact ⟨F1, ds, r, h1.fh, dvs, e2, fun F' H' v P => k F' H' v (s1.trans P.ff) (c1.trans (P.cln h1.gh)) (P.rp h1) (P.rs h1)⟩⟩

/-! the list in a slot, and what is put there -/
def contE (ρ : En) (i : Nat) : Option (List D) := match ρ[i]? with
  | some (.own ds) => some ds
  | some (.io ds) => some ds
  | _ => none
def putE (ρ : En) (i : Nat) (ds : List D) : En := match ρ[i]? with
  | some (.io _) => ρ.set i (.io ds)
  | _ => ρ.set i (.own ds)
section
variable {F F' G H H' : Hp} {b' : Addr} {σ : L2.St} {ρ : En} {i : Nat} {ds ds' : List D}
theorem cont_ok (h : Rp F G H b' σ ρ) (e : contE ρ i = some ds) : OwnAt ρ i ∧ ∃ p vs, σ[i]? = some (some (.ref p)) ∧ H p = some (.lst vs) ∧ Dvs F vs ds ∧ F p = none ∧ G p = none := by
  unfold contE at e
  cases q : ρ[i]? with
  | none => simp [q] at e
  | some m =>
    have s := h.slot i m q
    cases m with
    | no => simp [q] at e
    | sh d => simp [q] at e
    | own xs =>
      simp only [q] at e
      cases e
      exact ⟨.inl ⟨_, q⟩, s⟩
    | io xs =>
      simp only [q] at e
      cases e
      obtain ⟨a, vs, r⟩ := s
      exact ⟨.inr ⟨_, q⟩, b', vs, a, r⟩
theorem putE_get {m : M} {j : Nat} (h : (putE ρ i ds)[j]? = some m) : (j = i ∧ (m = .own ds ∨ (m = .io ds ∧ ∃ xs, ρ[i]? = some (.io xs)))) ∨ (j ≠ i ∧ ρ[j]? = some m) := by
  unfold putE at h
  split at h
  · rename_i xs q
    rcases get_set h with ⟨a, b⟩ | ⟨a, b⟩
    · exact .inl ⟨a, .inr ⟨b, xs, q⟩⟩
    · exact .inr ⟨a, b⟩
  · rcases get_set h with ⟨a, b⟩ | ⟨a, b⟩
    · exact .inl ⟨a, .inl b⟩
    · exact .inr ⟨a, b⟩
theorem putE_len : (putE ρ i ds).length = ρ.length := by
  unfold putE
  split <;> rw [List.length_set]
/-- slot i's list changes; all else stands -/
theorem Rp.putC {p : Addr} {vs' : List V} (h : Rp F G H b' σ ρ) (o : OwnAt ρ i) (es : σ[i]? = some (some (.ref p))) (ff : Same F F') (fh : Same F' H') (gh : Same G H') (hh : ∀ a o, a ≠ p → H a = some o → (∃ vs, o = .lst vs) → H' a = some o)
    (hp : H' p = some (.lst vs')) (x : Dvs F' vs' ds') (fp : F' p = none) (fo : ∀ j q, OwnAt ρ j → σ[j]? = some (some (.ref q)) → F' q = none) : Rp F' G H' b' σ (putE ρ i ds') := by
  have oo : ∀ j, OwnAt (putE ρ i ds') j → OwnAt ρ j := fun j oj => by
    rcases oj with ⟨xs, e⟩ | ⟨xs, e⟩
    · rcases putE_get e with ⟨a, _⟩ | ⟨_, z⟩
      · rw [a]; exact o
      · exact .inl ⟨xs, z⟩
    · rcases putE_get e with ⟨a, _⟩ | ⟨_, z⟩
      · rw [a]; exact o
      · exact .inr ⟨xs, z⟩
  refine ⟨fh, gh, by rw [putE_len]; exact h.len, fun j m q => ?_, fun j k q oj ok => h.ne j k q (oo j oj) (oo k ok)⟩
  obtain ⟨_, _, gp⟩ := h.own_some o es
  rcases putE_get q with ⟨rfl, rfl | ⟨rfl, xs, z⟩⟩ | ⟨hj, q⟩
  · exact ⟨p, vs', es, hp, x, fp, gp.2⟩
  · have s : SlotOk F G H b' σ j (.io xs) := h.slot j _ z
    obtain ⟨a, _⟩ := s
    have : p = b' := by
      rw [es] at a
      cases a
      rfl
    subst this
    exact ⟨es, vs', hp, x, fp, gp.2⟩
  · have s := h.slot j m q
    have np : ∀ q', OwnAt ρ j → σ[j]? = some (some (.ref q')) → q' ≠ p := fun q' oj ej z => hj (h.ne j i p oj o (z ▸ ej) es)
    cases m with
    | no => trivial
    | sh d =>
      obtain ⟨v, a, c⟩ := s
      exact ⟨v, a, c.mono ff⟩
    | own xs =>
      obtain ⟨q', vs, a, c, d, f, g⟩ := s
      exact ⟨q', vs, a, hh _ _ (np q' (.inl ⟨_, q⟩) a) c ⟨_, rfl⟩, d.mono ff, fo j q' (.inl ⟨_, q⟩) a, g⟩
    | io xs =>
      obtain ⟨a, vs, c, d, f, g⟩ := s
      exact ⟨a, vs, hh _ _ (np b' (.inr ⟨_, q⟩) a) c ⟨_, rfl⟩, d.mono ff, fo j b' (.inr ⟨_, q⟩) a, g⟩
/-- by one store -/
theorem Rp.put1 {p : Addr} {vs' : List V} (h : Rp F G H b' σ ρ) (o : OwnAt ρ i) (es : σ[i]? = some (some (.ref p))) (x : Dvs F vs' ds') : Rp F G (upd H p (.lst vs')) b' σ (putE ρ i ds') := by
  obtain ⟨vs, hp, fp, gp⟩ := h.own_some o es
  refine h.putC o es (.refl _) (fun a o q => ?_) (fun a o q => ?_) (fun a o ha q _ => by rw [upd_ne ha]; exact q) upd_same x fp (fun j q oj ej => ?_)
  · rw [upd_ne (ne_of_none q fp)]
    exact h.fh _ _ q
  · rw [upd_ne (ne_of_none q gp)]
    exact h.gh _ _ q
  · exact (h.own_some oj ej).elim fun _ z => z.2.1
end
def mCallIO (φ : List D → List D → Option (R × List D)) (i : Nat) (ms : MA) : MR := fun ρ => do
  let _ ← contE ρ i
  let (ds, ρ1) ← ms ρ
  let ws ← contE ρ1 i
  let (r, ws') ← φ ws ds
  some (r, putE ρ1 i ws')
theorem me_callIO {φ : List D → List D → Option (R × List D)} {i : Nat} {y : Str} {py : Pos} (F : FnOk X.prog X.w X.K X.mg X.base CX0 k f fd ps (spIO φ)) (hr : Room k X.A) (hg : Gl X x) (hm : X.mg x = some (.ref f)) (hk : PySem.W.keepIn X.K (.ref f) = true) (hb : Binds X.K fd ps [])
    (hy : PE X (.Name y py) (tVar i)) (ha : MAs X es ms) (hdb : (x == ("__debug__" : Str)) = false := by decide) (he : starEach (.Name y py :: es) X.env = (false, eval (.Name y py) X.env) :: starEach es X.env := by rfl) (hpl : (backTo pos (starEach es X.env)).any (·.1) = false := by rfl) :
    ME X (.Call (.Name x p) (.Name y py :: es) [] pos) (mCallIO φ i ms) := ⟨(pe_call (dvs := []) F hr hg hm hk hb .nil pass0 (pa_cons hy ha.ok he) hdb he hpl).imq fun σ H Q q => by
  obtain ⟨F0, G, b, ρ, hr0, r, ρ', e, k⟩ := q
  obtain ⟨w0, e0, e⟩ := bind_some e
  obtain ⟨⟨ds, ρ1⟩, e1, e⟩ := bind_some e
  obtain ⟨ws, e2, e⟩ := bind_some e
  obtain ⟨⟨r1, ws'⟩, e3, e⟩ := bind_some e
  cases e
  obtain ⟨_, p0, vs0, es0, _⟩ := cont_ok hr0 e0
  refine ⟨.ref p0, es0, F0, G, b, ρ, hr0, ds, _, e1, fun F1 H1 vs s1 c1 h1 dvs => ?_⟩
  refine (show spIO φ ((.ref p0 :: vs) ++ []) H1 Q E0 from ?_)
  rw [List.append_nil]
  obtain ⟨o1, p1, bs, es1, hb1, xb, fb, gb⟩ := cont_ok h1 e2
  have : p1 = p0 := by
    rw [es0] at es1
    cases es1
    rfl
  subst this
  refine ⟨F1, p1, bs, ws, vs, ds, r, ws', rfl, h1.fh, hb1, fb, xb, dvs, e3, fun F' H' v bs' P hb' x' f' => ?_⟩
  have fo : ∀ j q, OwnAt ρ1 j → σ[j]? = some (some (.ref q)) → F' q = none := fun j q oj ej => by
    obtain ⟨_, a1, f1, _⟩ := h1.own_some oj ej
    cases z : F' q with
    | none => rfl
    | some u =>
      rcases P.new q (by rw [z]; exact fun y => nomatch y) with w | w
      · exact absurd f1 w
      · rw [a1] at w; cases w
  have rp' : Rp F' G H' b σ (putE ρ1 i ws') := by
    refine h1.putC o1 es0 P.ff P.fh (fun a o q => P.hh a o (fun z => ?_) (h1.gh _ _ q)) (fun a o ha q _ => P.hh a o ha q) hb' x' f' fo
    rw [z, gb] at q
    cases q
  refine k F' H' v (s1.trans P.ff) (c1.trans fun a ga fa => ?_) rp' ?_
  · rcases P.new a fa with w | w
    · exact w
    · exact absurd (h1.gh.free w) ga
  · have q := P.res
    cases r with
    | sh d => exact q
    | bw j => exact False.elim q
    | fr xs =>
      obtain ⟨p2, vs2, rfl, n2, a2, x2, f2⟩ := q
      refine ⟨p2, vs2, rfl, a2, x2, f2, h1.gh.free n2, fun j oj ej => ?_⟩
      have oj1 : OwnAt ρ1 j := by
        rcases oj with ⟨xs, e⟩ | ⟨xs, e⟩
        · rcases putE_get e with ⟨a, _⟩ | ⟨_, z⟩
          · rw [a]; exact o1
          · exact .inl ⟨xs, z⟩
        · rcases putE_get e with ⟨a, _⟩ | ⟨_, z⟩
          · rw [a]; exact o1
          · exact .inr ⟨xs, z⟩
      obtain ⟨_, a3, _, _⟩ := h1.own_some oj1 ej
      rw [n2] at a3
      cases a3⟩

/-! ### methods that change the list of a slot -/
section
variable {name y : Str} {py apos cpos : Pos} {i : Nat}
def mAppend (i : Nat) (m : MR) : MR := fun ρ => do
  let _ ← contE ρ i
  let (d, ρ1) ← mCap m ρ
  let ds ← contE ρ1 i
  if ds.length < lim then some (.sh .none, putE ρ1 i (ds ++ [d])) else none
theorem me_append (hy : PE X (.Name y py) (tVar i)) (he : ME X e m) (hbase : attributeBase (.Name y py) "append" X.env (eval (.Name y py) X.env) = eval (.Name y py) X.env := by rfl)
    (hfew : ((backTo cpos (starEach (e :: []) X.env)).all (fun x => !x.1) && (backToKw cpos (keywordEach [] X.env)).all (fun x => x.1.isSome)
      && decide ((e :: ([] : List Expr)).length + ([] : List Keyword).length + (if ([] : List Keyword).isEmpty then 0 else 1) < 30)) = true := by rfl)
    (hline : (apos.endLine == cpos.line) = true := by rfl) (hs : starEach (e :: []) X.env = (false, eval e X.env) :: starEach [] X.env := by rfl) (hplain : (backTo cpos (starEach [] X.env)).any (·.1) = false := by rfl) :
    ME X (.Call (.Attribute (.Name y py) "append" apos) [e] [] cpos) (mAppend i m) :=
  ⟨(pe_bm PySem.F.plainAttrs_list PySem.F.slot_list_append PySem.F.type_list_append mt_append hy (pa_cons he.ok pa_nil hs) hbase hfew hline hs hplain).imq fun σ H Q q => by
    obtain ⟨F, G, b, ρ, hr, r, ρ', e, k⟩ := q
    obtain ⟨w0, e0, e⟩ := bind_some e
    obtain ⟨⟨d, ρ1⟩, e1, e⟩ := bind_some e
    obtain ⟨ds, e2, e⟩ := bind_some e
    obtain ⟨hl, e⟩ := ite_some e
    cases e
    obtain ⟨⟨r1, ρ0⟩, e3, e1⟩ := bind_some e1
    obtain ⟨_, p0, vs0, es0, a0, _⟩ := cont_ok hr e0
    refine ⟨.ref p0, es0, .inl ⟨rfl, _, .of a0⟩, F, G, b, ρ, hr, r1, ρ0, e3, fun F1 H1 v1 s1 c1 h1 k1 => ?_⟩
    obtain ⟨F2, s2, c2, h2, dv⟩ := cap_ok h1 k1 e1
    obtain ⟨o1, p1, vs, es1, a1, x1, f1, g1⟩ := cont_ok h2 e2
    rw [es0] at es1
    cases es1
    refine ⟨p0, vs, v1, rfl, rfl, a1, by rw [x1.len]; exact lim_lt hl, ?_⟩
    exact k F2 _ .non (s1.trans s2) (c1.trans c2) (h2.put1 o1 es0 (x1.snoc dv)) .non⟩
def mPop (i : Nat) : MR := fun ρ => do
  let ds ← contE ρ i
  let d ← ds[ds.length - 1]?
  some (.sh d, putE ρ i ds.dropLast)
theorem dropLast_ok {F : Hp} {vs : List V} {ds : List D} (h : Dvs F vs ds) : Dvs F vs.dropLast ds.dropLast := by
  rw [List.dropLast_eq_take, List.dropLast_eq_take, h.len]
  exact h.take _
theorem me_pop (hy : PE X (.Name y py) (tVar i)) (hbase : attributeBase (.Name y py) "pop" X.env (eval (.Name y py) X.env) = eval (.Name y py) X.env := by rfl) (hline : (apos.endLine == cpos.line) = true := by rfl) :
    ME X (.Call (.Attribute (.Name y py) "pop" apos) [] [] cpos) (mPop i) :=
  ⟨(pe_bm0 PySem.F.plainAttrs_list PySem.F.slot_list_pop PySem.F.type_list_pop mt_pop hy hbase hline).imq fun σ H Q q => by
    obtain ⟨F, G, b, ρ, hr, r, ρ', e, k⟩ := q
    obtain ⟨ds, e0, e⟩ := bind_some e
    obtain ⟨d, e1, e⟩ := bind_some e
    cases e
    obtain ⟨o1, p0, vs, es0, a0, x0, f0, g0⟩ := cont_ok hr e0
    obtain ⟨v, ev, dv⟩ := x0.get e1
    refine ⟨.ref p0, es0, .inl ⟨rfl, _, .of a0⟩, p0, vs, v, rfl, rfl, a0, by rw [x0.len]; exact ev, ?_⟩
    exact k F _ v (.refl _) (.refl _ _) (hr.put1 o1 es0 (dropLast_ok x0)) dv⟩
def mPopAt (i : Nat) (m : MR) : MR := fun ρ => do
  let _ ← contE ρ i
  let (r, ρ1) ← m ρ
  match r with
  | .sh (.int z) => do
    let ds ← contE ρ1 i
    if i62 z = true then do
      let j ← seqIndex? z ds.length
      let d ← ds[j]?
      some (.sh d, putE ρ1 i (ds.eraseIdx j))
    else none
  | _ => none
theorem Dvs.erase {F : Hp} : ∀ {vs : List V} {ds : List D} (n : Nat), Dvs F vs ds → Dvs F (vs.eraseIdx n) (ds.eraseIdx n)
  | _, _, _, .nil => .nil
  | _, _, 0, .cons _ a => a
  | _, _, n + 1, .cons h a => .cons h (Dvs.erase n a)
theorem me_popAt (hy : PE X (.Name y py) (tVar i)) (he : ME X e m) (hbase : attributeBase (.Name y py) "pop" X.env (eval (.Name y py) X.env) = eval (.Name y py) X.env := by rfl)
    (hfew : ((backTo cpos (starEach (e :: []) X.env)).all (fun x => !x.1) && (backToKw cpos (keywordEach [] X.env)).all (fun x => x.1.isSome)
      && decide ((e :: ([] : List Expr)).length + ([] : List Keyword).length + (if ([] : List Keyword).isEmpty then 0 else 1) < 30)) = true := by rfl)
    (hline : (apos.endLine == cpos.line) = true := by rfl) (hs : starEach (e :: []) X.env = (false, eval e X.env) :: starEach [] X.env := by rfl) (hplain : (backTo cpos (starEach [] X.env)).any (·.1) = false := by rfl) :
    ME X (.Call (.Attribute (.Name y py) "pop" apos) [e] [] cpos) (mPopAt i m) :=
  ⟨(pe_bm PySem.F.plainAttrs_list PySem.F.slot_list_pop PySem.F.type_list_pop mt_popAt hy (pa_cons he.ok pa_nil hs) hbase hfew hline hs hplain).imq fun σ H Q q => by
    obtain ⟨F, G, b, ρ, hr, r, ρ', e, k⟩ := q
    obtain ⟨w0, e0, e⟩ := bind_some e
    obtain ⟨⟨r1, ρ1⟩, e1, e⟩ := bind_some e
    obtain ⟨_, p0, vs0, es0, a0, _⟩ := cont_ok hr e0
    refine ⟨.ref p0, es0, .inl ⟨rfl, _, .of a0⟩, F, G, b, ρ, hr, r1, ρ1, e1, fun F1 H1 v1 s1 c1 h1 k1 => ?_⟩
    match r1, k1, e with
    | .sh (.int z), k1, e =>
      cases (show Dv F1 v1 (.int z) from k1)
      obtain ⟨ds, e2, e⟩ := bind_some e
      obtain ⟨hz, e⟩ := ite_some' e
      obtain ⟨j, e3, e⟩ := bind_some e
      obtain ⟨d, e4, e⟩ := bind_some e
      cases e
      obtain ⟨o1, p1, vs, es1, a1, x1, f1, g1⟩ := cont_ok h1 e2
      rw [es0] at es1
      cases es1
      obtain ⟨v, ev, dv⟩ := x1.get e4
      have b62 := i62_ok hz
      refine ⟨p0, vs, z, j, v, rfl, rfl, a1, by omega, by omega, by rw [x1.len]; exact e3, ev, ?_⟩
      exact k F1 _ v s1 c1 (h1.put1 o1 es0 (x1.erase j)) dv⟩
def mExtend (i : Nat) (m : MR) : MR := fun ρ => do
  let _ ← contE ρ i
  let (r, ρ1) ← m ρ
  let d ← deref ρ1 r
  match d with
  | .list es => do
    let ds ← contE ρ1 i
    if ds.length + es.length ≤ lim then some (.sh .none, putE ρ1 i (ds ++ es)) else none
  | _ => none
theorem me_extend (hy : PE X (.Name y py) (tVar i)) (he : ME X e m) (hbase : attributeBase (.Name y py) "extend" X.env (eval (.Name y py) X.env) = eval (.Name y py) X.env := by rfl)
    (hfew : ((backTo cpos (starEach (e :: []) X.env)).all (fun x => !x.1) && (backToKw cpos (keywordEach [] X.env)).all (fun x => x.1.isSome)
      && decide ((e :: ([] : List Expr)).length + ([] : List Keyword).length + (if ([] : List Keyword).isEmpty then 0 else 1) < 30)) = true := by rfl)
    (hline : (apos.endLine == cpos.line) = true := by rfl) (hs : starEach (e :: []) X.env = (false, eval e X.env) :: starEach [] X.env := by rfl) (hplain : (backTo cpos (starEach [] X.env)).any (·.1) = false := by rfl) :
    ME X (.Call (.Attribute (.Name y py) "extend" apos) [e] [] cpos) (mExtend i m) :=
  ⟨(pe_bm PySem.F.plainAttrs_list PySem.F.slot_list_extend PySem.F.type_list_extend mt_extend hy (pa_cons he.ok pa_nil hs) hbase hfew hline hs hplain).imq fun σ H Q q => by
    obtain ⟨F, G, b, ρ, hr, r, ρ', e, k⟩ := q
    obtain ⟨w0, e0, e⟩ := bind_some e
    obtain ⟨⟨r1, ρ1⟩, e1, e⟩ := bind_some e
    obtain ⟨d, e2, e⟩ := bind_some e
    obtain ⟨_, p0, vs0, es0, a0, _⟩ := cont_ok hr e0
    refine ⟨.ref p0, es0, .inl ⟨rfl, _, .of a0⟩, F, G, b, ρ, hr, r1, ρ1, e1, fun F1 H1 v1 s1 c1 h1 k1 => ?_⟩
    have bd := k1.bd h1 e2
    match d, bd, e with
    | .list xs, bd, e =>
      obtain ⟨ds, e3, e⟩ := bind_some e
      obtain ⟨hl, e⟩ := ite_some e
      cases e
      obtain ⟨o1, p1, vs, es1, a1, x1, f1, g1⟩ := cont_ok h1 e3
      rw [es0] at es1
      cases es1
      obtain ⟨q, ys, rfl, aq, xq⟩ := bd.list h1.fh
      refine ⟨p0, q, vs, ys, rfl, rfl, a1, aq, by rw [x1.len, xq.len]; exact lim_le hl, ?_⟩
      exact k F1 _ .non s1 c1 (h1.put1 o1 es0 (x1.app xq)) .non⟩
/-- xs[k] = v -/
def sPut (i : Nat) (mi mv : MR) : MS' := fun ρ => do
  let (d, ρ1) ← mCap mv ρ
  let _ ← contE ρ1 i
  let (r, ρ2) ← mi ρ1
  match r with
  | .sh (.int z) => do
    let ds ← contE ρ2 i
    let j ← ixN ds.length z
    some (.nx, putE ρ2 i (ds.set j d))
  | _ => none
theorem ms_put {ei : Expr} {mi mv : MR} {spos : Pos} (hy : PE X (.Name y py) (tVar i)) (hi : ME X ei mi) (he : ME X e mv)
    (ha : ∀ v, assign (.Subscript (.Name y py) ei pos) X.env v = (do
      let ov ← holding [v] (eval (.Name y py) X.env)
      let iv ← holding [v, ov] (eval ei X.env)
      standAt pos
      holding [v, ov, iv] (setItem ov iv v)
      release [v, ov, iv] []) := by intro _; rfl)
    (hs : swapsWithSole [.Subscript (.Name y py) ei pos] e spos.line X.env = pure false := by rfl) (hw : swappedStores [.Subscript (.Name y py) ei pos] e X.env = pure none := by rfl) (h1 : (assignEach [.Subscript (.Name y py) ei pos] X.env).map (·.2) = [assign (.Subscript (.Name y py) ei pos) X.env] := by rfl) :
    MSt X (.Assign [.Subscript (.Name y py) ei pos] e spos) (sPut i mi mv) := ⟨(ps_asg he.ok (pg_sub hy hi.ok set_list ha) hs hw h1).imq fun D σ H q => by
  obtain ⟨F, G, b, ρ, hr, o, ρ', e, k⟩ := q
  obtain ⟨⟨d, ρ1⟩, e1, e⟩ := bind_some e
  obtain ⟨w0, e0, e⟩ := bind_some e
  obtain ⟨⟨r, ρ2⟩, e2, e⟩ := bind_some e
  obtain ⟨⟨rv, ρ0⟩, e3, e1⟩ := bind_some e1
  refine ⟨F, G, b, ρ, hr, rv, ρ0, e3, fun F1 H1 v1 s1 c1 h1 k1 => ?_⟩
  obtain ⟨F2, s2, c2, h2, dv⟩ := cap_ok h1 k1 e1
  obtain ⟨_, p0, vs0, es0, a0, _⟩ := cont_ok h2 e0
  refine ⟨.ref p0, es0, F2, G, b, ρ1, h2, r, ρ2, e2, fun F3 H3 v3 s3 c3 h3 k3 => ?_⟩
  match r, k3, e with
  | .sh (.int z), k3, e =>
    cases (show Dv F3 v3 (.int z) from k3)
    obtain ⟨ds, e4, e⟩ := bind_some e
    obtain ⟨j, e5, e⟩ := bind_some e
    cases e
    obtain ⟨o1, p1, vs, es1, a1, x1, f1, g1⟩ := cont_ok h3 e4
    rw [es0] at es1
    cases es1
    refine ⟨p0, vs, z, j, rfl, rfl, a1, by rw [x1.len]; exact e5, ?_⟩
    exact k F3 _ σ (s1.trans (s2.trans s3)) (c1.trans (c2.trans c3)) (h3.put1 o1 es0 (x1.set j (dv.mono s3)))⟩
end
end
end Mi
set_option Elab.async false
set_option linter.all false
set_option maxRecDepth 100000
/-! Core6: operators, comparisons, subscripts, slices, built-ins on data. -/
namespace Mi
open PySem PySem.Spec PyProof.Rows L2
open PySem.W (alike alikeAll dataLt AlikeAll minD maxD lt_data gt_data le_data ge_data min_list_data max_list_data)
variable [KK]

/-! ### plain data: no dict in it -/
mutual
def plainD : D → Bool
  | .none => true
  | .bool _ => true
  | .int _ => true
  | .str _ => true
  | .list ds => plainDs ds
  | .tuple ds => plainDs ds
  | .dict _ => false
def plainDs : List D → Bool
  | [] => true
  | d :: ds => plainD d && plainDs ds
end
mutual
theorem Dv.pl {K : Fr0} {F : Hp} : ∀ {v : V} {d : D}, Dv F v d → plainD d = true → Dp K F v d
  | _, _, .non, _ => .non
  | _, _, .bl b, _ => .bl b
  | _, _, .int i, _ => .int i
  | _, _, .str x, _ => .str x
  | _, _, .lst h a, c => .lst (.of h) (Dvs.pl a c)
  | _, _, .tup h a, c => .tup (.of h) (Dvs.pl a c)
  | _, _, .frz h a, c => by cases c
theorem Dvs.pl {K : Fr0} {F : Hp} : ∀ {vs : List V} {ds : List D}, Dvs F vs ds → plainDs ds = true → DpAll K F vs ds
  | _, _, .nil, _ => .nil
  | _, _, .cons h a, c => by
    have c' := Bool.and_eq_true_iff.mp c
    exact .cons (Dv.pl h c'.1) (Dvs.pl a c'.2)
end
mutual
theorem plain_of_canLay : ∀ d : D, d.canLay0 = true → plainD d = true
  | .none, _ => rfl
  | .bool _, _ => rfl
  | .int _, _ => rfl
  | .str _, _ => rfl
  | .list ds, h => plains_of_canLay ds h
  | .tuple ds, h => plains_of_canLay ds h
  | .dict _, h => by cases h
theorem plains_of_canLay : ∀ ds : List D, PyData.canLayAll0 ds = true → plainDs ds = true
  | [], _ => rfl
  | d :: ds, h => by
    have h' := Bool.and_eq_true_iff.mp h
    exact Bool.and_eq_true_iff.mpr ⟨plain_of_canLay d h'.1, plains_of_canLay ds h'.2⟩
end
theorem Bd.dp {K : Fr0} {F H : Hp} {v : V} {d : D} (s : Same F H) (h : Bd F H v d) (c : plainD d = true) : Dp K H v d := (h.dv s).pl c

/-! ### arithmetic -/
section
variable {X : Cx}
def addI : D → D → Option R
  | .int a, .int b => some (.sh (.int (a + b)))
  | _, _ => none
def addS : D → D → Option R
  | .str a, .str b => if a.length + b.length ≤ lim then some (.sh (.str (a ++ b))) else none
  | _, _ => none
def addL : D → D → Option R
  | .list a, .list b => if a.length + b.length ≤ lim then some (.fr (a ++ b)) else none
  | _, _ => none
def addT : D → D → Option R
  | .tuple a, .tuple b => if a.length + b.length ≤ lim then some (.sh (.tuple (a ++ b))) else none
  | _, _ => none
def addD : D → D → Option R
  | .int a, .int b => some (.sh (.int (a + b)))
  | .str a, .str b => if a.length + b.length ≤ lim then some (.sh (.str (a ++ b))) else none
  | .list a, .list b => if a.length + b.length ≤ lim then some (.fr (a ++ b)) else none
  | .tuple a, .tuple b => if a.length + b.length ≤ lim then some (.sh (.tuple (a ++ b))) else none
  | _, _ => none
theorem op2_I {f : Int → Int → Int} {g : D → D → Option R} (h : ∀ a b k, g a b = some k → ∃ i j, a = .int i ∧ b = .int j ∧ k = .sh (.int (f i j))) : Op2 (rI0 fun i j => .int (f i j)) g := fun F H v1 v2 d1 d2 k s b1 b2 e Q q => by
  obtain ⟨i, j, rfl, rfl, rfl⟩ := h d1 d2 k e
  exact ⟨i, j, b1.int, b2.int, q F H _ (post_sh s (.int _))⟩
theorem op2_C {C : Int → Int → Prop} {f : Int → Int → Int} {g : D → D → Option R} (h : ∀ a b k, g a b = some k → ∃ i j, a = .int i ∧ b = .int j ∧ C i j ∧ k = .sh (.int (f i j))) : Op2 (rI C fun i j => .int (f i j)) g := fun F H v1 v2 d1 d2 k s b1 b2 e Q q => by
  obtain ⟨i, j, rfl, rfl, c, rfl⟩ := h d1 d2 k e
  exact ⟨i, j, b1.int, b2.int, c, q F H _ (post_sh s (.int _))⟩
theorem o_addI : Op2 (rI0 fun i j => .int (i + j)) addI := op2_I fun a b k e => by
  match a, b, e with
  | .int i, .int j, e => exact ⟨i, j, rfl, rfl, (Option.some.inj e).symm⟩
theorem o_addS : Op2 (fun x y H Q => ∃ i j, x = .str i ∧ y = .str j ∧ i.length + j.length ≤ sizeLine ∧ Q (.str (i ++ j)) H) addS := fun F H v1 v2 d1 d2 k s b1 b2 e Q q => by
  match d1, d2, e, b1, b2 with
  | .str a, .str b, e, b1, b2 =>
    obtain ⟨hl, rfl⟩ := ite_some (show (if a.length + b.length ≤ lim then some (R.sh (.str (a ++ b))) else none) = some k from e)
    exact ⟨a, b, b1.str, b2.str, lim_le hl, q F H _ (post_sh s (.str _))⟩
theorem o_addL : Op2 rCat addL := fun F H v1 v2 d1 d2 k s b1 b2 e Q q => by
  match d1, d2, e, b1, b2 with
  | .list a, .list b, e, b1, b2 =>
    obtain ⟨hl, rfl⟩ := ite_some (show (if a.length + b.length ≤ lim then some (R.fr (a ++ b)) else none) = some k from e)
    obtain ⟨p1, xs, rfl, h1, x1⟩ := b1.list s
    obtain ⟨p2, ys, rfl, h2, x2⟩ := b2.list s
    exact ⟨p1, p2, xs, ys, rfl, rfl, h1, h2, by rw [x1.len, x2.len]; exact lim_le hl, fun p hp => q _ _ _ (post_fr s hp (x1.app x2))⟩
theorem o_addT {K : Fr0} : Op2 (rCatA K) addT := fun F H v1 v2 d1 d2 k s b1 b2 e Q q => by
  match d1, d2, e, b1, b2 with
  | .tuple a, .tuple b, e, b1, b2 =>
    obtain ⟨hl, rfl⟩ := ite_some (show (if a.length + b.length ≤ lim then some (R.sh (.tuple (a ++ b))) else none) = some k from e)
    obtain ⟨p1, xs, rfl, h1, x1⟩ := b1.tup
    obtain ⟨p2, ys, rfl, h2, x2⟩ := b2.tup
    refine ⟨p1, p2, xs, ys, rfl, rfl, .of (s _ _ h1), .of (s _ _ h2), by rw [x1.len, x2.len]; exact lim_le hl, fun z => ?_, fun _ z => ?_, fun _ _ p hp => q _ _ _ (post_tup s hp (x1.app x2))⟩
    · subst z
      cases x1
      exact q F H _ (post_sh s (.tup h2 x2))
    · subst z
      cases x2
      rw [List.append_nil] at q
      exact q F H _ (post_sh s (.tup h1 x1))
theorem bin_add : BinOk X .Add addD := ⟨_, op_add.or (op_add_str.or (op_cat.or op_catA)), Op2.or (g := fun a b => match a, b with
    | .int _, .int _ => none
    | a, b => addD a b) o_addI (Op2.or (g := fun a b => match a, b with
      | .list a, .list b => addD (.list a) (.list b)
      | .tuple a, .tuple b => addD (.tuple a) (.tuple b)
      | _, _ => none) o_addS (Op2.or o_addL o_addT fun a b z e => by
        match a, b, e with
        | .list a, .list b, e => exact .inl e
        | .tuple a, .tuple b, e => exact .inr e) fun a b z e => by
      match a, b, e with
      | .str a, .str b, e => exact .inl e
      | .list a, .list b, e => exact .inr e
      | .tuple a, .tuple b, e => exact .inr e
      | .int a, b, e => cases b <;> cases e) fun a b z e => by
    match a, b, e with
    | .int a, .int b, e => exact .inl e
    | .str a, .str b, e => exact .inr e
    | .list a, .list b, e => exact .inr e
    | .tuple a, .tuple b, e => exact .inr e⟩
def subD : D → D → Option R
  | .int a, .int b => some (.sh (.int (a - b)))
  | _, _ => none
theorem bin_sub : BinOk X .Sub subD := ⟨_, op_sub, op2_I fun a b k e => by
  match a, b, e with
  | .int i, .int j, e => exact ⟨i, j, rfl, rfl, (Option.some.inj e).symm⟩⟩
def i64 (i : Int) : Bool := decide (-(2 ^ 64) < i) && decide (i < 2 ^ 64)
theorem i64_ok {i : Int} (h : i64 i = true) : -(2 ^ 64) < i ∧ i < 2 ^ 64 := by
  unfold i64 at h
  have := Bool.and_eq_true_iff.mp h
  exact ⟨of_decide_eq_true this.1, of_decide_eq_true this.2⟩
def mulI : D → D → Option R
  | .int a, .int b => if (i64 a || i64 b) = true then some (.sh (.int (a * b))) else none
  | _, _ => none
theorem o_mulI : Op2 (rI CMul fun i j => .int (i * j)) mulI := op2_C fun a b k e => by
  match a, b, e with
  | .int i, .int j, e =>
    obtain ⟨h, rfl⟩ := ite_some (show (if (i64 i || i64 j) = true then some (R.sh (.int (i * j))) else none) = some k from e)
    exact ⟨i, j, rfl, rfl, (Bool.or_eq_true_iff.mp h).imp i64_ok i64_ok, rfl⟩
/-- list * int -/
def mulL : D → D → Option R
  | .list a, .int k => if i62 k = true ∧ a.length * k.toNat ≤ lim then some (.fr (List.replicate k.toNat a).flatten) else none
  | _, _ => none
theorem flat_rep {F : Hp} {vs : List V} {ds : List D} (h : Dvs F vs ds) : ∀ n, Dvs F (List.replicate n vs).flatten (List.replicate n ds).flatten
  | 0 => .nil
  | n + 1 => by
    rw [List.replicate_succ, List.replicate_succ, List.flatten_cons, List.flatten_cons]
    exact h.app (flat_rep h n)
theorem o_mulL : Op2 rRep mulL := fun F H v1 v2 d1 d2 k s b1 b2 e Q q => by
  match d1, d2, e, b1, b2 with
  | .list a, .int z, e, b1, b2 =>
    obtain ⟨⟨hz, hl⟩, rfl⟩ := ite_some (show (if i62 z = true ∧ a.length * z.toNat ≤ lim then some (R.fr (List.replicate z.toNat a).flatten) else none) = some k from e)
    obtain ⟨p1, xs, rfl, h1, x1⟩ := b1.list s
    have b62 := i62_ok hz
    exact ⟨p1, z, xs, rfl, b2.int, h1, by omega, by omega, by rw [x1.len]; exact lim_le hl, fun p hp => q _ _ _ (post_fr s hp (flat_rep x1 _))⟩
def mulD : D → D → Option R
  | .int a, .int b => mulI (.int a) (.int b)
  | .list a, .int b => mulL (.list a) (.int b)
  | _, _ => none
theorem bin_mul : BinOk X .Mult mulD := ⟨_, op_mul.or op_rep, Op2.or o_mulI o_mulL fun a b z e => by
  match a, b, e with
  | .int a, .int b, e => exact .inl e
  | .list a, .int b, e => exact .inr e⟩
def divD : D → D → Option R
  | .int a, .int b => if 0 < b ∧ b < 2 ^ 64 then some (.sh (.int (a / b))) else none
  | _, _ => none
theorem bin_fdiv : BinOk X .FloorDiv divD := ⟨_, op_fdivW, op2_C fun a b k e => by
  match a, b, e with
  | .int i, .int j, e =>
    obtain ⟨h, rfl⟩ := ite_some (show (if 0 < j ∧ j < 2 ^ 64 then some (R.sh (.int (i / j))) else none) = some k from e)
    exact ⟨i, j, rfl, rfl, wide_div (b := 64) h.1 (by omega) (by decide) (by decide), rfl⟩⟩
def modD : D → D → Option R
  | .int a, .int b => if 0 < b then some (.sh (.int (a % b))) else none
  | _, _ => none
theorem bin_mod : BinOk X .Mod modD := ⟨_, op_mod, op2_C fun a b k e => by
  match a, b, e with
  | .int i, .int j, e =>
    obtain ⟨h, rfl⟩ := ite_some (show (if 0 < j then some (R.sh (.int (i % j))) else none) = some k from e)
    exact ⟨i, j, rfl, rfl, h, rfl⟩⟩
def powD : D → D → Option R
  | .int a, .int b => if (i64 a = true ∧ 0 ≤ b ∧ b ≤ 1000) then some (.sh (.int (a ^ b.toNat))) else none
  | _, _ => none
theorem bin_pow : BinOk X .Pow powD := ⟨_, op_pow, op2_C fun a b k e => by
  match a, b, e with
  | .int i, .int j, e =>
    obtain ⟨⟨h1, h2, h3⟩, rfl⟩ := ite_some (show (if (i64 i = true ∧ 0 ≤ j ∧ j ≤ 1000) then some (R.sh (.int (i ^ j.toNat))) else none) = some k from e)
    have b64 := i64_ok h1
    exact ⟨i, j, rfl, rfl, ⟨h2, by omega, by omega⟩, rfl⟩⟩
def xorD : D → D → Option R
  | .int a, .int b => some (.sh (.int (Builtin.bitXor a b)))
  | _, _ => none
theorem bin_xor : BinOk X .BitXor xorD := ⟨_, op_xor, op2_I fun a b k e => by
  match a, b, e with
  | .int i, .int j, e => exact ⟨i, j, rfl, rfl, (Option.some.inj e).symm⟩⟩
def negD : D → Option R
  | .int a => some (.sh (.int (-a)))
  | _ => none
theorem un_negD : UnOk X .USub negD := ⟨_, un_neg, fun F H v1 d1 k s b e Q q => by
  match d1, e, b with
  | .int i, e, b =>
    cases e
    exact ⟨i, b.int, q F H _ (post_sh s (.int _))⟩⟩

/-! ### comparisons -/
def eqD : D → D → Option Bool
  | .str a, .str b => some (decide (a = b))
  | .int a, .int b => some (decide (a = b))
  | a, b => if SeqAt.shaped a = true ∧ SeqAt.shaped b = true then some (PyData.eqv a b) else none
theorem eqD_cases {a b : D} {k : Bool} (h : eqD a b = some k) : (∃ x y, a = .str x ∧ b = .str y ∧ k = decide (x = y)) ∨ (∃ x y, a = .int x ∧ b = .int y ∧ k = decide (x = y)) ∨ (SeqAt.shaped a = true ∧ SeqAt.shaped b = true ∧ PyData.eqv a b = k) := by
  unfold eqD at h
  split at h
  · exact .inl ⟨_, _, rfl, rfl, (Option.some.inj h).symm⟩
  · exact .inr (.inl ⟨_, _, rfl, rfl, (Option.some.inj h).symm⟩)
  · obtain ⟨⟨h1, h2⟩, h3⟩ := ite_some h
    exact .inr (.inr ⟨h1, h2, h3⟩)
theorem plain_of_shaped {d : D} (h : SeqAt.shaped d = true) : plainD d = true := plain_of_canLay d (SeqAt.canLay_of_shaped h)
theorem decV_str {x y : Str} : decide (V.str x = V.str y) = decide (x = y) := by
  by_cases h : x = y
  · rw [h]; simp
  · rw [decide_eq_false h, decide_eq_false (fun z => h (V.str.inj z))]
theorem decV_int {x y : Int} : decide (V.int x = V.int y) = decide (x = y) := by
  by_cases h : x = y
  · rw [h]; simp
  · rw [decide_eq_false h, decide_eq_false (fun z => h (V.int.inj z))]
theorem cmp_eq (hu : X.A.units + 64 < cLine) : CmpOk X .Eq eqD := ⟨_, op_eq.or (op_eqD hu), fun F H v1 v2 d1 d2 k s b1 b2 e Q q => by
  rcases eqD_cases e with ⟨x, y, rfl, rfl, rfl⟩ | ⟨x, y, rfl, rfl, rfl⟩ | ⟨h1, h2, rfl⟩
  · rw [b1.str, b2.str]
    exact .inl ⟨rfl, by rw [decV_str]; exact q⟩
  · rw [b1.int, b2.int]
    exact .inl ⟨rfl, by rw [decV_int]; exact q⟩
  · exact .inr ⟨d1, d2, b1.dp s (plain_of_shaped h1), b2.dp s (plain_of_shaped h2), h1, h2, q⟩⟩
def neD (a b : D) : Option Bool := (eqD a b).map (!·)
theorem cmp_ne (hu : X.A.units + 64 < cLine) : CmpOk X .NotEq neD := ⟨_, op_ne.or (op_neD hu), fun F H v1 v2 d1 d2 k s b1 b2 e Q q => by
  unfold neD at e
  cases z : eqD d1 d2 with
  | none => rw [z] at e; cases e
  | some w =>
    rw [z] at e
    cases e
    rcases eqD_cases z with ⟨x, y, rfl, rfl, rfl⟩ | ⟨x, y, rfl, rfl, rfl⟩ | ⟨h1, h2, rfl⟩
    · rw [b1.str, b2.str]
      exact .inl ⟨rfl, by rw [decV_str]; exact q⟩
    · rw [b1.int, b2.int]
      exact .inl ⟨rfl, by rw [decV_int]; exact q⟩
    · exact .inr ⟨d1, d2, b1.dp s (plain_of_shaped h1), b2.dp s (plain_of_shaped h2), h1, h2, q⟩⟩
/-- orders: ints; else alike plain data -/
def rLtG (K : Fr0) (f : D → D → Bool) : R2 := fun x y H Q => ∃ d e, Dp K H x d ∧ Dp K H y e ∧ alike d e = true ∧ d ≠ .none ∧ min d.depth e.depth ≤ 60 ∧ Q (.bl (f d e)) H
theorem op_ltG (hu : X.A.units + 64 < cLine) : OpR X (compareOp .Lt) (rLtG X.K dataLt) := by
  intro pins s σ H x y v u Q I rx ry h
  obtain ⟨d, e, hd, he, sd, sn, se, q⟩ := h
  obtain ⟨as, r1⟩ := Dp.reads I d x v hd rx
  obtain ⟨bs, r2⟩ := Dp.reads I e y u he ry
  exact lt_data r1 r2 sd sn (by omega) ⟨.bl _, H, I, rfl, q⟩
theorem op_gtG (hu : X.A.units + 64 < cLine) : OpR X (compareOp .Gt) (rLtG X.K fun a b => dataLt b a) := by
  intro pins s σ H x y v u Q I rx ry h
  obtain ⟨d, e, hd, he, sd, sn, se, q⟩ := h
  obtain ⟨as, r1⟩ := Dp.reads I d x v hd rx
  obtain ⟨bs, r2⟩ := Dp.reads I e y u he ry
  exact gt_data r1 r2 sd sn (by omega) ⟨.bl _, H, I, rfl, q⟩
theorem op_leG (hu : X.A.units + 64 < cLine) : OpR X (compareOp .LtE) (rLtG X.K fun a b => !dataLt b a) := by
  intro pins s σ H x y v u Q I rx ry h
  obtain ⟨d, e, hd, he, sd, sn, se, q⟩ := h
  obtain ⟨as, r1⟩ := Dp.reads I d x v hd rx
  obtain ⟨bs, r2⟩ := Dp.reads I e y u he ry
  exact le_data r1 r2 sd sn (by omega) ⟨.bl _, H, I, rfl, q⟩
theorem op_geG (hu : X.A.units + 64 < cLine) : OpR X (compareOp .GtE) (rLtG X.K fun a b => !dataLt a b) := by
  intro pins s σ H x y v u Q I rx ry h
  obtain ⟨d, e, hd, he, sd, sn, se, q⟩ := h
  obtain ⟨as, r1⟩ := Dp.reads I d x v hd rx
  obtain ⟨bs, r2⟩ := Dp.reads I e y u he ry
  exact ge_data r1 r2 sd sn (by omega) ⟨.bl _, H, I, rfl, q⟩
def ordOk (a b : D) : Bool := plainD a && plainD b && alike a b && decide (min a.depth b.depth ≤ 60) && (match a with | .none => false | _ => true)
def ordD (fi : Int → Int → Bool) (fg : D → D → Bool) : D → D → Option Bool
  | .int a, .int b => some (fi a b)
  | a, b => if ordOk a b = true then some (fg a b) else none
theorem ordD_ok {K : Fr0} {fi : Int → Int → Bool} {fg : D → D → Bool} : Op2B (fun x y H Q => rI0 (fun i j => .bl (fi i j)) x y H Q ∨ rLtG K fg x y H Q) (ordD fi fg) := fun F H v1 v2 d1 d2 k s b1 b2 e Q q => by
  unfold ordD at e
  split at e
  · cases e
    exact .inl ⟨_, _, b1.int, b2.int, q⟩
  · obtain ⟨h, rfl⟩ := ite_some e
    unfold ordOk at h
    simp only [Bool.and_eq_true, decide_eq_true_eq] at h
    obtain ⟨⟨⟨⟨h1, h2⟩, h3⟩, h4⟩, h5⟩ := h
    exact .inr ⟨d1, d2, b1.dp s h1, b2.dp s h2, h3, fun z => (by rw [z] at h5; cases h5), h4, q⟩
def ltD := ordD (fun a b => decide (a < b)) dataLt
def gtD := ordD (fun a b => decide (b < a)) fun a b => dataLt b a
def leD := ordD (fun a b => decide (a ≤ b)) fun a b => !dataLt b a
def geD := ordD (fun a b => decide (b ≤ a)) fun a b => !dataLt a b
theorem cmp_lt (hu : X.A.units + 64 < cLine) : CmpOk X .Lt ltD := ⟨_, op_lt.or (op_ltG hu), ordD_ok⟩
theorem cmp_gt (hu : X.A.units + 64 < cLine) : CmpOk X .Gt gtD := ⟨_, op_gt.or (op_gtG hu), ordD_ok⟩
theorem cmp_le (hu : X.A.units + 64 < cLine) : CmpOk X .LtE leD := ⟨_, op_le.or (op_leG hu), ordD_ok⟩
theorem cmp_ge (hu : X.A.units + 64 < cLine) : CmpOk X .GtE geD := ⟨_, op_ge.or (op_geG hu), ordD_ok⟩
/-- is None -/
def noneD : D → Bool
  | .none => true
  | _ => false
def isND (a b : D) : Option Bool := match b with
  | .none => some (noneD a)
  | _ => none
theorem isN_dec {F H : Hp} {v : V} {d : D} (h : Bd F H v d) : decide (v = .non) = noneD d := by
  rcases h with h | ⟨p, vs, ds, rfl, _, _, rfl⟩
  · cases h <;> rfl
  · rfl
theorem cmp_is : CmpOk X .Is isND := ⟨_, op_isN, fun F H v1 v2 d1 d2 k s b1 b2 e Q q => by
  match d2, e, b2 with
  | .none, e, b2 =>
    cases e
    exact ⟨b2.non, by rw [isN_dec b1]; exact q⟩⟩
theorem cmp_isnot : CmpOk X .IsNot (fun a b => (isND a b).map (!·)) := ⟨_, op_notN, fun F H v1 v2 d1 d2 k s b1 b2 e Q q => by
  match d2, e, b2 with
  | .none, e, b2 =>
    cases e
    exact ⟨b2.non, by rw [isN_dec b1]; exact q⟩⟩
/-- x in a list of data; in a tuple of flat data -/
def flatD : D → Bool
  | .none => true
  | .bool _ => true
  | .int _ => true
  | .str _ => true
  | _ => false
theorem flat_v {F H : Hp} {v : V} {d : D} (h : Bd F H v d) (e : flatD d = true) : flatV v = true := by
  rcases h with h | ⟨p, vs, ds, rfl, _, _, rfl⟩
  · cases h <;> first | rfl | cases e
  · cases e
theorem flat_vs {F : Hp} : ∀ {vs : List V} {ds : List D}, Dvs F vs ds → ds.all flatD = true → vs.all flatV = true
  | _, _, .nil, _ => rfl
  | _, _, .cons h a, c => by
    rw [List.all_cons] at c ⊢
    have c' := Bool.and_eq_true_iff.mp c
    rw [flat_v (H := F) (.inl h) c'.1, flat_vs a c'.2]
    rfl
def inD : D → D → Option Bool
  | a, .list ds => if SeqAt.shaped a = true ∧ SeqAt.shaped (.list ds) = true then some (ds.any fun z => PyData.eqv z a) else none
  | _, _ => none
theorem cmp_in (hu : X.A.units + 65 < cLine) : CmpOk X .In inD := ⟨_, op_inD hu, fun F H v1 v2 d1 d2 k s b1 b2 e Q q => by
  match d2, e, b2 with
  | .list ds, e, b2 =>
    obtain ⟨⟨h1, h2⟩, rfl⟩ := ite_some (show (if SeqAt.shaped d1 = true ∧ SeqAt.shaped (.list ds) = true then some (ds.any fun z => PyData.eqv z d1) else none) = some k from e)
    exact ⟨d1, ds, b1.dp s (plain_of_shaped h1), b2.dp s (plain_of_shaped h2), h1, h2, q⟩⟩
theorem cmp_notin (hu : X.A.units + 65 < cLine) : CmpOk X .NotIn (fun a b => (inD a b).map (!·)) := ⟨_, op_notInD hu, fun F H v1 v2 d1 d2 k s b1 b2 e Q q => by
  match d2, e, b2 with
  | .list ds, e, b2 =>
    by_cases hs : SeqAt.shaped d1 = true ∧ SeqAt.shaped (.list ds) = true
    · have e2 : (some (ds.any fun z => PyData.eqv z d1)).map (!·) = some k := by
        rw [← e]
        show _ = (if SeqAt.shaped d1 = true ∧ SeqAt.shaped (.list ds) = true then some (ds.any fun z => PyData.eqv z d1) else none).map (!·)
        rw [if_pos hs]
      cases e2
      exact ⟨d1, ds, b1.dp s (plain_of_shaped hs.1), b2.dp s (plain_of_shaped hs.2), hs.1, hs.2, q⟩
    · have e2 : none = some k := by
        rw [← e]
        show _ = (if SeqAt.shaped d1 = true ∧ SeqAt.shaped (.list ds) = true then some (ds.any fun z => PyData.eqv z d1) else none).map (!·)
        rw [if_neg hs]
        rfl
      cases e2⟩

/-! ### subscripts, slices -/
def ixD : D → D → Option R
  | .list ds, .int i => (atI ds i).map .sh
  | .tuple ds, .int i => (atI ds i).map .sh
  | .str z, .int i => if z.length ≤ lim then (atI z.cps.toList i).map fun c => .sh (.str ⟨#[c]⟩) else none
  | .dict [(.none, .list ds)], .int i => (atI ds i).map .sh
  | _, _ => none
theorem at_dvs {F : Hp} {vs : List V} {ds : List D} {i : Int} {d : D} (h : Dvs F vs ds) (e : atI ds i = some d) : ∃ v, atI vs i = some v ∧ Dv F v d := by
  unfold atI at e ⊢
  rw [h.len]
  cases q : ixN ds.length i with
  | none => rw [q] at e; cases e
  | some j =>
    rw [q] at e
    exact h.get e
theorem map_some {α β : Type} {o : Option α} {f : α → β} {z : β} (h : o.map f = some z) : ∃ a, o = some a ∧ f a = z := by
  cases o with
  | none => cases h
  | some a => exact ⟨a, rfl, Option.some.inj h⟩
theorem o_ix {K : Fr0} (hK : K = KK.K) : Op2 (rIx K) ixD := fun F H v1 v2 d1 d2 k s b1 b2 e Q q => by
  match d1, d2, e, b1, b2 with
  | .list ds, .int i, e, b1, b2 =>
    obtain ⟨d, e1, rfl⟩ := map_some (show (atI ds i).map R.sh = some k from e)
    obtain ⟨p, vs, rfl, a, x⟩ := b1.list s
    obtain ⟨v, ev, dv⟩ := at_dvs x e1
    exact .inl ⟨p, vs, i, v, rfl, b2.int, .of a, ev, q F H v (post_sh s dv)⟩
  | .tuple ds, .int i, e, b1, b2 =>
    obtain ⟨d, e1, rfl⟩ := map_some (show (atI ds i).map R.sh = some k from e)
    obtain ⟨p, vs, rfl, a, x⟩ := b1.tup
    obtain ⟨v, ev, dv⟩ := at_dvs x e1
    exact .inr (.inl ⟨p, vs, i, v, rfl, b2.int, .of (s _ _ a), ev, q F H v (post_sh s dv)⟩)
  | .dict [(.none, .list ds)], .int i, e, b1, b2 =>
    obtain ⟨d, e1, rfl⟩ := map_some (show (atI ds i).map R.sh = some k from e)
    obtain ⟨p, vs, rfl, a, x⟩ := Bd.frz b1
    obtain ⟨v, ev, dv⟩ := at_dvs x e1
    exact .inl ⟨p, vs, i, v, rfl, b2.int, (by rw [hK]; exact s.seq a), ev, q F H v (post_sh s dv)⟩
  | .str z, .int i, e, b1, b2 =>
    obtain ⟨hl, e1⟩ := ite_some' (show (if z.length ≤ lim then (atI z.cps.toList i).map (fun c => R.sh (.str ⟨#[c]⟩)) else none) = some k from e)
    obtain ⟨c, e2, rfl⟩ := map_some e1
    exact .inr (.inr ⟨z, i, c, b1.str, b2.int, lim_le hl, e2, q F H _ (post_sh s (.str _))⟩)
variable {e a b c : Expr} {pos p p2 : Pos} {m ma mb mc : MR} {x : Str}
theorem me_ix (ha : ME X a ma) (hb : ME X b mb) (hs : PlainIx b) (hK : X.K = KK.K := by rfl) : ME X (.Subscript a b pos) (mBin ixD ma mb) := ⟨(pe_ix ix_seq ha.ok hb.ok hs).imq (tM_bin (o_ix hK))⟩
/-- a part of a slice -/
abbrev MP := En → Option (Option Int × En)
def tMP (m : MP) : TO := fun σ H Q => ∃ F G b ρ, Rp F G H b σ ρ ∧ ∃ r ρ', m ρ = some (r, ρ') ∧ ∀ F' H', Same F F' → Cln F G F' → Rp F' G H' b σ ρ' → Q r H'
structure MPt (X : Cx) (o : Option Expr) (m : MP) : Prop where
  ok : PO X o (tMP m)
theorem _root_.L2.PO.imq {X : Cx} {e : Option Expr} {t t' : TO} (h : PO X e t) (i : ∀ σ H Q, t' σ H Q → t σ H Q) : PO X e t' := ⟨fun pins s σ H R I q => h.run pins s σ H R I (i σ H R q)⟩
def pNone : MP := fun ρ => some (none, ρ)
def pSome (m : MR) : MP := fun ρ => do
  let (r, ρ1) ← m ρ
  match r with
  | .sh (.int i) => some (some i, ρ1)
  | _ => none
theorem mp_none : MPt X none pNone := ⟨po_none.imq fun σ H Q q => by
  obtain ⟨F, G, b, ρ, hr, r, ρ', e, k⟩ := q
  cases e
  exact k F H (.refl _) (.refl _ _) hr⟩
theorem mp_some (ha : ME X a ma) : MPt X (some a) (pSome ma) := ⟨(po_some ha.ok).imq fun σ H Q q => by
  obtain ⟨F, G, b, ρ, hr, r, ρ', e, k⟩ := q
  obtain ⟨⟨r1, ρ1⟩, e1, e⟩ := bind_some e
  refine ⟨F, G, b, ρ, hr, r1, ρ1, e1, fun F1 H1 v s1 c1 h1 k1 => ?_⟩
  match r1, k1, e with
  | .sh (.int i), k1, e =>
    cases (show Dv F1 v (.int i) from k1)
    cases e
    exact ⟨i, rfl, k F1 H1 s1 c1 h1⟩⟩
def cutD {α : Type} (xs : List α) (lo hi : Option Int) : List α := (xs.drop (HT.sIx xs.length 0 lo)).take (HT.sIx xs.length xs.length hi - HT.sIx xs.length 0 lo)
def slD (d : D) (lo hi : Option Int) : Option R := match d with
  | .list ds => some (.fr (cutD ds lo hi))
  | .tuple ds => some (.sh (.tuple (cutD ds lo hi)))
  | .str z => if z.length ≤ lim then some (.sh (.str (cutS z lo hi))) else none
  | _ => none
def mSl (m : MR) (lo hi : MP) : MR := fun ρ => do
  let (r, ρ1) ← m ρ
  let (l, ρ2) ← lo ρ1
  let (h, ρ3) ← hi ρ2
  let d ← deref ρ3 r
  let k ← slD d l h
  some (k, ρ3)
theorem cut_dvs {F : Hp} {vs : List V} {ds : List D} (h : Dvs F vs ds) (lo hi : Option Int) : Dvs F (cutV vs lo hi) (cutD ds lo hi) := by
  unfold cutV cutD
  rw [h.len]
  exact (h.drop _).take _
theorem cut_whole {α : Type} {xs : List α} {lo hi : Option Int} (h : HT.sIx xs.length 0 lo = 0 ∧ HT.sIx xs.length xs.length hi = xs.length) : cutD xs lo hi = xs := by
  unfold cutD
  rw [h.1, h.2]
  simp
theorem me_slice {lo hi : Option Expr} {ml mh : MP} (ha : ME X a ma) (hl : MPt X lo ml) (hh : MPt X hi mh) : ME X (.Subscript a (.Slice lo hi none p2) pos) (mSl ma ml mh) :=
  ⟨(pe_slice (sl_list.or (sl_tupA.or sl_str)) ha.ok hl.ok hh.ok).imq fun σ H Q q => by
    obtain ⟨F, G, b, ρ, hr, r, ρ', e, k⟩ := q
    obtain ⟨⟨r1, ρ1⟩, e1, e⟩ := bind_some e
    obtain ⟨⟨l, ρ2⟩, e2, e⟩ := bind_some e
    obtain ⟨⟨h, ρ3⟩, e3, e⟩ := bind_some e
    obtain ⟨d, e4, e⟩ := bind_some e
    obtain ⟨k1, e5, e⟩ := bind_some e
    cases e
    refine ⟨F, G, b, ρ, hr, r1, ρ1, e1, fun F1 H1 v1 s1 c1 h1 k1' => ?_⟩
    refine ⟨F1, guard G H1 v1 r1, b, ρ1, h1.guarded k1', l, ρ2, e2, fun F2 H2 s2 c2 h2 => ?_⟩
    refine ⟨F2, _, b, ρ2, h2, h, _, e3, fun F3 H3 s3 c3 h3 => ?_⟩
    have ge := guard_ge k1'
    have kk := k1'.keep (s2.trans s3) (c2.trans c3) h3
    have h3' := h3.less ge
    have cc := c1.trans ((c2.trans c3).less ge)
    have ss := s1.trans (s2.trans s3)
    have bd := kk.bd h3' e4
    have fin : ∀ F' H' v, Post F3 H3 r F' H' v → Q v H' := fun F' H' v P => k F' H' v (ss.trans P.ff) (cc.trans (P.cln h3'.gh)) (P.rp h3') (P.rs h3')
    match d, e5, bd with
    | .list ds, e5, bd =>
      cases e5
      obtain ⟨p, vs, rfl, a, x⟩ := bd.list h3'.fh
      exact .inl ⟨p, vs, rfl, .of a, fun p' hp => fin _ _ _ (post_fr h3'.fh hp (cut_dvs x l h))⟩
    | .tuple ds, e5, bd =>
      cases e5
      obtain ⟨p, vs, rfl, a, x⟩ := bd.tup
      refine .inr (.inl ⟨p, vs, rfl, .of (h3'.fh _ _ a), fun z => fin F3 H3 _ (post_sh h3'.fh ?_), fun _ p' hp => fin _ _ _ (post_tup h3'.fh hp (cut_dvs x l h))⟩)
      rw [x.len] at z
      rw [cut_whole z]
      exact .tup a x
    | .str z, e5, bd =>
      obtain ⟨hl, rfl⟩ := ite_some (show (if z.length ≤ lim then some (R.sh (.str (cutS z l h))) else none) = some r from e5)
      exact .inr (.inr ⟨z, bd.str, lim_le hl, fin F3 H3 _ (post_sh h3'.fh (.str _))⟩)⟩

/-! ### built-ins of one and two arguments -/
def OpC1 (r : List V → Hp → VK → Prop) (f : D → Option R) : Prop := ∀ F H v1 d1 k, Same F H → Bd F H v1 d1 → f d1 = some k → ∀ Q : VK, (∀ F' H' v, Post F H k F' H' v → Q v H') → r [v1] H Q
def OpC2 (r : List V → Hp → VK → Prop) (f : D → D → Option R) : Prop := ∀ F H v1 v2 d1 d2 k, Same F H → Bd F H v1 d1 → Bd F H v2 d2 → f d1 d2 = some k → ∀ Q : VK, (∀ F' H' v, Post F H k F' H' v → Q v H') → r [v1, v2] H Q
structure Call1 (X : Cx) (g : Value) (f : D → Option R) : Prop where
  ex : ∃ r, CallR X g r ∧ OpC1 r f
structure Call2 (X : Cx) (g : Value) (f : D → D → Option R) : Prop where
  ex : ∃ r, CallR X g r ∧ OpC2 r f
theorem read1 {r : List V → Hp → VK → Prop} {f : D → Option R} (o : OpC1 r f) (σ : L2.St) (H : Hp) (Q : VK) (q : tM (mUn f ma) σ H Q) : tCB r (tCons (tM ma) tNil) σ H Q :=
  tM_un (r := fun v H Q => r [v] H Q) (fun F H v1 d1 k s b e Q q => o F H v1 d1 k s b e Q q) σ H Q q
theorem read2 {r : List V → Hp → VK → Prop} {f : D → D → Option R} (o : OpC2 r f) (σ : L2.St) (H : Hp) (Q : VK) (q : tM (mBin f ma mb) σ H Q) : tCB r (tCons (tM ma) (tCons (tM mb) tNil)) σ H Q :=
  tM_bin (r := fun v w H Q => r [v, w] H Q) (fun F H v1 v2 d1 d2 k s b1 b2 e Q q => o F H v1 v2 d1 d2 k s b1 b2 e Q q) σ H Q q
theorem me_b1 {id : String} {f : D → Option R} (h : Call1 X (.builtin id) f) (hg : Gl X x) (hm : X.mg x = none) (hv : bootBuiltins x = some (.builtin id)) (ha : ME X a ma) (hn : x ≠ "__name__" := by decide) (hdb : (x == ("__debug__" : Str)) = false := by decide)
    (hs : starEach (a :: []) X.env = (false, eval a X.env) :: starEach [] X.env := by rfl) (hpl : (backTo pos (starEach [] X.env)).any (·.1) = false := by rfl) : ME X (.Call (.Name x p) [a] [] pos) (mUn f ma) := by
  obtain ⟨r, h1, h2⟩ := h.ex
  exact ⟨(pe_callB h1 hg hm hv (pa_cons ha.ok pa_nil hs) hn hdb hs hpl).imq (read1 h2)⟩
theorem me_t1 {id : String} {f : D → Option R} (h : Call1 X (.type id) f) (hg : Gl X x) (hm : X.mg x = none) (hv : bootBuiltins x = some (.type id)) (ha : ME X a ma) (hn : x ≠ "__name__" := by decide) (hdb : (x == ("__debug__" : Str)) = false := by decide)
    (hs : starEach (a :: []) X.env = (false, eval a X.env) :: starEach [] X.env := by rfl) (hpl : (backTo pos (starEach [] X.env)).any (·.1) = false := by rfl) : ME X (.Call (.Name x p) [a] [] pos) (mUn f ma) := by
  obtain ⟨r, h1, h2⟩ := h.ex
  exact ⟨(pe_callTy h1 hg hm hv (pa_cons ha.ok pa_nil hs) hn hdb hs hpl).imq (read1 h2)⟩
theorem me_b2 {id : String} {f : D → D → Option R} (h : Call2 X (.builtin id) f) (hg : Gl X x) (hm : X.mg x = none) (hv : bootBuiltins x = some (.builtin id)) (ha : ME X a ma) (hb : ME X b mb) (hn : x ≠ "__name__" := by decide) (hdb : (x == ("__debug__" : Str)) = false := by decide)
    (hs : starEach (a :: [b]) X.env = (false, eval a X.env) :: starEach [b] X.env := by rfl) (hs2 : starEach (b :: []) X.env = (false, eval b X.env) :: starEach [] X.env := by rfl) (hpl : (backTo pos (starEach [b] X.env)).any (·.1) = false := by rfl) : ME X (.Call (.Name x p) [a, b] [] pos) (mBin f ma mb) := by
  obtain ⟨r, h1, h2⟩ := h.ex
  exact ⟨(pe_callB h1 hg hm hv (pa_cons ha.ok (pa_cons hb.ok pa_nil hs2) hs) hn hdb hs hpl).imq (read2 h2)⟩

def lenD : D → Option R
  | .list ds => some (.sh (.int ds.length))
  | .tuple ds => some (.sh (.int ds.length))
  | .str z => if z.length ≤ lim then some (.sh (.int z.length)) else none
  | .dict [(.none, .list ds)] => some (.sh (.int ds.length))
  | _ => none
theorem c_len (hK : X.K = KK.K := by rfl) : Call1 X (.builtin "len") lenD := ⟨_, call_len_seq.or call_len_str, fun F H v1 d1 k s b e Q q => by
  match d1, e, b with
  | .list ds, e, b =>
    cases e
    obtain ⟨p, vs, rfl, a, x⟩ := b.list s
    exact .inl ⟨p, vs, rfl, .inl (.of a), by rw [x.len]; exact q F H _ (post_sh s (.int _))⟩
  | .tuple ds, e, b =>
    cases e
    obtain ⟨p, vs, rfl, a, x⟩ := b.tup
    exact .inl ⟨p, vs, rfl, .inr (.of (s _ _ a)), by rw [x.len]; exact q F H _ (post_sh s (.int _))⟩
  | .dict [(.none, .list ds)], e, b =>
    cases e
    obtain ⟨p, vs, rfl, a, x⟩ := Bd.frz b
    exact .inl ⟨p, vs, rfl, .inl (by rw [hK]; exact s.seq a), by rw [x.len]; exact q F H _ (post_sh s (.int _))⟩
  | .str z, e, b =>
    obtain ⟨hl, rfl⟩ := ite_some (show (if z.length ≤ lim then some (R.sh (.int z.length)) else none) = some k from e)
    exact .inr ⟨z, by rw [b.str], lim_le hl, q F H _ (post_sh s (.int _))⟩⟩
def absD : D → Option R
  | .int i => some (.sh (.int (if i < 0 then -i else i)))
  | _ => none
theorem c_abs : Call1 X (.builtin "abs") absD := ⟨_, call_abs, fun F H v1 d1 k s b e Q q => by
  match d1, e, b with
  | .int i, e, b =>
    cases e
    exact ⟨i, by rw [b.int], q F H _ (post_sh s (.int _))⟩⟩
def intD : D → Option R
  | .int i => some (.sh (.int i))
  | .bool k => some (.sh (.int (if k then 1 else 0)))
  | _ => none
theorem c_int : Call1 X (.type "int") intD := ⟨_, call_int1, fun F H v1 d1 k s b e Q q => by
  match d1, e, b with
  | .int i, e, b =>
    cases e
    exact .inl ⟨i, by rw [b.int], q F H _ (post_sh s (.int _))⟩
  | .bool i, e, b =>
    cases e
    exact .inr ⟨i, by rw [b.bl], q F H _ (post_sh s (.int _))⟩⟩
def max2D : D → D → Option R
  | .int i, .int j => some (.sh (.int (if j > i then j else i)))
  | _, _ => none
theorem c_max2 (hc : X.calm = true) : Call2 X (.builtin "max") max2D := ⟨_, call_max2 hc, fun F H v1 v2 d1 d2 k s b1 b2 e Q q => by
  match d1, d2, e, b1, b2 with
  | .int i, .int j, e, b1, b2 =>
    cases e
    exact ⟨i, j, by rw [b1.int, b2.int], q F H _ (post_sh s (.int _))⟩⟩
def min2D : D → D → Option R
  | .int i, .int j => some (.sh (.int (if j < i then j else i)))
  | _, _ => none
theorem c_min2 (hc : X.calm = true) : Call2 X (.builtin "min") min2D := ⟨_, call_min2 hc, fun F H v1 v2 d1 d2 k s b1 b2 e Q q => by
  match d1, d2, e, b1, b2 with
  | .int i, .int j, e, b1, b2 =>
    cases e
    exact ⟨i, j, by rw [b1.int, b2.int], q F H _ (post_sh s (.int _))⟩⟩
/-- the ints of a list of ints -/
def intsD : List D → Option (List Int)
  | [] => some []
  | .int i :: r => (intsD r).map (i :: ·)
  | _ => none
theorem intsD_eq : ∀ {ds : List D} {ns : List Int}, intsD ds = some ns → ds = ns.map .int
  | [], _, e => by cases e; rfl
  | .int i :: r, ns, e => by
    obtain ⟨ms, e1, rfl⟩ := map_some e
    rw [intsD_eq e1]
    rfl
theorem intsD_map : ∀ ns : List Int, intsD (ns.map .int) = some ns
  | [] => rfl
  | n :: r => by
    show (intsD (r.map .int)).map (n :: ·) = _
    rw [intsD_map r]
    rfl
def sumD : D → Option R
  | .list ds => (intsD ds).map fun ns => .sh (.int ns.sum)
  | _ => none
theorem c_sum (hc : X.calm = true) : Call1 X (.builtin "sum") sumD := ⟨_, cr_sum hc, fun F H v1 d1 k s b e Q q => by
  match d1, e, b with
  | .list ds, e, b =>
    obtain ⟨ns, e1, rfl⟩ := map_some (show (intsD ds).map (fun ns => R.sh (.int ns.sum)) = some k from e)
    obtain ⟨p, vs, rfl, a, x⟩ := b.list s
    rw [intsD_eq e1] at x
    exact ⟨p, ns, rfl, by rw [← x.ints]; exact .of a, q F H _ (post_sh s (.int _))⟩⟩
def blsD : List D → Option (List Bool)
  | [] => some []
  | .bool i :: r => (blsD r).map (i :: ·)
  | _ => none
theorem blsD_eq : ∀ {ds : List D} {ns : List Bool}, blsD ds = some ns → ds = ns.map .bool
  | [], _, e => by cases e; rfl
  | .bool i :: r, ns, e => by
    obtain ⟨ms, e1, rfl⟩ := map_some e
    rw [blsD_eq e1]
    rfl
theorem blsD_map : ∀ ns : List Bool, blsD (ns.map .bool) = some ns
  | [] => rfl
  | n :: r => by
    show (blsD (r.map .bool)).map (n :: ·) = _
    rw [blsD_map r]
    rfl
def anyD : D → Option R
  | .list ds => (blsD ds).map fun ns => .sh (.bool (ns.any id))
  | _ => none
def allD : D → Option R
  | .list ds => (blsD ds).map fun ns => .sh (.bool (ns.all id))
  | _ => none
theorem c_any (hc : X.calm = true) : Call1 X (.builtin "any") anyD := ⟨_, cr_any hc, fun F H v1 d1 k s b e Q q => by
  match d1, e, b with
  | .list ds, e, b =>
    obtain ⟨ns, e1, rfl⟩ := map_some (show (blsD ds).map (fun ns => R.sh (.bool (ns.any id))) = some k from e)
    obtain ⟨p, vs, rfl, a, x⟩ := b.list s
    rw [blsD_eq e1] at x
    exact ⟨p, ns, rfl, by rw [← x.bls]; exact .of a, q F H _ (post_sh s (.bl _))⟩⟩
theorem c_all (hc : X.calm = true) : Call1 X (.builtin "all") allD := ⟨_, cr_all hc, fun F H v1 d1 k s b e Q q => by
  match d1, e, b with
  | .list ds, e, b =>
    obtain ⟨ns, e1, rfl⟩ := map_some (show (blsD ds).map (fun ns => R.sh (.bool (ns.all id))) = some k from e)
    obtain ⟨p, vs, rfl, a, x⟩ := b.list s
    rw [blsD_eq e1] at x
    exact ⟨p, ns, rfl, by rw [← x.bls]; exact .of a, q F H _ (post_sh s (.bl _))⟩⟩
def listD : D → Option R
  | .list ds => some (.fr ds)
  | .tuple ds => some (.fr ds)
  | _ => none
theorem c_list : Call1 X (.type "list") listD := ⟨_, call_list_of, fun F H v1 d1 k s b e Q q => by
  match d1, e, b with
  | .list ds, e, b =>
    cases e
    obtain ⟨p, vs, rfl, a, x⟩ := b.list s
    exact ⟨p, vs, rfl, .inl (.of a), fun l hl => q _ _ _ (post_fr s hl x)⟩
  | .tuple ds, e, b =>
    cases e
    obtain ⟨p, vs, rfl, a, x⟩ := b.tup
    exact ⟨p, vs, rfl, .inr (.of (s _ _ a)), fun l hl => q _ _ _ (post_fr s hl x)⟩⟩
def tupleD : D → Option R
  | .list ds => some (.sh (.tuple ds))
  | .tuple ds => some (.sh (.tuple ds))
  | _ => none
theorem c_tuple : Call1 X (.type "tuple") tupleD := ⟨_, call_tuple_of, fun F H v1 d1 k s b e Q q => by
  match d1, e, b with
  | .list ds, e, b =>
    cases e
    obtain ⟨p, vs, rfl, a, x⟩ := b.list s
    exact ⟨p, vs, rfl, .inl ⟨.of a, fun l hl => q _ _ _ (post_tup s hl x)⟩⟩
  | .tuple ds, e, b =>
    cases e
    obtain ⟨p, vs, rfl, a, x⟩ := b.tup
    exact ⟨p, vs, rfl, .inr ⟨.of (s _ _ a), q F H _ (post_sh s (.tup a x))⟩⟩⟩
/-! the least, the greatest of alike data -/
def rMinG (K : Fr0) (f : D → List D → D) : List V → Hp → VK → Prop := fun vs H Q => ∃ (p : Addr) (its : List V) (x : D) (xs : List D), vs = [.ref p] ∧ SqL K H p its ∧ DpAll K H its (x :: xs) ∧ AlikeAll (x :: xs) ∧ PyData.depthAll (x :: xs) ≤ 60 ∧
  ∀ (i : Nat) (y : V), its[i]? = some y → (x :: xs)[i]? = some (f x xs) → Q y H
theorem depth_ok {A : Around} {n : Nat} (hu : A.units + 64 < cLine) (h : n ≤ 60) : A.units + 1 + n < cLine := by omega
theorem item_at {h : Heap} : ∀ {vs : List Value} {ds : List D} {as : List Addr} {i : Nat} {v : Value}, ReadsAll h vs ds as → vs[i]? = some v → ∃ d bs, ds[i]? = some d ∧ Reads h v d bs
  | _, _, _, i, v, .nil, e => by simp at e
  | _, _, _, 0, v, .cons r rs, e => by
    cases e
    exact ⟨_, _, rfl, r⟩
  | _, _, _, i + 1, v, .cons r rs, e => by
    obtain ⟨d, bs, a, b⟩ := item_at (i := i) (v := v) rs (by simpa using e)
    exact ⟨d, bs, by simpa using a, b⟩
theorem call_minG (hc : X.calm = true) (hu : X.A.units + 64 < cLine) : CallR X (.builtin "min") (rMinG X.K minD) := by
  intro pins s σ H vs us Q I r h
  obtain ⟨a, its, x, xs, rfl, hs, da, al, dep, q⟩ := h
  obtain ⟨vals, rv, hl, _⟩ := I.list hs
  obtain ⟨as, hr⟩ := Dp.readsAll I _ _ _ da rv
  rw [Vals.ref1 r]
  refine min_list_data (vs := vals.toArray) (I.ok.hd hc) hl.isList (by simpa using hr) al (depth_ok hu dep) fun i v h' tk bs hv hrd hk => ?_
  have hv' : vals[i]? = some v := by simpa using hv
  obtain ⟨d, cs, hd, rd⟩ := item_at hr hv'
  obtain ⟨e1, _⟩ := reads_det (fun b o e _ => hk b o e) rd hrd
  have hi : i < its.length := by
    have := rv.length
    have := (List.getElem?_eq_some_iff.mp hv').1
    omega
  obtain ⟨u, hu', ru⟩ := rv.get (List.getElem?_eq_getElem hi)
  rw [hv'] at hu'
  cases hu'
  exact ⟨its[i], H, I.kept hk, ru, q i _ (List.getElem?_eq_getElem hi) (by rw [hd, e1])⟩
theorem call_maxG (hc : X.calm = true) (hu : X.A.units + 64 < cLine) : CallR X (.builtin "max") (rMinG X.K maxD) := by
  intro pins s σ H vs us Q I r h
  obtain ⟨a, its, x, xs, rfl, hs, da, al, dep, q⟩ := h
  obtain ⟨vals, rv, hl, _⟩ := I.list hs
  obtain ⟨as, hr⟩ := Dp.readsAll I _ _ _ da rv
  rw [Vals.ref1 r]
  refine max_list_data (vs := vals.toArray) (I.ok.hd hc) hl.isList (by simpa using hr) al (depth_ok hu dep) fun i v h' tk bs hv hrd hk => ?_
  have hv' : vals[i]? = some v := by simpa using hv
  obtain ⟨d, cs, hd, rd⟩ := item_at hr hv'
  obtain ⟨e1, _⟩ := reads_det (fun b o e _ => hk b o e) rd hrd
  have hi : i < its.length := by
    have := rv.length
    have := (List.getElem?_eq_some_iff.mp hv').1
    omega
  obtain ⟨u, hu', ru⟩ := rv.get (List.getElem?_eq_getElem hi)
  rw [hv'] at hu'
  cases hu'
  exact ⟨its[i], H, I.kept hk, ru, q i _ (List.getElem?_eq_getElem hi) (by rw [hd, e1])⟩
def alikeB (ds : List D) : Bool := ds.all (fun x => ds.all fun y => alike x y) && ds.all fun x => !noneD x
theorem alikeB_ok {ds : List D} (h : alikeB ds = true) : AlikeAll ds := by
  unfold alikeB at h
  obtain ⟨h1, h2⟩ := Bool.and_eq_true_iff.mp h
  rw [List.all_eq_true] at h1 h2
  refine ⟨fun x hx y hy => List.all_eq_true.mp (h1 x hx) y hy, fun x hx z => ?_⟩
  have := h2 x hx
  rw [z] at this
  cases this
def bestOk (ds : List D) : Bool := plainDs ds && alikeB ds && decide (PyData.depthAll ds ≤ 60)
def minLD : D → Option R
  | .list (x :: xs) => if bestOk (x :: xs) = true then some (.sh (minD x xs)) else none
  | _ => none
def maxLD : D → Option R
  | .list (x :: xs) => if bestOk (x :: xs) = true then some (.sh (maxD x xs)) else none
  | _ => none
theorem o_best {K : Fr0} {f : D → List D → D} {g : D → Option R} (hg : ∀ d k, g d = some k → ∃ x xs, d = .list (x :: xs) ∧ bestOk (x :: xs) = true ∧ k = .sh (f x xs)) : OpC1 (rMinG K f) g := fun F H v1 d1 k s b e Q q => by
  obtain ⟨x, xs, rfl, hb, rfl⟩ := hg d1 k e
  obtain ⟨p, vs, rfl, a, dx⟩ := b.list s
  unfold bestOk at hb
  simp only [Bool.and_eq_true, decide_eq_true_eq] at hb
  obtain ⟨⟨h1, h2⟩, h3⟩ := hb
  refine ⟨p, vs, x, xs, rfl, .of a, (dx.mono s).pl h1, alikeB_ok h2, h3, fun i y hy hd => ?_⟩
  obtain ⟨v, ev, dv⟩ := dx.get hd
  rw [hy] at ev
  cases ev
  exact q F H y (post_sh s dv)
theorem c_min (hc : X.calm = true) (hu : X.A.units + 64 < cLine) : Call1 X (.builtin "min") minLD := ⟨_, call_minG hc hu, o_best fun d k e => by
  match d, e with
  | .list (x :: xs), e =>
    obtain ⟨h, rfl⟩ := ite_some (show (if bestOk (x :: xs) = true then some (R.sh (minD x xs)) else none) = some k from e)
    exact ⟨x, xs, rfl, h, rfl⟩⟩
theorem c_max (hc : X.calm = true) (hu : X.A.units + 64 < cLine) : Call1 X (.builtin "max") maxLD := ⟨_, call_maxG hc hu, o_best fun d k e => by
  match d, e with
  | .list (x :: xs), e =>
    obtain ⟨h, rfl⟩ := ite_some (show (if bestOk (x :: xs) = true then some (R.sh (maxD x xs)) else none) = some k from e)
    exact ⟨x, xs, rfl, h, rfl⟩⟩
end
end Mi
set_option Elab.async false
set_option linter.all false
set_option maxRecDepth 100000
/-! Core7: is, isinstance, repr, stores by an operator, texts joined, index, enumerate, zip, reversed. -/
namespace Mi
open PySem PySem.Spec PyProof.Rows L2
open PySem.W (alike alikeAll dataLt AlikeAll minD maxD)
variable [KK]
section
variable {X : Cx}
/-! ### is None, is True, is False -/
def isD : D → D → Option Bool
  | a, .none => some (noneD a)
  | .bool x, .bool y => some (x == y)
  | _, .bool _ => some false
  | _, _ => none
def noTy : V → Bool
  | .ty _ => false
  | _ => true
def rIsBo : R2 := fun x y H Q => ∃ k, y = .bl k ∧ noTy x = true ∧ Q (.bl (decide (x = .bl k))) H
theorem op_isBo : OpR X (compareOp .Is) rIsBo := by
  intro pins s σ H x y v u Q I rx ry h
  obtain ⟨k, rfl, hx, q⟩ := h
  cases (show u = Value.bool k from ry)
  have fin : ∀ b, b = decide (x = V.bl k) → EP X pins σ Q (.bool b) s := fun b e => by
    subst e
    exact ⟨.bl _, H, I, rfl, q⟩
  cases x with
  | non =>
    cases rx
    exact wpAny_is_plain rfl (fin _ rfl)
  | bl b =>
    cases (show v = Value.bool b from rx)
    refine is_bool (fin _ ?_)
    by_cases e : b = k
    · subst e; simp
    · rw [decide_eq_false (fun z => e (V.bl.inj z)), beq_eq_false_iff_ne.mpr e]
  | int i => obtain ⟨t, rfl⟩ := rx; exact wpAny_is_other rfl (fun z => nomatch z) (fin _ rfl)
  | str i => obtain ⟨t, rfl⟩ := rx; exact wpAny_is_other rfl (fun z => nomatch z) (fin _ rfl)
  | byt i => obtain ⟨t, rfl⟩ := rx; exact wpAny_is_other rfl (fun z => nomatch z) (fin _ rfl)
  | flt i => obtain ⟨t, rfl⟩ := rx; exact wpAny_is_other rfl (fun z => nomatch z) (fin _ rfl)
  | ref a => cases rx; exact wpAny_is_other rfl (fun z => nomatch z) (fin _ rfl)
  | ty n => cases hx
theorem isB_dec {F H : Hp} {v : V} {d : D} {k : Bool} (h : Bd F H v d) : noTy v = true ∧ ∀ b, isD d (.bool k) = some b → b = decide (v = .bl k) := by
  rcases h with h | ⟨p, vs, ds, rfl, _, _, rfl⟩
  · cases h with
    | non => exact ⟨rfl, fun b e => by cases e; rfl⟩
    | bl x =>
      refine ⟨rfl, fun b e => ?_⟩
      cases e
      by_cases z : x = k
      · subst z; simp
      · rw [decide_eq_false (fun w => z (V.bl.inj w)), beq_eq_false_iff_ne.mpr z]
    | int x => exact ⟨rfl, fun b e => by cases e; rfl⟩
    | str x => exact ⟨rfl, fun b e => by cases e; rfl⟩
    | lst _ _ => exact ⟨rfl, fun b e => by cases e; rfl⟩
    | tup _ _ => exact ⟨rfl, fun b e => by cases e; rfl⟩
    | frz _ _ => exact ⟨rfl, fun b e => by cases e; rfl⟩
  · exact ⟨rfl, fun b e => by cases e; rfl⟩
theorem cmp_isD : CmpOk X .Is isD := ⟨_, op_isN.or op_isBo, fun F H v1 v2 d1 d2 k s b1 b2 e Q q => by
  match d2, e, b2 with
  | .none, e, b2 =>
    have e' : some (noneD d1) = some k := by
      rw [← e]
      cases d1 <;> rfl
    cases e'
    exact .inl ⟨b2.non, by rw [isN_dec b1]; exact q⟩
  | .bool z, e, b2 =>
    obtain ⟨h1, h2⟩ := isB_dec (k := z) b1
    exact .inr ⟨z, b2.bl, h1, by rw [← h2 k e]; exact q⟩
  | .int _, e, _ => cases d1 <;> cases e
  | .str _, e, _ => cases d1 <;> cases e
  | .list _, e, _ => cases d1 <;> cases e
  | .tuple _, e, _ => cases d1 <;> cases e
  | .dict _, e, _ => cases d1 <;> cases e⟩

/-! ### isinstance(x, T), T a built-in type -/
def tyName : D → String
  | .none => "NoneType"
  | .bool _ => "bool"
  | .int _ => "int"
  | .str _ => "str"
  | .list _ => "list"
  | .tuple _ => "tuple"
  | .dict _ => "dict"
def isiD (T : String) (d : D) : Option Bool := if plainD d = true then kitB (tyName d) T else none
def mIsi (T : String) (m : MR) : MR := fun ρ => do
  let (r, ρ1) ← m ρ
  let d ← deref ρ1 r
  let k ← isiD T d
  some (.sh (.bool k), ρ1)
variable {e a b c : Expr} {pos p p2 p3 : Pos} {m ma mb mc : MR} {x y : Str} {t : MB}
theorem ty_of {K : Fr0} {F H : Hp} {v : V} {d : D} (s : Same F H) (h : Bd F H v d) (c : plainD d = true) : TyX K H v (.type (tyName d)) := by
  rcases h with h | ⟨p, vs, ds, rfl, a, _, rfl⟩
  · cases h with
    | non => exact .base .non
    | bl x => exact .base (.bl x)
    | int x => exact .base (.int x)
    | str x => exact .base (.str x)
    | lst a _ => exact .base (.lst (s _ _ a))
    | tup a _ => exact .base (.tup (s _ _ a))
    | frz _ _ => cases c
  · exact .base (.lst a)
theorem me_isi {T : String} (hg : Gl X "isinstance") (hm : X.mg "isinstance" = none) (hv : bootBuiltins "isinstance" = some (.builtin "isinstance")) (ha : ME X a ma) (hgT : Gl X x) (hmT : X.mg x = none) (hvT : bootBuiltins x = some (.type T))
    (hn : x ≠ "__name__" := by decide) (hdb : (x == ("__debug__" : Str)) = false := by decide)
    (hs : starEach (a :: [.Name x p2]) X.env = (false, eval a X.env) :: starEach [.Name x p2] X.env := by rfl) (hs2 : starEach (.Name x p2 :: []) X.env = (false, eval (.Name x p2) X.env) :: starEach [] X.env := by rfl) (hpl : (backTo pos (starEach [.Name x p2] X.env)).any (·.1) = false := by rfl) :
    ME X (.Call (.Name "isinstance" p) [a, .Name x p2] [] pos) (mIsi T ma) :=
  ⟨(pe_callB call_isi hg hm hv (pa_cons ha.ok (pa_cons (pe_bltn (v := .ty T) hgT hmT hvT rfl hn hdb) pa_nil hs2) hs) (by decide) (by decide) hs hpl).imq fun σ H Q q => by
    obtain ⟨F, G, b, ρ, hr, r, ρ', e, k⟩ := q
    obtain ⟨⟨r1, ρ1⟩, e1, e⟩ := bind_some e
    obtain ⟨d, e2, e⟩ := bind_some e
    obtain ⟨kb, e3, e⟩ := bind_some e
    cases e
    obtain ⟨hp, e3⟩ := ite_some' e3
    refine ⟨F, G, b, ρ, hr, r1, _, e1, fun F1 H1 v1 s1 c1 h1 k1 => ?_⟩
    exact ⟨v1, .ty T, _, _, kb, rfl, .ty T, ty_of h1.fh (k1.bd h1 e2) hp, kit_ty e3, k F1 H1 _ s1 c1 h1 (.bl _)⟩⟩

/-! ### repr -/
def reprD : D → Option R
  | .str x => if (reprText x).length ≤ lim then some (.sh (.str (reprText x))) else none
  | .int i => if i64 i = true then some (.sh (.str (toString i))) else none
  | _ => none
def rReprS : List V → Hp → VK → Prop := fun xs H Q => ∃ x : Str, xs = [.str x] ∧ (reprText x).length ≤ sizeLine ∧ Q (.str (reprText x)) H
theorem call_repr_str : CallR X (.builtin "repr") rReprS := by
  intro pins s σ H xs us Q I r h
  obtain ⟨i, rfl, hz, q⟩ := h
  obtain ⟨u, rfl, t, rfl⟩ := vals1 r
  exact PySem.P.repr_of_str ⟨.str _, H, I.tok _, ⟨_, rfl⟩, q⟩ hz
theorem log_small {i : Int} (h : i64 i = true) : i.natAbs.log2 < 1920 := by
  have h := i64_ok h
  have h2 : i.natAbs < 2 ^ 64 := by omega
  exact Nat.lt_trans (PySem.Flt.log2_lt_of (by decide : 0 < 64) h2) (by decide)
def rReprI : List V → Hp → VK → Prop := fun xs H Q => ∃ i : Int, xs = [.int i] ∧ i.natAbs.log2 < 1920 ∧ Q (.str (toString i)) H
theorem call_repr_i : CallR X (.builtin "repr") rReprI := by
  intro pins s σ H xs us Q I r h
  obtain ⟨i, rfl, hz, q⟩ := h
  obtain ⟨u, rfl, t, rfl⟩ := vals1 r
  exact PySem.P.repr_of_int hz ⟨.str _, H, I.tok _, ⟨_, rfl⟩, q⟩
theorem c_repr : Call1 X (.builtin "repr") reprD := ⟨_, call_repr_i.or call_repr_str, fun F H v1 d1 k s b e Q q => by
  match d1, e, b with
  | .int i, e, b =>
    obtain ⟨h, rfl⟩ := ite_some (show (if i64 i = true then some (R.sh (.str (toString i))) else none) = some k from e)
    exact .inl ⟨i, by rw [b.int], log_small h, q F H _ (post_sh s (.str _))⟩
  | .str i, e, b =>
    obtain ⟨h, rfl⟩ := ite_some (show (if (reprText i).length ≤ lim then some (R.sh (.str (reprText i))) else none) = some k from e)
    exact .inr ⟨i, by rw [b.str], lim_le h, q F H _ (post_sh s (.str _))⟩⟩

/-! ### name op= e -/
structure AugOk (X : Cx) (op : Operator) (f : D → D → Option R) : Prop where
  ex : ∃ r, PIp X op r ∧ Op2 r f
def sAug (i : Nat) (f : D → D → Option R) (m : MR) : MS' := fun ρ => do
  let (r0, ρ0) ← mVar i ρ
  match r0 with
  | .sh d0 => do
    let (r1, ρ1) ← m ρ0
    let d1 ← deref ρ1 r1
    let k ← f d0 d1
    let ρ2 ← asg ρ1 i k
    some (.nx, ρ2)
  | _ => none
theorem ms_aug {i : Nat} {op : Operator} {f : D → D → Option R} {pos' : Pos} (o : AugOk X op f) (hN : X.N.Nodup) (hi : X.N[i]? = some x) (hx : Loc X.env.scope x) (he : ME X e m) (hf : X.fn x = true ∨ X.env.scope.names.lookup x = some .local := by first | exact .inl rfl | exact .inr rfl | assumption) :
    MSt X (.AugAssign (.Name x pos') op e pos) (sAug i f m) := by
  obtain ⟨ti, h1, h2⟩ := o.ex
  refine ⟨(ps_aug hN hi hx he.ok h1 hf).imq fun D σ H q => ?_⟩
  obtain ⟨F, G, b, ρ, hr, o, ρ', e, k⟩ := q
  obtain ⟨⟨r0, ρ0⟩, e0, e⟩ := bind_some e
  match r0, e0, e with
  | .sh d0, e0, e =>
    obtain ⟨⟨r1, ρ1⟩, e1, e⟩ := bind_some e
    obtain ⟨d1, e2, e⟩ := bind_some e
    obtain ⟨z, e3, e⟩ := bind_some e
    obtain ⟨ρ2, e4, e⟩ := bind_some e
    cases e
    unfold mVar at e0
    cases q : ρ[i]? with
    | none => simp [q] at e0
    | some w =>
      have s := hr.slot i w q
      cases w with
      | no => simp [q] at e0
      | own _ => simp [q] at e0
      | io _ => simp [q] at e0
      | sh d =>
        simp only [q] at e0
        cases e0
        obtain ⟨v0, a0, dv0⟩ := s
        refine ⟨v0, a0, F, G, b, ρ, hr, r1, ρ1, e1, fun F1 H1 v1 s1 c1 g1 k1 => ?_⟩
        refine h2 F1 H1 v0 v1 d0 d1 z g1.fh (.inl (dv0.mono s1)) (k1.bd g1 e2) e3 _ fun F' H' v P => ?_
        obtain ⟨F2, s2, c2, r2⟩ := asg_ok (P.rp g1) (P.rs g1) e4
        exact k F2 H' _ (s1.trans (P.ff.trans s2)) (c1.trans ((P.cln g1.gh).trans c2)) r2
theorem pip_of {op : Operator} {r : R2} (h : OpR X (inplaceOp op) r) : PIp X op r := fun pins s σ H x y v u Q I rx ry q => h pins s σ H x y v u Q I rx ry q
def addIS : D → D → Option R
  | .int a, .int b => addI (.int a) (.int b)
  | .str a, .str b => addS (.str a) (.str b)
  | _, _ => none
theorem aug_add : AugOk X .Add addIS := ⟨_, pip_of (iop_add.or iop_add_str), Op2.or o_addI o_addS fun a b z e => by
  match a, b, e with
  | .int a, .int b, e => exact .inl e
  | .str a, .str b, e => exact .inr e⟩
theorem aug_sub : AugOk X .Sub subD := ⟨_, pip_of iop_sub, op2_I fun a b k e => by
  match a, b, e with
  | .int i, .int j, e => exact ⟨i, j, rfl, rfl, (Option.some.inj e).symm⟩⟩
theorem aug_mul : AugOk X .Mult mulI := ⟨_, pip_of iop_mul, o_mulI⟩

/-! ### texts joined; the place of an item -/
def strsD : List D → Option (List Str)
  | [] => some []
  | .str i :: r => (strsD r).map (i :: ·)
  | _ => none
theorem strsD_eq : ∀ {ds : List D} {ns : List Str}, strsD ds = some ns → ds = ns.map .str
  | [], _, e => by cases e; rfl
  | .str i :: r, ns, e => by
    obtain ⟨ms, e1, rfl⟩ := map_some e
    rw [strsD_eq e1]
    rfl
theorem strsD_map : ∀ ns : List Str, strsD (ns.map .str) = some ns
  | [] => rfl
  | n :: r => by
    show (strsD (r.map .str)).map (n :: ·) = _
    rw [strsD_map r]
    rfl
def joinD : D → D → Option R
  | .str a, .list ds => do
    let ys ← strsD ds
    if (ys.map (·.length)).sum + ys.length * a.length ≤ lim then some (.sh (.str (Txt.join a ys))) else none
  | .str a, .tuple ds => do
    let ys ← strsD ds
    if (ys.map (·.length)).sum + ys.length * a.length ≤ lim then some (.sh (.str (Txt.join a ys))) else none
  | _, _ => none
/-- o.m(e), o a text: the object first known to be a text -/
def mM1 (f : D → D → Option R) (mo m : MR) : MR := fun ρ => do
  let (r1, ρ1) ← mo ρ
  match r1 with
  | .sh (.str a) => do
    let (r2, ρ2) ← m ρ1
    let d2 ← deref ρ2 r2
    let k ← f (.str a) d2
    some (k, ρ2)
  | _ => none
theorem tM_m1 {r : V → List V → Hp → VK → Prop} {f : D → D → Option R} (o : Op2 (fun x y H Q => r x [y] H Q) f) (σ : L2.St) (H : Hp) (Q : VK) (q : tM (mM1 f ma mb) σ H Q) : tM1 r (tM ma) (tM mb) σ H Q := by
  obtain ⟨F, G, b, ρ, hr, r', ρ', e, k⟩ := q
  obtain ⟨⟨r1, ρ1⟩, e1, e⟩ := bind_some e
  match r1, e1, e with
  | .sh (.str a), e1, e =>
    obtain ⟨⟨r2, ρ2⟩, e2, e⟩ := bind_some e
    obtain ⟨d2, e4, e⟩ := bind_some e
    obtain ⟨z, e5, e⟩ := bind_some e
    cases e
    refine ⟨F, G, b, ρ, hr, _, ρ1, e1, fun F1 H1 v1 s1 c1 h1 k1 => ?_⟩
    cases (show Dv F1 v1 (.str a) from k1)
    refine ⟨⟨a, rfl⟩, F1, G, b, ρ1, h1, r2, ρ', e2, fun F2 H2 v2 s2 c2 h2 k2 => ?_⟩
    refine o F2 H2 _ v2 (.str a) d2 _ h2.fh (.inl (.str a)) (k2.bd h2 e4) e5 Q fun F' H' v P => ?_
    exact k F' H' v (s1.trans (s2.trans P.ff)) (c1.trans (c2.trans (P.cln h2.gh))) (P.rp h2) (P.rs h2)
theorem me_join {apos : Pos} (ho : ME X a ma) (he : ME X b mb) (hs : starEach [b] X.env = [(false, eval b X.env)] := by rfl) (hbase : attributeBase a "join" X.env (eval a X.env) = eval a X.env := by rfl) (hline : (apos.endLine == pos.line) = true := by rfl) :
    ME X (.Call (.Attribute a "join" apos) [b] [] pos) (mM1 joinD ma mb) := ⟨(pe_join ho.ok he.ok hs hbase hline).imq (tM_m1 fun F H v1 v2 d1 d2 k s b1 b2 e Q q => by
  match d1, d2, e, b1, b2 with
  | .str a, .list ds, e, b1, b2 =>
    obtain ⟨ys, e1, e2⟩ := bind_some (show (do let ys ← strsD ds; if (ys.map (·.length)).sum + ys.length * a.length ≤ lim then some (R.sh (.str (Txt.join a ys))) else none) = some k from e)
    obtain ⟨hl, rfl⟩ := ite_some e2
    obtain ⟨p, vs, rfl, h, x⟩ := b2.list s
    rw [strsD_eq e1] at x
    exact ⟨a, p, ys, b1.str, rfl, .inl (by rw [← x.strs]; exact .of h), lim_le' hl, q F H _ (post_sh s (.str _))⟩
  | .str a, .tuple ds, e, b1, b2 =>
    obtain ⟨ys, e1, e2⟩ := bind_some (show (do let ys ← strsD ds; if (ys.map (·.length)).sum + ys.length * a.length ≤ lim then some (R.sh (.str (Txt.join a ys))) else none) = some k from e)
    obtain ⟨hl, rfl⟩ := ite_some e2
    obtain ⟨p, vs, rfl, h, x⟩ := b2.tup
    rw [strsD_eq e1] at x
    exact ⟨a, p, ys, b1.str, rfl, .inr (by rw [← x.strs]; exact .of (s _ _ h)), lim_le' hl, q F H _ (post_sh s (.str _))⟩)⟩
where lim_le' {n : Nat} (h : n ≤ lim) : n ≤ 16777216 := Nat.le_trans h (by decide)
/-- xs.index(k), whole numbers, found -/
def idxI (k : Int) : List Int → Option Nat
  | [] => none
  | n :: r => if n = k then some 0 else (idxI k r).map (· + 1)
def idxS (k : Str) : List Str → Option Nat
  | [] => none
  | n :: r => if n = k then some 0 else (idxS k r).map (· + 1)
def indexD : D → D → Option R
  | .list ds, .int k => do
    let ns ← intsD ds
    let j ← idxI k ns
    some (.sh (.int (j : Nat)))
  | .list ds, .str k => do
    let ns ← strsD ds
    let j ← idxS k ns
    some (.sh (.int (j : Nat)))
  | _, _ => none
theorem idxI_ok {k : Int} : ∀ {ns : List Int} {j : Nat}, idxI k ns = some j → ns[j]? = some k ∧ ∀ m z, m < j → ns[m]? = some z → z ≠ k
  | n :: r, j, e => by
    unfold idxI at e
    by_cases h : n = k
    · rw [if_pos h] at e
      cases e
      exact ⟨by rw [h]; rfl, fun m z hm => absurd hm (Nat.not_lt_zero m)⟩
    · rw [if_neg h] at e
      obtain ⟨i, e1, rfl⟩ := map_some e
      obtain ⟨a1, a2⟩ := idxI_ok e1
      refine ⟨by simpa using a1, fun m z hm hz => ?_⟩
      cases m with
      | zero =>
        have : n = z := Option.some.inj hz
        rw [← this]
        exact h
      | succ m => exact a2 m z (by omega) (by simpa using hz)
theorem idxS_ok {k : Str} : ∀ {ns : List Str} {j : Nat}, idxS k ns = some j → ns[j]? = some k ∧ ∀ m z, m < j → ns[m]? = some z → z ≠ k
  | n :: r, j, e => by
    unfold idxS at e
    by_cases h : n = k
    · rw [if_pos h] at e
      cases e
      exact ⟨by rw [h]; rfl, fun m z hm => absurd hm (Nat.not_lt_zero m)⟩
    · rw [if_neg h] at e
      obtain ⟨i, e1, rfl⟩ := map_some e
      obtain ⟨a1, a2⟩ := idxS_ok e1
      refine ⟨by simpa using a1, fun m z hm hz => ?_⟩
      cases m with
      | zero =>
        have : n = z := Option.some.inj hz
        rw [← this]
        exact h
      | succ m => exact a2 m z (by omega) (by simpa using hz)
theorem all_flat_int (ns : List Int) : (ns.map V.int).all flatV = true := by
  rw [List.all_map]
  exact List.all_eq_true.mpr fun _ _ => rfl
theorem all_flat_str (ns : List Str) : (ns.map V.str).all flatV = true := by
  rw [List.all_map]
  exact List.all_eq_true.mpr fun _ _ => rfl
theorem eqv_int_ne {z k : Int} (h : z ≠ k) : eqV (.int z) (.int k) = false := beq_eq_false_iff_ne.mpr h
theorem eqv_str_ne {z k : Str} (h : z ≠ k) : eqV (.str z) (.str k) = false := beq_eq_false_iff_ne.mpr h
def mIndex (ma mb : MR) : MR := fun ρ => do
  let (r1, ρ1) ← ma ρ
  let d0 ← deref ρ1 r1
  match d0 with
  | .list _ => do
    let (r2, ρ2) ← mb ρ1
    let d1 ← deref ρ2 r1
    let d2 ← deref ρ2 r2
    let k ← indexD d1 d2
    some (k, ρ2)
  | _ => none
theorem me_index {apos cpos : Pos} (ho : ME X a ma) (he : ME X b mb) (hbase : attributeBase a "index" X.env (eval a X.env) = eval a X.env := by rfl)
    (hfew : ((backTo cpos (starEach (b :: []) X.env)).all (fun x => !x.1) && (backToKw cpos (keywordEach [] X.env)).all (fun x => x.1.isSome)
      && decide ((b :: ([] : List Expr)).length + ([] : List Keyword).length + (if ([] : List Keyword).isEmpty then 0 else 1) < 30)) = true := by rfl)
    (hline : (apos.endLine == cpos.line) = true := by rfl) (hs : starEach (b :: []) X.env = (false, eval b X.env) :: starEach [] X.env := by rfl) (hplain : (backTo cpos (starEach [] X.env)).any (·.1) = false := by rfl) :
    ME X (.Call (.Attribute a "index" apos) [b] [] cpos) (mIndex ma mb) :=
  ⟨(pe_bm PySem.F.plainAttrs_list PySem.F.slot_list_index PySem.F.type_list_index mt_index ho.ok (pa_cons he.ok pa_nil hs) hbase hfew hline hs hplain).imq fun σ H Q q => by
    obtain ⟨F, G, b', ρ, hr, r, ρ', e, k⟩ := q
    obtain ⟨⟨r1, ρ1⟩, e1, e⟩ := bind_some e
    obtain ⟨d0, e0, e⟩ := bind_some e
    refine ⟨F, G, b', ρ, hr, r1, ρ1, e1, fun F1 H1 v1 s1 c1 h1 k1 => ?_⟩
    have bd0 := k1.bd h1 e0
    match d0, bd0, e with
    | .list ds0, bd0, e =>
      obtain ⟨⟨r2, ρ2⟩, e2, e⟩ := bind_some e
      obtain ⟨d1, e3, e⟩ := bind_some e
      obtain ⟨d2, e4, e⟩ := bind_some e
      obtain ⟨z, e5, e⟩ := bind_some e
      cases e
      obtain ⟨p0, vs0, rfl, a0, _⟩ := bd0.list h1.fh
      refine ⟨.inl ⟨rfl, _, .of a0⟩, F1, guard G H1 _ r1, b', ρ1, h1.guarded k1, r2, _, e2, fun F2 H2 v2 s2 c2 h2 k2 => ?_⟩
      have ge := guard_ge k1
      have kk := k1.keep s2 c2 h2
      have h2' := h2.less ge
      have kk2 := k2.less ge
      have bd1 := kk.bd h2' e3
      have bd2 := kk2.bd h2' e4
      have fin : ∀ F' H' v, Post F2 H2 r F' H' v → Q v H' := fun F' H' v P => k F' H' v (s1.trans (s2.trans P.ff)) (c1.trans ((c2.less ge).trans (P.cln h2'.gh))) (P.rp h2') (P.rs h2')
      match d1, d2, e5, bd1, bd2 with
      | .list ds, .int n, e5, bd1, bd2 =>
        obtain ⟨ns, e6, e7⟩ := bind_some (show (do let ns ← intsD ds; let j ← idxI n ns; some (R.sh (.int (j : Nat)))) = some r from e5)
        obtain ⟨j, e8, e9⟩ := bind_some e7
        cases e9
        obtain ⟨p1, vs1, q1, a1, x1⟩ := bd1.list h2'.fh
        cases q1
        rw [intsD_eq e6] at x1
        rw [x1.ints] at a1
        obtain ⟨o1, o2⟩ := idxI_ok e8
        refine ⟨p0, ns.map V.int, .int n, j, .int n, rfl, by rw [bd2.int], .of a1, rfl, all_flat_int ns, by rw [List.getElem?_map, o1]; rfl, beq_self_eq_true n, fun m z' hm hz => ?_, fin F2 H2 _ (post_sh h2'.fh (.int _))⟩
        rw [List.getElem?_map] at hz
        obtain ⟨w, hw, rfl⟩ := map_some hz
        exact eqv_int_ne (o2 m w hm hw)
      | .list ds, .str n, e5, bd1, bd2 =>
        obtain ⟨ns, e6, e7⟩ := bind_some (show (do let ns ← strsD ds; let j ← idxS n ns; some (R.sh (.int (j : Nat)))) = some r from e5)
        obtain ⟨j, e8, e9⟩ := bind_some e7
        cases e9
        obtain ⟨p1, vs1, q1, a1, x1⟩ := bd1.list h2'.fh
        cases q1
        rw [strsD_eq e6] at x1
        rw [x1.strs] at a1
        obtain ⟨o1, o2⟩ := idxS_ok e8
        refine ⟨p0, ns.map V.str, .str n, j, .str n, rfl, by rw [bd2.str], .of a1, rfl, all_flat_str ns, by rw [List.getElem?_map, o1]; rfl, beq_self_eq_true n, fun m z' hm hz => ?_, fin F2 H2 _ (post_sh h2'.fh (.int _))⟩
        rw [List.getElem?_map] at hz
        obtain ⟨w, hw, rfl⟩ := map_some hz
        exact eqv_str_ne (o2 m w hm hw)⟩

/-! ### enumerate, zip, reversed of lists -/
variable {tg : Expr} {elts : List Expr} {kk : Nat} {tpos : Pos} {ms : MA}
def enumL : Int → List D → List D
  | _, [] => []
  | i, d :: ds => .tuple [.int i, d] :: enumL (i + 1) ds
theorem enumL_len : ∀ (i : Int) (ds : List D), (enumL i ds).length = ds.length
  | _, [] => rfl
  | i, d :: ds => by
    unfold enumL
    rw [List.length_cons, List.length_cons, enumL_len (i + 1) ds]
theorem enumL_get : ∀ (i : Int) (ds : List D) (j : Nat) (d : D), ds[j]? = some d → (enumL i ds)[j]? = some (.tuple [.int (i + j), d])
  | i, [], j, d, h => by simp at h
  | i, a :: ds, 0, d, h => by
    cases h
    show some (PyData.tuple [.int i, a]) = _
    rw [show i + ((0 : Nat) : Int) = i by omega]
  | i, a :: ds, j + 1, d, h => by
    unfold enumL
    rw [List.getElem?_cons_succ, enumL_get (i + 1) ds j d (by simpa using h)]
    rw [show i + 1 + (j : Int) = i + ((j + 1 : Nat) : Int) by omega]
theorem dvs2 {F : Hp} {v w : V} {d e : D} (h : Dv F v d) (k : Dv F w e) : Dvs F [v, w] [d, e] := .cons h (.cons k .nil)
theorem wk_enum {K : Fr0} {F : Hp} {p : Addr} {vs : List V} {ds : List D} (h : F p = some (.lst vs)) (a : Dvs F vs ds) : Wk (Ite K p) F (enumL 0 ds) := by
  refine ⟨fun i H hi s => ?_, fun H s => ⟨vs, .of (s _ _ h), by rw [enumL_len, a.len]; exact Nat.le_refl _⟩, fun i F1 H x H' hi s1 s2 y => ?_⟩
  · rw [enumL_len] at hi
    have hv : i < vs.length := by rw [a.len]; exact hi
    exact ⟨vs, vs[i], .of (s _ _ h), List.getElem?_eq_getElem hv⟩
  · rw [enumL_len] at hi
    obtain ⟨T, w, rfl, hT, rfl, y⟩ := y
    obtain ⟨v, e1, dv⟩ := a.get (List.getElem?_eq_getElem hi)
    have e2 := y vs (.of (s2 _ _ (s1 _ _ h)))
    rw [e1] at e2
    cases e2
    have g := enumL_get 0 ds i _ (List.getElem?_eq_getElem hi)
    rw [show (0 : Int) + (i : Int) = (i : Int) by omega] at g
    exact ⟨_, _, g, post_tup s2 hT (dvs2 (.int _) (dv.mono s1))⟩
def mEnum (ms : MA) : MI := fun ρ => do
  let (ds, ρ1) ← ms ρ
  match ds with
  | [.list es] => some (enumL 0 es, ρ1)
  | _ => none
theorem mi_enum (hg : Gl X "enumerate") (hm : X.mg "enumerate" = none) (ha : MAs X [a] ms) (hs : starEach [a] X.env = [(false, eval a X.env)] := by rfl) : MIt X (.Tuple elts kk tpos) (.Call (.Name "enumerate" p) [a] [] pos) (mEnum ms) := ⟨(pi_enum hg hm ha.ok hs).imq fun σ H R q => by
  obtain ⟨F, G, b, ρ, hr, ds, ρ', e, k⟩ := q
  obtain ⟨⟨ds1, ρ1⟩, e1, e⟩ := bind_some e
  refine ⟨F, G, b, ρ, hr, ds1, ρ1, e1, fun F1 H1 vs s1 c1 h1 dvs => ?_⟩
  match ds1, dvs, e with
  | [.list es], .cons (.lst ha hx) .nil, e =>
    cases e
    exact ⟨_, _, rfl, .of (h1.fh _ _ ha), k F1 H1 _ s1 c1 h1 (wk_enum ha hx)⟩⟩
def zipL : List D → List D → List D
  | a :: as, b :: bs => .tuple [a, b] :: zipL as bs
  | _, _ => []
theorem zipL_len : ∀ as bs : List D, (zipL as bs).length = min as.length bs.length
  | [], bs => by unfold zipL; simp
  | _ :: _, [] => by unfold zipL; simp
  | a :: as, b :: bs => by
    unfold zipL
    rw [List.length_cons, List.length_cons, List.length_cons, zipL_len as bs]
    omega
theorem zipL_get : ∀ (as bs : List D) (j : Nat) (d e : D), as[j]? = some d → bs[j]? = some e → (zipL as bs)[j]? = some (.tuple [d, e])
  | [], bs, j, d, e, h, _ => by simp at h
  | _ :: _, [], j, d, e, _, h => by simp at h
  | a :: as, b :: bs, 0, d, e, h, k => by
    cases h
    cases k
    rfl
  | a :: as, b :: bs, j + 1, d, e, h, k => by
    unfold zipL
    rw [List.getElem?_cons_succ]
    exact zipL_get as bs j d e (by simpa using h) (by simpa using k)
theorem wk_zip {K : Fr0} {F : Hp} {p q : Addr} {vs us : List V} {ds es : List D} (h : F p = some (.lst vs)) (a : Dvs F vs ds) (h' : F q = some (.lst us)) (a' : Dvs F us es) : Wk (Itz K p q) F (zipL ds es) := by
  refine ⟨fun i H hi s => ?_, fun H s => ⟨vs, us, .of (s _ _ h), .of (s _ _ h'), by rw [zipL_len, a.len, a'.len]; omega⟩, fun i F1 H x H' hi s1 s2 y => ?_⟩
  · rw [zipL_len] at hi
    have hv : i < vs.length := by rw [a.len]; omega
    have hu : i < us.length := by rw [a'.len]; omega
    exact ⟨vs, us, vs[i], us[i], .of (s _ _ h), .of (s _ _ h'), List.getElem?_eq_getElem hv, List.getElem?_eq_getElem hu⟩
  · rw [zipL_len] at hi
    have hd : i < ds.length := by omega
    have he : i < es.length := by omega
    obtain ⟨T, w, z, rfl, hT, rfl, y, y'⟩ := y
    obtain ⟨v, e1, dv⟩ := a.get (List.getElem?_eq_getElem hd)
    obtain ⟨v', e1', dv'⟩ := a'.get (List.getElem?_eq_getElem he)
    have e2 := y vs (.of (s2 _ _ (s1 _ _ h)))
    rw [e1] at e2
    cases e2
    have e3 := y' us (.of (s2 _ _ (s1 _ _ h')))
    rw [e1'] at e3
    cases e3
    exact ⟨_, _, zipL_get ds es i _ _ (List.getElem?_eq_getElem hd) (List.getElem?_eq_getElem he), post_tup s2 hT (dvs2 (dv.mono s1) (dv'.mono s1))⟩
def mZip (ms : MA) : MI := fun ρ => do
  let (ds, ρ1) ← ms ρ
  match ds with
  | [.list as, .list bs] => some (zipL as bs, ρ1)
  | _ => none
theorem mi_zip (hg : Gl X "zip") (hm : X.mg "zip" = none) (ha : MAs X [a, b] ms) (hs : starEach [a, b] X.env = (false, eval a X.env) :: starEach [b] X.env := by rfl) (hpl : (backTo pos (starEach [b] X.env)).any (·.1) = false := by rfl) :
    MIt X (.Tuple elts kk tpos) (.Call (.Name "zip" p) [a, b] [] pos) (mZip ms) := ⟨(pi_zip hg hm ha.ok hs hpl).imq fun σ H R q => by
  obtain ⟨F, G, b, ρ, hr, ds, ρ', e, k⟩ := q
  obtain ⟨⟨ds1, ρ1⟩, e1, e⟩ := bind_some e
  refine ⟨F, G, b, ρ, hr, ds1, ρ1, e1, fun F1 H1 vs s1 c1 h1 dvs => ?_⟩
  match ds1, dvs, e with
  | [.list as, .list bs], .cons (.lst ha hx) (.cons (.lst hb hy) .nil), e =>
    cases e
    exact ⟨_, _, _, _, rfl, .of (h1.fh _ _ ha), .of (h1.fh _ _ hb), k F1 H1 _ s1 c1 h1 (wk_zip ha hx hb hy)⟩⟩
end
end Mi
set_option Elab.async false
set_option linter.all false
set_option maxRecDepth 100000
/-! Core8: what the printed texts lean on. -/
namespace Mi
open PySem PySem.Spec PyProof.Rows L2
variable [KK]
/-- the def of a name keeps a promise, up to a level -/
def Cl (P : Program) (w : World) (mg : Str → Option Value) (base : Heap) (x : Str) (k : Nat) (sp : Sp) : Prop :=
  ∃ (f : Addr) (fd : FuncData) (ps : List Str), FnOk P w KK.K mg base CX0 k f fd ps sp ∧ mg x = some (.ref f) ∧ PySem.W.keepIn KK.K (.ref f) = true ∧ Binds KK.K fd ps []
section
variable {X : Cx} {e : Expr} {pos p : Pos} {es : List Expr} {ms : MA} {k : Nat} {x y : Str} {py : Pos} {i : Nat}
theorem me_callC {φ : List D → Option R} (c : Cl X.prog X.w X.mg X.base x k (spN φ)) (hr : Room k X.A) (hg : Gl X x)
    (ha : MAs X (e :: es) ms) (hK : X.K = KK.K := by rfl) (hdb : (x == ("__debug__" : Str)) = false := by decide) (he : starEach (e :: es) X.env = (false, eval e X.env) :: starEach es X.env := by rfl) (hpl : (backTo pos (starEach es X.env)).any (·.1) = false := by rfl) :
    ME X (.Call (.Name x p) (e :: es) [] pos) (mCall φ ms) := by
  obtain ⟨f, fd, ps, F, hm, hk, hb⟩ := c
  rw [← hK] at F hk hb
  exact me_call F hr hg hm hk hb ha hdb he hpl
theorem me_call0 {φ : List D → Option R} (c : Cl X.prog X.w X.mg X.base x k (spN φ)) (hr : Room k X.A) (hg : Gl X x) (hK : X.K = KK.K := by rfl) (hdb : (x == ("__debug__" : Str)) = false := by decide) :
    ME X (.Call (.Name x p) [] [] pos) (mCall φ aNil) := by
  obtain ⟨f, fd, ps, F, hm, hk, hb⟩ := c
  rw [← hK] at F hk hb
  exact ⟨(pe_call0 (dvs := []) F hr hg hm hk hb .nil pass0 hdb).imq fun σ H Q q => by
    obtain ⟨F0, G, b, ρ, hr0, r, ρ', e, k⟩ := q
    obtain ⟨⟨ds, ρ1⟩, e1, e⟩ := bind_some e
    cases e1
    obtain ⟨r1, e2, e⟩ := bind_some e
    cases e
    exact ⟨F0, [], r, hr0.fh, .nil, e2, fun F' H' v P => k F' H' v P.ff (P.cln hr0.gh) (P.rp hr0) (P.rs hr0)⟩⟩
theorem me_callIOC {φ : List D → List D → Option (R × List D)} (c : Cl X.prog X.w X.mg X.base x k (spIO φ)) (hr : Room k X.A) (hg : Gl X x)
    (hy : PE X (.Name y py) (tVar i)) (ha : MAs X es ms) (hK : X.K = KK.K := by rfl) (hdb : (x == ("__debug__" : Str)) = false := by decide) (he : starEach (.Name y py :: es) X.env = (false, eval (.Name y py) X.env) :: starEach es X.env := by rfl) (hpl : (backTo pos (starEach es X.env)).any (·.1) = false := by rfl) :
    ME X (.Call (.Name x p) (.Name y py :: es) [] pos) (mCallIO φ i ms) := by
  obtain ⟨f, fd, ps, F, hm, hk, hb⟩ := c
  rw [← hK] at F hk hb
  exact me_callIO F hr hg hm hk hb hy ha hdb he hpl
end
theorem hu64 {k : Nat} {A : Around} (hr : Room k A) : A.units + 64 < cLine := by
  have := hr.un
  omega
theorem hu65 {k : Nat} {A : Around} (hr : Room k A) : A.units + 65 < cLine := by
  have := hr.un
  omega
def runN (n p : Nat) (m : MS') (ds : List D) : Option R := if ds.length = p then (m (startE n ds)).bind fun x => outR x.1 else none
def ioR (ρ : En) (r : R) : Option (R × List D) := match (ρ[(0 : Nat)]? : Option M) with
  | some (.io ws') => some (r, ws')
  | _ => none
def runIO (n p : Nat) (m : MS') (ws ds : List D) : Option (R × List D) := if ds.length + 1 = p then (m (startIO n ws ds)).bind fun x => (outR x.1).bind fun r => ioR x.2 r else none
theorem bind_some' {α β : Type} {o : Option α} {f : α → Option β} {z : β} (h : o.bind f = some z) : ∃ a, o = some a ∧ f a = some z := bind_some h
theorem runN_ok {n p : Nat} {m : MS'} {N ps : List Str} (hn : N.length = n) (hp : ps.length = p) : ∀ ds r, runN n p m ds = some r → ds.length = ps.length ∧ ∃ o ρ', m (startE N.length ds) = some (o, ρ') ∧ outR o = some r := fun ds r h => by
  subst hn hp
  obtain ⟨hl, h⟩ := ite_some' h
  obtain ⟨⟨o, ρ'⟩, e1, e2⟩ := bind_some' h
  exact ⟨hl, o, ρ', e1, e2⟩
theorem runIO_ok {n p : Nat} {m : MS'} {N ps : List Str} (hn : N.length = n) (hp : ps.length = p) : ∀ ws ds r ws', runIO n p m ws ds = some (r, ws') → ds.length + 1 = ps.length ∧ ∃ o ρ', m (startIO N.length ws ds) = some (o, ρ') ∧ outR o = some r ∧ ρ'[0]? = some (.io ws') := fun ws ds r ws' h => by
  subst hn hp
  obtain ⟨hl, h⟩ := ite_some' h
  obtain ⟨⟨o, ρ'⟩, e1, e2⟩ := bind_some' h
  obtain ⟨r', e3, e4⟩ := bind_some' e2
  refine ⟨hl, o, ρ', e1, ?_⟩
  have e4 : ioR ρ' r' = some (r, ws') := e4
  unfold ioR at e4
  cases q : ρ'[0]? with
  | none => simp [q] at e4
  | some mm =>
    cases mm with
    | io xs => simp only [q] at e4; cases e4; exact ⟨e3, rfl⟩
    | no => simp [q] at e4
    | sh _ => simp [q] at e4
    | own _ => simp [q] at e4
section
variable {P : Program} {w : World} {K : Fr0} {mg : Str → Option Value} {base : Heap} {f : Addr} {fd : FuncData} {ps : List Str} {k : Nat}
theorem none_ok {φ : List D → Option R} (h : ∀ ds, φ ds = none) : FnOk P w K mg base CX0 k f fd ps (spN φ) := by
  have no : ∀ vs H Q E, ¬ spN φ vs H Q E := fun vs H Q E q => by
    obtain ⟨_, ds, r, _, _, e, _⟩ := q
    rw [h ds] at e
    cases e
  exact ⟨fun vs H Q E q => absurd q (no vs H Q E), fun A outer s H args us vs Q E hr he hb hv q => absurd q (no vs H Q E)⟩
theorem none_okIO {φ : List D → List D → Option (R × List D)} (h : ∀ ws ds, φ ws ds = none) : FnOk P w K mg base CX0 k f fd ps (spIO φ) := by
  have no : ∀ vs H Q E, ¬ spIO φ vs H Q E := fun vs H Q E q => by
    obtain ⟨_, _, _, ws, _, ds, r, _, _, _, _, _, _, _, e, _⟩ := q
    rw [h ws ds] at e
    cases e
  exact ⟨fun vs H Q E q => absurd q (no vs H Q E), fun A outer s H args us vs Q E hr he hb hv q => absurd q (no vs H Q E)⟩
end
end Mi
namespace Mi
open PySem PySem.Spec PyProof.Rows L2
/-- the law's own promise, from its plain function -/
theorem law_sp (kk : KK) {φ : List D → Option R} {H : Hp} {a : Addr} {ns : List Int} {E : XK} (hS : SqL kk.K H a (ns.map V.int)) (h : φ [frzD (ns.map .int)] = some (.sh (.bool true))) : @spN kk φ [.ref a] H (fun v _ => v = .bl true) E :=
  ⟨H, [frzD (ns.map .int)], .sh (.bool true), .refl H, .cons (.frz hS (@Dvs.of_ints kk H ns)) .nil, h, fun F' H' v P => by
    have q := @Post.res kk _ _ _ _ _ _ P
    cases (show @Dv kk F' v (.bool true) from q)
    rfl⟩
end Mi
set_option Elab.async false
set_option linter.all false
set_option maxRecDepth 100000
/-! Ev: the plain functions evaluated by simp, one combinator at a time, on slots that are written out. -/
namespace Mi
open PySem PySem.Spec PyProof.Rows L2

def bnd {α β : Type} (o : Option α) (f : α → Option β) : Option β := o.bind f
@[simp] theorem bnd_some {α β : Type} (a : α) (f : α → Option β) : bnd (some a) f = f a := (rfl)
@[simp] theorem bnd_none {α β : Type} (f : α → Option β) : bnd none f = none := (rfl)
@[simp] theorem bnd_ite {α β : Type} (c : Prop) [Decidable c] (a b : Option α) (f : α → Option β) : bnd (if c then a else b) f = if c then bnd a f else bnd b f := by
  split <;> rfl
def derefM : Option M → Option D
  | some (.own ds) => some (.list ds)
  | some (.io ds) => some (.list ds)
  | some (.sh d) => some d
  | _ => none
@[simp] theorem derefM_own (ds : List D) : derefM (some (.own ds)) = some (.list ds) := (rfl)
@[simp] theorem derefM_io (ds : List D) : derefM (some (.io ds)) = some (.list ds) := (rfl)
@[simp] theorem derefM_sh (d : D) : derefM (some (.sh d)) = some d := (rfl)
@[simp] theorem deref_sh (ρ : En) (d : D) : deref ρ (.sh d) = some d := (rfl)
@[simp] theorem deref_fr (ρ : En) (ds : List D) : deref ρ (.fr ds) = some (.list ds) := (rfl)
@[simp] theorem deref_bw (ρ : En) (i : Nat) : deref ρ (.bw i) = derefM ρ[i]? := by
  cases q : ρ[i]? with
  | none => simp [deref, q, derefM]
  | some m => cases m <;> simp [deref, q, derefM]
def contM : Option M → Option (List D)
  | some (.own ds) => some ds
  | some (.io ds) => some ds
  | _ => none
@[simp] theorem contM_own (ds : List D) : contM (some (.own ds)) = some ds := (rfl)
@[simp] theorem contM_io (ds : List D) : contM (some (.io ds)) = some ds := (rfl)
theorem contE_eq (ρ : En) (i : Nat) : contE ρ i = contM ρ[i]? := by
  unfold contE contM
  cases ρ[i]? with
  | none => rfl
  | some m => cases m <;> rfl
@[simp] theorem contE_c (e : M) (ρ : En) (i : Nat) : contE (e :: ρ) i = contM (e :: ρ)[i]? := contE_eq _ _
def putM : Option M → En → Nat → List D → En
  | some (.io _), ρ, i, ds => ρ.set i (.io ds)
  | _, ρ, i, ds => ρ.set i (.own ds)
@[simp] theorem putM_own (xs : List D) (ρ : En) (i : Nat) (ds : List D) : putM (some (.own xs)) ρ i ds = ρ.set i (.own ds) := (rfl)
@[simp] theorem putM_io (xs : List D) (ρ : En) (i : Nat) (ds : List D) : putM (some (.io xs)) ρ i ds = ρ.set i (.io ds) := (rfl)
@[simp] theorem putE_c (e : M) (ρ : En) (i : Nat) (ds : List D) : putE (e :: ρ) i ds = putM (e :: ρ)[i]? (e :: ρ) i ds := by
  unfold putE putM
  cases (e :: ρ)[i]? with
  | none => rfl
  | some m => cases m <;> rfl
def freeM : Option M → Bool
  | some (.io _) => false
  | some _ => true
  | none => false
@[simp] theorem freeM_no : freeM (some .no) = true := (rfl)
@[simp] theorem freeM_sh (d : D) : freeM (some (.sh d)) = true := (rfl)
@[simp] theorem freeM_own (d : List D) : freeM (some (.own d)) = true := (rfl)
@[simp] theorem free1_c (e : M) (ρ : En) (i : Nat) : free1 (e :: ρ) i = freeM (e :: ρ)[i]? := by
  unfold free1 freeM
  cases (e :: ρ)[i]? with
  | none => rfl
  | some m => cases m <;> rfl
def capM : Option M → En → Nat → Option (D × En)
  | some (.own ds), ρ, i => some (.list ds, ρ.set i (.sh (.list ds)))
  | some (.sh d), ρ, _ => some (d, ρ)
  | _, _, _ => none
@[simp] theorem capM_own (ds : List D) (ρ : En) (i : Nat) : capM (some (.own ds)) ρ i = some (.list ds, ρ.set i (.sh (.list ds))) := (rfl)
@[simp] theorem capM_sh (d : D) (ρ : En) (i : Nat) : capM (some (.sh d)) ρ i = some (d, ρ) := (rfl)
@[simp] theorem cap_sh (ρ : En) (d : D) : cap ρ (.sh d) = some (d, ρ) := (rfl)
@[simp] theorem cap_fr (ρ : En) (ds : List D) : cap ρ (.fr ds) = some (.list ds, ρ) := (rfl)
@[simp] theorem cap_bw (ρ : En) (i : Nat) : cap ρ (.bw i) = capM ρ[i]? ρ i := by
  cases q : ρ[i]? with
  | none => simp [cap, q, capM]
  | some m => cases m <;> simp [cap, q, capM]
@[simp] theorem asg_fr (ρ : En) (i : Nat) (ds : List D) : asg ρ i (.fr ds) = if free1 ρ i = true then some (ρ.set i (.own ds)) else none := (rfl)
@[simp] theorem asg_sh (ρ : En) (i : Nat) (d : D) : asg ρ i (.sh d) = if free1 ρ i = true then some (ρ.set i (.sh d)) else none := (rfl)
@[simp] theorem asg_bw (ρ : En) (i j : Nat) : asg ρ i (.bw j) = bnd (cap ρ (.bw j)) fun x => if free1 x.2 i = true then some (x.2.set i (.sh x.1)) else none := (rfl)
def retM : Option M → En → Nat → Option (R × En)
  | some (.own ds), ρ, i => some (.fr ds, ρ.set i .no)
  | some (.sh d), ρ, _ => some (.sh d, ρ)
  | _, _, _ => none
@[simp] theorem retM_own (ds : List D) (ρ : En) (i : Nat) : retM (some (.own ds)) ρ i = some (.fr ds, ρ.set i .no) := (rfl)
@[simp] theorem retM_sh (d : D) (ρ : En) (i : Nat) : retM (some (.sh d)) ρ i = some (.sh d, ρ) := (rfl)
@[simp] theorem retR_sh (ρ : En) (d : D) : retR ρ (.sh d) = some (.sh d, ρ) := (rfl)
@[simp] theorem retR_fr (ρ : En) (ds : List D) : retR ρ (.fr ds) = some (.fr ds, ρ) := (rfl)
@[simp] theorem retR_bw (ρ : En) (i : Nat) : retR ρ (.bw i) = retM ρ[i]? ρ i := by
  cases q : ρ[i]? with
  | none => simp [retR, q, retM]
  | some m => cases m <;> simp [retR, q, retM]
@[simp] theorem outR_nx : outR .nx = some (.sh .none) := (rfl)
@[simp] theorem outR_sh (d : D) : outR (.rt (.sh d)) = some (.sh d) := (rfl)
@[simp] theorem outR_fr (d : List D) : outR (.rt (.fr d)) = some (.fr d) := (rfl)
@[simp] theorem ioR_c (ws : List D) (ρ : En) (r : R) : ioR (.io ws :: ρ) r = some (r, ws) := (rfl)
/-! slots at a def's entry -/
@[simp] theorem startE_c (n : Nat) (d : D) (ds : List D) : startE (n + 1) (d :: ds) = .sh d :: startE n ds := by
  unfold startE
  rw [List.map_cons, List.length_cons, Nat.add_sub_add_right, List.cons_append]
@[simp] theorem startE_n (n : Nat) : startE (n + 1) [] = .no :: startE n [] := (rfl)
@[simp] theorem startE_0 : startE 0 [] = [] := (rfl)
@[simp] theorem startIO_c (n : Nat) (ws ds : List D) : startIO (n + 1) ws ds = .io ws :: startE n ds := (rfl)
theorem runN_eq {n p : Nat} {m : MS'} {ds : List D} (h : ds.length = p) : runN n p m ds = bnd (m (startE n ds)) fun x => outR x.1 := by
  unfold runN
  rw [if_pos h]
  rfl
theorem runIO_eq {n p : Nat} {m : MS'} {ws ds : List D} (h : ds.length + 1 = p) : runIO n p m ws ds = bnd (m (startIO n ws ds)) fun x => bnd (outR x.1) fun r => ioR x.2 r := by
  unfold runIO
  rw [if_pos h]
  rfl
/-! combinators -/
section
variable {f : D → D → Option R} {f1 : D → Option R} {g : D → D → Option Bool} {ma mb m mo : MR} {t u : MB} {e : M} {ρ : En} {ms : MA} {i : Nat} {d : D} {lo hi : MP}
def varM : Option M → Nat → En → Option (R × En)
  | some (.sh d), _, ρ => some (.sh d, ρ)
  | some (.own _), i, ρ => some (.bw i, ρ)
  | some (.io _), i, ρ => some (.bw i, ρ)
  | _, _, _ => none
@[simp] theorem varM_sh (i : Nat) (d : D) : varM (some (.sh d)) i ρ = some (.sh d, ρ) := (rfl)
@[simp] theorem varM_own (i : Nat) (d : List D) : varM (some (.own d)) i ρ = some (.bw i, ρ) := (rfl)
@[simp] theorem varM_io (i : Nat) (d : List D) : varM (some (.io d)) i ρ = some (.bw i, ρ) := (rfl)
@[simp] theorem mVar_c : mVar i (e :: ρ) = varM (e :: ρ)[i]? i (e :: ρ) := by
  unfold mVar varM
  cases (e :: ρ)[i]? with
  | none => rfl
  | some m => cases m <;> rfl
@[simp] theorem mC_c : mC d ρ = some (.sh d, ρ) := (rfl)
@[simp] theorem mBin_c : mBin f ma mb (e :: ρ) = bnd (ma (e :: ρ)) fun x => bnd (mb x.2) fun y => bnd (deref y.2 x.1) fun d1 => bnd (deref y.2 y.1) fun d2 => bnd (f d1 d2) fun k => some (k, y.2) := (rfl)
@[simp] theorem mUn_c : mUn f1 ma (e :: ρ) = bnd (ma (e :: ρ)) fun x => bnd (deref x.2 x.1) fun d1 => bnd (f1 d1) fun k => some (k, x.2) := (rfl)
@[simp] theorem mCmp_c : mCmp g ma mb (e :: ρ) = bnd (ma (e :: ρ)) fun x => bnd (mb x.2) fun y => bnd (deref y.2 x.1) fun d1 => bnd (deref y.2 y.1) fun d2 => bnd (g d1 d2) fun k => some (k, y.2) := (rfl)
@[simp] theorem mBV_c : mBV t (e :: ρ) = bnd (t (e :: ρ)) fun x => some (.sh (.bool x.1), x.2) := (rfl)
@[simp] theorem mTest_c : mTest m (e :: ρ) = bnd (m (e :: ρ)) fun x => bnd (deref x.2 x.1) fun d => bnd (truD d) fun k => some (k, x.2) := (rfl)
@[simp] theorem mAnd_c : mAnd t u (e :: ρ) = bnd (t (e :: ρ)) fun x => if x.1 = true then u x.2 else some (false, x.2) := (rfl)
@[simp] theorem mOr_c : mOr t u (e :: ρ) = bnd (t (e :: ρ)) fun x => if x.1 = true then some (true, x.2) else u x.2 := (rfl)
@[simp] theorem mNot_c : mNot t (e :: ρ) = bnd (t (e :: ρ)) fun x => some (!x.1, x.2) := (rfl)
@[simp] theorem mYes_c : mYes ρ = some (true, ρ) := (rfl)
def boolR : R → Option Bool
  | .sh (.bool b) => some b
  | _ => none
@[simp] theorem boolR_sh (b : Bool) : boolR (.sh (.bool b)) = some b := (rfl)
@[simp] theorem mAndV_c : mAndV ma mb (e :: ρ) = bnd (ma (e :: ρ)) fun x => bnd (boolR x.1) fun b => if b = true then mb x.2 else some (.sh (.bool false), x.2) := by
  show (ma (e :: ρ)).bind _ = (ma (e :: ρ)).bind _
  congr 1
  funext x
  obtain ⟨r, ρ1⟩ := x
  cases r with
  | sh d =>
    cases d with
    | bool b => cases b <;> rfl
    | _ => rfl
  | fr _ => rfl
  | bw _ => rfl
@[simp] theorem mOrV_c : mOrV ma mb (e :: ρ) = bnd (ma (e :: ρ)) fun x => bnd (boolR x.1) fun b => if b = true then some (.sh (.bool true), x.2) else mb x.2 := by
  show (ma (e :: ρ)).bind _ = (ma (e :: ρ)).bind _
  congr 1
  funext x
  obtain ⟨r, ρ1⟩ := x
  cases r with
  | sh d =>
    cases d with
    | bool b => cases b <;> rfl
    | _ => rfl
  | fr _ => rfl
  | bw _ => rfl
@[simp] theorem mNotV_c : mNotV ma (e :: ρ) = bnd (ma (e :: ρ)) fun x => bnd (boolR x.1) fun b => some (.sh (.bool (!b)), x.2) := by
  show (ma (e :: ρ)).bind _ = (ma (e :: ρ)).bind _
  congr 1
  funext x
  obtain ⟨r, ρ1⟩ := x
  cases r with
  | sh d =>
    cases d with
    | bool b => cases b <;> rfl
    | _ => rfl
  | fr _ => rfl
  | bw _ => rfl
@[simp] theorem mIf_c : mIf t ma mb (e :: ρ) = bnd (t (e :: ρ)) fun x => if x.1 = true then ma x.2 else mb x.2 := (rfl)
@[simp] theorem aNil_c : aNil ρ = some ([], ρ) := (rfl)
@[simp] theorem mCap_c : mCap m (e :: ρ) = bnd (m (e :: ρ)) fun x => cap x.2 x.1 := (rfl)
@[simp] theorem aCons_c : aCons m ms (e :: ρ) = bnd (mCap m (e :: ρ)) fun x => bnd (ms x.2) fun y => some (x.1 :: y.1, y.2) := (rfl)
@[simp] theorem mTup_c : mTup ms (e :: ρ) = bnd (ms (e :: ρ)) fun x => if x.1.length ≤ lim then some (.sh (.tuple x.1), x.2) else none := (rfl)
@[simp] theorem mLst_c : mLst ms (e :: ρ) = bnd (ms (e :: ρ)) fun x => if x.1.length ≤ lim then some (.fr x.1, x.2) else none := (rfl)
@[simp] theorem pNone_c : pNone ρ = some (none, ρ) := (rfl)
def intR : R → Option Int
  | .sh (.int i) => some i
  | _ => none
@[simp] theorem intR_sh (i : Int) : intR (.sh (.int i)) = some i := (rfl)
@[simp] theorem pSome_c : pSome m (e :: ρ) = bnd (m (e :: ρ)) fun x => bnd (intR x.1) fun i => some (some i, x.2) := by
  show (m (e :: ρ)).bind _ = (m (e :: ρ)).bind _
  congr 1
  funext x
  obtain ⟨r, ρ1⟩ := x
  cases r with
  | sh d => cases d <;> rfl
  | fr _ => rfl
  | bw _ => rfl
@[simp] theorem mSl_c : mSl m lo hi (e :: ρ) = bnd (m (e :: ρ)) fun x => bnd (lo x.2) fun l => bnd (hi l.2) fun h => bnd (deref h.2 x.1) fun d => bnd (slD d l.1 h.1) fun k => some (k, h.2) := (rfl)
variable {φ : List D → Option R} {φi : List D → List D → Option (R × List D)}
@[simp] theorem mCall_c : mCall φ ms (e :: ρ) = bnd (ms (e :: ρ)) fun x => bnd (φ x.1) fun r => some (r, x.2) := (rfl)
@[simp] theorem mCallIO_c : mCallIO φi i ms (e :: ρ) = bnd (contE (e :: ρ) i) fun _ => bnd (ms (e :: ρ)) fun x => bnd (contE x.2 i) fun ws => bnd (φi ws x.1) fun y => some (y.1, putE x.2 i y.2) := (rfl)
@[simp] theorem mAppend_c : mAppend i m (e :: ρ) = bnd (contE (e :: ρ) i) fun _ => bnd (mCap m (e :: ρ)) fun x => bnd (contE x.2 i) fun ds => if ds.length < lim then some (.sh .none, putE x.2 i (ds ++ [x.1])) else none := (rfl)
@[simp] theorem mPop_c : mPop i (e :: ρ) = bnd (contE (e :: ρ) i) fun ds => bnd ds[ds.length - 1]? fun d => some (.sh d, putE (e :: ρ) i ds.dropLast) := (rfl)
@[simp] theorem mPopAt_c : mPopAt i m (e :: ρ) = bnd (contE (e :: ρ) i) fun _ => bnd (m (e :: ρ)) fun x => bnd (intR x.1) fun z => bnd (contE x.2 i) fun ds => if i62 z = true then bnd (seqIndex? z ds.length) fun j => bnd ds[j]? fun d => some (.sh d, putE x.2 i (ds.eraseIdx j)) else none := by
  show (contE (e :: ρ) i).bind _ = (contE (e :: ρ) i).bind _
  congr 1
  funext _
  show (m (e :: ρ)).bind _ = (m (e :: ρ)).bind _
  congr 1
  funext x
  obtain ⟨r, ρ1⟩ := x
  cases r with
  | sh d => cases d <;> rfl
  | fr _ => rfl
  | bw _ => rfl
def listR : D → Option (List D)
  | .list ds => some ds
  | _ => none
@[simp] theorem listR_l (ds : List D) : listR (.list ds) = some ds := (rfl)
@[simp] theorem mExtend_c : mExtend i m (e :: ρ) = bnd (contE (e :: ρ) i) fun _ => bnd (m (e :: ρ)) fun x => bnd (deref x.2 x.1) fun d => bnd (listR d) fun es => bnd (contE x.2 i) fun ds => if ds.length + es.length ≤ lim then some (.sh .none, putE x.2 i (ds ++ es)) else none := by
  show (contE (e :: ρ) i).bind _ = (contE (e :: ρ) i).bind _
  congr 1
  funext _
  show (m (e :: ρ)).bind _ = (m (e :: ρ)).bind _
  congr 1
  funext x
  obtain ⟨r, ρ1⟩ := x
  show (deref ρ1 r).bind _ = (deref ρ1 r).bind _
  congr 1
  funext d
  cases d <;> rfl
@[simp] theorem mIsi_c {T : String} : mIsi T m (e :: ρ) = bnd (m (e :: ρ)) fun x => bnd (deref x.2 x.1) fun d => bnd (isiD T d) fun k => some (.sh (.bool k), x.2) := (rfl)
def strR : R → Option Str
  | .sh (.str a) => some a
  | _ => none
@[simp] theorem strR_s (a : Str) : strR (.sh (.str a)) = some a := (rfl)
@[simp] theorem mM1_c : mM1 f mo m (e :: ρ) = bnd (mo (e :: ρ)) fun x => bnd (strR x.1) fun a => bnd (m x.2) fun y => bnd (deref y.2 y.1) fun d => bnd (f (.str a) d) fun k => some (k, y.2) := by
  show (mo (e :: ρ)).bind _ = (mo (e :: ρ)).bind _
  congr 1
  funext x
  obtain ⟨r, ρ1⟩ := x
  cases r with
  | sh d => cases d <;> rfl
  | fr _ => rfl
  | bw _ => rfl
@[simp] theorem mIndex_c : mIndex ma mb (e :: ρ) = bnd (ma (e :: ρ)) fun x => bnd (deref x.2 x.1) fun d0 => bnd (listR d0) fun _ => bnd (mb x.2) fun y => bnd (deref y.2 x.1) fun d1 => bnd (deref y.2 y.1) fun d2 => bnd (indexD d1 d2) fun k => some (k, y.2) := by
  show (ma (e :: ρ)).bind _ = (ma (e :: ρ)).bind _
  congr 1
  funext x
  obtain ⟨r, ρ1⟩ := x
  show (deref ρ1 r).bind _ = (deref ρ1 r).bind _
  congr 1
  funext d
  cases d <;> rfl
/-! what is walked, targets -/
@[simp] theorem mIter_c : mIter m (e :: ρ) = bnd (mCap m (e :: ρ)) fun x => bnd (itemsD x.1) fun ds => some (ds, x.2) := (rfl)
@[simp] theorem itemsD_l (ds : List D) : itemsD (.list ds) = some ds := (rfl)
@[simp] theorem itemsD_t (ds : List D) : itemsD (.tuple ds) = some ds := (rfl)
@[simp] theorem itemsD_s (z : Str) : itemsD (.str z) = some (charsD z) := (rfl)
def range1 : List D → Option (List D)
  | [.int j] => if i62 j = true then some (rangeD 0 j) else none
  | _ => none
def range2 : List D → Option (List D)
  | [.int i, .int j] => if (i62 i && i62 j) = true then some (rangeD i j) else none
  | _ => none
@[simp] theorem range1_i (j : Int) : range1 [.int j] = if i62 j = true then some (rangeD 0 j) else none := (rfl)
@[simp] theorem range2_i (i j : Int) : range2 [.int i, .int j] = if (i62 i && i62 j) = true then some (rangeD i j) else none := (rfl)
theorem match1 {α : Type} {ρ1 : α} {ds : List D} : (match ds with
    | [.int j] => if i62 j = true then some (rangeD 0 j, ρ1) else none
    | _ => none) = bnd (range1 ds) fun xs => some (xs, ρ1) := by
  unfold range1
  split
  · split <;> rfl
  · rfl
theorem match2 {α : Type} {ρ1 : α} {ds : List D} : (match ds with
    | [.int i, .int j] => if (i62 i && i62 j) = true then some (rangeD i j, ρ1) else none
    | _ => none) = bnd (range2 ds) fun xs => some (xs, ρ1) := by
  unfold range2
  split
  · split <;> rfl
  · rfl
@[simp] theorem mRange1_c : mRange1 ms (e :: ρ) = bnd (ms (e :: ρ)) fun x => bnd (range1 x.1) fun ds => some (ds, x.2) := by
  show (ms (e :: ρ)).bind _ = (ms (e :: ρ)).bind _
  congr 1
  funext x
  exact match1
@[simp] theorem mRange2_c : mRange2 ms (e :: ρ) = bnd (ms (e :: ρ)) fun x => bnd (range2 x.1) fun ds => some (ds, x.2) := by
  show (ms (e :: ρ)).bind _ = (ms (e :: ρ)).bind _
  congr 1
  funext x
  exact match2
@[simp] theorem gNm_c : gNm i d (e :: ρ) = if free1 (e :: ρ) i = true then some ((e :: ρ).set i (.sh d)) else none := (rfl)
variable {gg : MG} {gs : MGs'} {n n1 n2 : MS'}
@[simp] theorem gTp_c (k : Nat) (ds : List D) : gTp k gs (.tuple ds) (e :: ρ) = if ds.length = k then gs ds (e :: ρ) else none := (rfl)
@[simp] theorem gNil_c : gNil' [] (e :: ρ) = some (e :: ρ) := (rfl)
@[simp] theorem gCons_c (r : List D) : gCons' gg gs (d :: r) (e :: ρ) = bnd (gg d (e :: ρ)) fun ρ1 => gs r ρ1 := (rfl)
/-! statements -/
@[simp] theorem sNil_c : sNil ρ = some (.nx, ρ) := (rfl)
@[simp] theorem sBrk_c : sBrk ρ = some (.bk, ρ) := (rfl)
@[simp] theorem sCont_c : sCont ρ = some (.ct, ρ) := (rfl)
def thenS (n2 : MS') : Out × En → Option (Out × En)
  | (.nx, ρ) => n2 ρ
  | x => some x
@[simp] theorem thenS_nx : thenS n2 (.nx, ρ) = n2 ρ := (rfl)
@[simp] theorem thenS_bk : thenS n2 (.bk, ρ) = some (.bk, ρ) := (rfl)
@[simp] theorem thenS_ct : thenS n2 (.ct, ρ) = some (.ct, ρ) := (rfl)
@[simp] theorem thenS_rt (r : R) : thenS n2 (.rt r, ρ) = some (.rt r, ρ) := (rfl)
@[simp] theorem sSeq_c : sSeq n1 n2 (e :: ρ) = bnd (n1 (e :: ρ)) (thenS n2) := by
  show (n1 (e :: ρ)).bind _ = (n1 (e :: ρ)).bind _
  congr 1
  funext x
  obtain ⟨o, ρ1⟩ := x
  cases o <;> rfl
@[simp] theorem sExpr_c : sExpr m (e :: ρ) = bnd (m (e :: ρ)) fun x => some (.nx, x.2) := (rfl)
@[simp] theorem sRet_c : sRet m (e :: ρ) = bnd (m (e :: ρ)) fun x => bnd (retR x.2 x.1) fun y => some (.rt y.1, y.2) := (rfl)
@[simp] theorem sRetN_c : sRetN ρ = some (.rt (.sh .none), ρ) := (rfl)
@[simp] theorem sIf_c : sIf t n1 n2 (e :: ρ) = bnd (t (e :: ρ)) fun x => if x.1 = true then n1 x.2 else n2 x.2 := (rfl)
@[simp] theorem sSet_c : sSet i m (e :: ρ) = bnd (m (e :: ρ)) fun x => bnd (asg x.2 i x.1) fun ρ2 => some (.nx, ρ2) := (rfl)
@[simp] theorem sAsg_c : sAsg gg m (e :: ρ) = bnd (mCap m (e :: ρ)) fun x => bnd (gg x.1 x.2) fun ρ2 => some (.nx, ρ2) := (rfl)
variable {it : MI}
@[simp] theorem sFor_c : sFor it gg n (e :: ρ) = bnd (it (e :: ρ)) fun x => forGo gg n x.1 x.2 := (rfl)
def dR : R → Option D
  | .sh d => some d
  | _ => none
@[simp] theorem dR_sh : dR (.sh d) = some d := (rfl)
@[simp] theorem sAug_c : sAug i f m (e :: ρ) = bnd (mVar i (e :: ρ)) fun x => bnd (dR x.1) fun d0 => bnd (m x.2) fun y => bnd (deref y.2 y.1) fun d1 => bnd (f d0 d1) fun k => bnd (asg y.2 i k) fun ρ2 => some (.nx, ρ2) := by
  show (mVar i (e :: ρ)).bind _ = (mVar i (e :: ρ)).bind _
  congr 1
  funext x
  obtain ⟨r, ρ1⟩ := x
  cases r <;> rfl
@[simp] theorem sPut_c {mi mv : MR} : sPut i mi mv (e :: ρ) = bnd (mCap mv (e :: ρ)) fun x => bnd (contE x.2 i) fun _ => bnd (mi x.2) fun y => bnd (intR y.1) fun z => bnd (contE y.2 i) fun ds => bnd (ixN ds.length z) fun j => some (.nx, putE y.2 i (ds.set j x.1)) := by
  show (mCap mv (e :: ρ)).bind _ = (mCap mv (e :: ρ)).bind _
  congr 1
  funext x
  obtain ⟨d, ρ1⟩ := x
  show (contE ρ1 i).bind _ = (contE ρ1 i).bind _
  congr 1
  funext _
  show (mi ρ1).bind _ = (mi ρ1).bind _
  congr 1
  funext y
  obtain ⟨r, ρ2⟩ := y
  cases r with
  | sh d => cases d <;> rfl
  | fr _ => rfl
  | bw _ => rfl
/-! loops -/
def forO (gg : MG) (n : MS') (ds : List D) : Out × En → Option (Out × En)
  | (.nx, ρ) => forGo gg n ds ρ
  | (.ct, ρ) => forGo gg n ds ρ
  | (.bk, ρ) => some (.nx, ρ)
  | (.rt r, ρ) => some (.rt r, ρ)
@[simp] theorem forO_nx (ds : List D) : forO gg n ds (.nx, ρ) = forGo gg n ds ρ := (rfl)
@[simp] theorem forO_ct (ds : List D) : forO gg n ds (.ct, ρ) = forGo gg n ds ρ := (rfl)
@[simp] theorem forO_bk (ds : List D) : forO gg n ds (.bk, ρ) = some (.nx, ρ) := (rfl)
@[simp] theorem forO_rt (ds : List D) (r : R) : forO gg n ds (.rt r, ρ) = some (.rt r, ρ) := (rfl)
@[simp] theorem forGo_nil : forGo gg n [] ρ = some (.nx, ρ) := (rfl)
@[simp] theorem forGo_cons (ds : List D) : forGo gg n (d :: ds) ρ = bnd (gg d ρ) fun ρ1 => bnd (n ρ1) (forO gg n ds) := by
  show (gg d ρ).bind _ = (gg d ρ).bind _
  congr 1
  funext ρ1
  show (n ρ1).bind _ = (n ρ1).bind _
  congr 1
  funext x
  obtain ⟨o, ρ2⟩ := x
  cases o <;> rfl
/-- a loop that goes through: an invariant over what is left and the slots -/
theorem for_inv {ds : List D} (I : List D → En → Prop) (h0 : I ds ρ) (hs : ∀ d r ρ, I (d :: r) ρ → ∃ ρ1 o ρ2, gg d ρ = some ρ1 ∧ n ρ1 = some (o, ρ2) ∧ (o = .nx ∨ o = .ct) ∧ I r ρ2) : ∃ ρ', forGo gg n ds ρ = some (.nx, ρ') ∧ I [] ρ' := by
  induction ds generalizing ρ with
  | nil => exact ⟨ρ, rfl, h0⟩
  | cons d r ih =>
    obtain ⟨ρ1, o, ρ2, e1, e2, ho, h⟩ := hs d r ρ h0
    obtain ⟨ρ', e, h'⟩ := ih h
    refine ⟨ρ', ?_, h'⟩
    rw [forGo_cons, e1, bnd_some, e2, bnd_some]
    rcases ho with rfl | rfl
    · rw [forO_nx, e]
    · rw [forO_ct, e]
/-- by a fold: what each turn makes of the slots -/
theorem for_fold {ds : List D} {α : Type} (S : α → En) (f : α → D → α) (hs : ∀ a d, d ∈ ds → ∃ ρ1, gg d (S a) = some ρ1 ∧ n ρ1 = some (.nx, S (f a d))) (a : α) : forGo gg n ds (S a) = some (.nx, S (ds.foldl f a)) := by
  induction ds generalizing a with
  | nil => rfl
  | cons d r ih =>
    obtain ⟨ρ1, e1, e2⟩ := hs a d List.mem_cons_self
    rw [forGo_cons, e1, bnd_some, e2, bnd_some, forO_nx, ih (fun a d h => hs a d (List.mem_cons_of_mem _ h))]
    rfl
def whO (t : MB) (n : MS') (f : Nat) : Out × En → Option (Out × En)
  | (.nx, ρ) => whGo t n f ρ
  | (.ct, ρ) => whGo t n f ρ
  | (.bk, ρ) => some (.nx, ρ)
  | (.rt r, ρ) => some (.rt r, ρ)
@[simp] theorem whO_nx (f : Nat) : whO t n f (.nx, ρ) = whGo t n f ρ := (rfl)
@[simp] theorem whO_ct (f : Nat) : whO t n f (.ct, ρ) = whGo t n f ρ := (rfl)
@[simp] theorem whO_bk (f : Nat) : whO t n f (.bk, ρ) = some (.nx, ρ) := (rfl)
@[simp] theorem whO_rt (f : Nat) (r : R) : whO t n f (.rt r, ρ) = some (.rt r, ρ) := (rfl)
theorem whGo_eq (f : Nat) : whGo t n (f + 1) ρ = bnd (t ρ) fun x => if x.1 = true then bnd (n x.2) (whO t n f) else some (.nx, x.2) := by
  show (t ρ).bind _ = (t ρ).bind _
  congr 1
  funext x
  obtain ⟨k, ρ1⟩ := x
  cases k with
  | false => rfl
  | true =>
    show (n ρ1).bind _ = (n ρ1).bind _
    congr 1
    funext y
    obtain ⟨o, ρ2⟩ := y
    cases o <;> rfl
@[simp] theorem sWhile_c (f : Nat) : sWhile f t n (e :: ρ) = whGo t n f (e :: ρ) := (rfl)
/-! comprehensions -/
/-- one turn: what is kept, the slots behind -/
def lcTurn (gg : MG) (t : MB) (el : MR) (vs : List Nat) (d : D) (ρ : En) : Option (Option D × En) :=
  bnd (gg d (wipeE ρ vs)) fun ρ1 => bnd (t ρ1) fun x => if x.1 = true then bnd (mCap el x.2) fun y => some (some y.1, backE ρ y.2 vs) else some (none, backE ρ x.2 vs)
theorem lcGo_cons {el : MR} {vs : List Nat} (ds acc : List D) : lcGo gg t el vs (d :: ds) ρ acc = bnd (lcTurn gg t el vs d ρ) fun x => match x.1 with
    | some y => if acc.length < lim then lcGo gg t el vs ds x.2 (acc ++ [y]) else none
    | none => lcGo gg t el vs ds x.2 acc := by
  unfold lcTurn
  show (gg d (wipeE ρ vs)).bind _ = ((gg d (wipeE ρ vs)).bind _).bind _
  rw [Option.bind_assoc]
  congr 1
  funext ρ1
  show (t ρ1).bind _ = ((t ρ1).bind _).bind _
  rw [Option.bind_assoc]
  congr 1
  funext x
  obtain ⟨k, ρ2⟩ := x
  cases k with
  | false => rfl
  | true =>
    show (mCap el ρ2).bind _ = ((mCap el ρ2).bind _).bind _
    rw [Option.bind_assoc]
    rfl
/-- a comprehension that changes nothing: what each item gives -/
theorem lc_pure {el : MR} {vs : List Nat} {ds : List D} (f : D → Option D) (hs : ∀ d ∈ ds, lcTurn gg t el vs d ρ = some (f d, ρ)) (acc : List D) (hl : acc.length + ds.length ≤ lim) : lcGo gg t el vs ds ρ acc = some (acc ++ ds.filterMap f, ρ) := by
  induction ds generalizing acc with
  | nil => simp [lcGo]
  | cons d r ih =>
    rw [List.length_cons] at hl
    rw [lcGo_cons, hs d List.mem_cons_self, bnd_some, List.filterMap_cons]
    cases q : f d with
    | none => exact ih (fun d h => hs d (List.mem_cons_of_mem _ h)) acc (by omega)
    | some y =>
      show (if acc.length < lim then _ else none) = _
      rw [if_pos (by omega), ih (fun d h => hs d (List.mem_cons_of_mem _ h)) (acc ++ [y]) (by rw [List.length_append, List.length_singleton]; omega), List.append_assoc]
      rfl
/-- one that may draw: an invariant of the slots, a fact of each item kept -/
theorem lc_inv {el : MR} {vs : List Nat} {ds : List D} (I : En → Prop) (Pt : D → Prop) (hs : ∀ d ∈ ds, ∀ ρ, I ρ → ∃ o ρ', lcTurn gg t el vs d ρ = some (o, ρ') ∧ I ρ' ∧ ∀ y, o = some y → Pt y) (h0 : I ρ) (acc : List D) (hl : acc.length + ds.length ≤ lim) :
    ∃ ys ρ', lcGo gg t el vs ds ρ acc = some (acc ++ ys, ρ') ∧ I ρ' ∧ (∀ y ∈ ys, Pt y) ∧ ys.length ≤ ds.length := by
  induction ds generalizing acc ρ with
  | nil => exact ⟨[], ρ, by simp [lcGo], h0, by simp, Nat.le_refl _⟩
  | cons d r ih =>
    rw [List.length_cons] at hl
    obtain ⟨o, ρ1, e, h1, hp⟩ := hs d List.mem_cons_self ρ h0
    rw [lcGo_cons, e, bnd_some]
    cases o with
    | none =>
      obtain ⟨ys, ρ', e', h', hy, hn⟩ := ih (fun d h => hs d (List.mem_cons_of_mem _ h)) h1 acc (by omega)
      exact ⟨ys, ρ', e', h', hy, by rw [List.length_cons]; omega⟩
    | some y =>
      obtain ⟨ys, ρ', e', h', hy, hn⟩ := ih (fun d h => hs d (List.mem_cons_of_mem _ h)) h1 (acc ++ [y]) (by rw [List.length_append, List.length_singleton]; omega)
      refine ⟨y :: ys, ρ', ?_, h', fun z hz => ?_, by rw [List.length_cons, List.length_cons]; omega⟩
      · show (if acc.length < lim then _ else none) = _
        rw [if_pos (by omega), e', List.append_assoc]
        rfl
      · rcases List.mem_cons.mp hz with rfl | hz
        · exact hp _ rfl
        · exact hy z hz
/-- .. that keeps every item -/
theorem lc_invA {el : MR} {vs : List Nat} {ds : List D} (I : En → Prop) (Pt : D → Prop) (hs : ∀ d ∈ ds, ∀ ρ, I ρ → ∃ y ρ', lcTurn gg t el vs d ρ = some (some y, ρ') ∧ I ρ' ∧ Pt y) (h0 : I ρ) (acc : List D) (hl : acc.length + ds.length ≤ lim) :
    ∃ ys ρ', lcGo gg t el vs ds ρ acc = some (acc ++ ys, ρ') ∧ I ρ' ∧ (∀ y ∈ ys, Pt y) ∧ ys.length = ds.length := by
  induction ds generalizing acc ρ with
  | nil => exact ⟨[], ρ, by simp [lcGo], h0, by simp, rfl⟩
  | cons d r ih =>
    rw [List.length_cons] at hl
    obtain ⟨y, ρ1, e, h1, hp⟩ := hs d List.mem_cons_self ρ h0
    rw [lcGo_cons, e, bnd_some]
    obtain ⟨ys, ρ', e', h', hy, hn⟩ := ih (fun d h => hs d (List.mem_cons_of_mem _ h)) h1 (acc ++ [y]) (by rw [List.length_append, List.length_singleton]; omega)
    refine ⟨y :: ys, ρ', ?_, h', fun z hz => ?_, by rw [List.length_cons, List.length_cons, hn]⟩
    · show (if acc.length < lim then _ else none) = _
      rw [if_pos (by omega), e', List.append_assoc]
      rfl
    · rcases List.mem_cons.mp hz with rfl | hz
      · exact hp
      · exact hy z hz
@[simp] theorem lcTurn_c {el : MR} {vs : List Nat} : lcTurn gg t el vs d (e :: ρ) = bnd (gg d (wipeE (e :: ρ) vs)) fun ρ1 => bnd (t ρ1) fun x => if x.1 = true then bnd (mCap el x.2) fun y => some (some y.1, backE (e :: ρ) y.2 vs) else some (none, backE (e :: ρ) x.2 vs) := (rfl)
@[simp] theorem mLc_c {el : MR} {vs : List Nat} : mLc it gg t el vs (e :: ρ) = bnd (it (e :: ρ)) fun x => if okW x.2 vs = true then bnd (lcGo gg t el vs x.1 x.2 []) fun y => some (.fr y.1, y.2) else none := (rfl)
@[simp] theorem wipeE_nil : wipeE ρ [] = ρ := (rfl)
@[simp] theorem wipeE_cons (v : Nat) (vs : List Nat) : wipeE ρ (v :: vs) = (wipeE ρ vs).set v .no := (rfl)
@[simp] theorem backE_nil (ρ1 : En) : backE ρ ρ1 [] = ρ1 := (rfl)
@[simp] theorem backE_cons (ρ1 : En) (v : Nat) (vs : List Nat) : backE ρ ρ1 (v :: vs) = (backE ρ ρ1 vs).set v (ρ.getD v .no) := (rfl)
def okM : Option M → Bool
  | some (.own _) => false
  | some (.io _) => false
  | _ => true
@[simp] theorem okM_no : okM (some .no) = true := (rfl)
@[simp] theorem okM_sh : okM (some (.sh d)) = true := (rfl)
@[simp] theorem okW_nil : okW ρ [] = true := (rfl)
@[simp] theorem okW_cons (v : Nat) (vs : List Nat) : okW ρ (v :: vs) = (okM ρ[v]? && okW ρ vs) := by
  unfold okW
  rw [List.all_cons]
  rfl
end
/-! ### operations on data -/
@[simp] theorem addD_i (a b : Int) : addD (.int a) (.int b) = some (.sh (.int (a + b))) := (rfl)
@[simp] theorem addD_s (a b : Str) : addD (.str a) (.str b) = if a.length + b.length ≤ lim then some (.sh (.str (a ++ b))) else none := (rfl)
@[simp] theorem addD_l (a b : List D) : addD (.list a) (.list b) = if a.length + b.length ≤ lim then some (.fr (a ++ b)) else none := (rfl)
@[simp] theorem addD_t (a b : List D) : addD (.tuple a) (.tuple b) = if a.length + b.length ≤ lim then some (.sh (.tuple (a ++ b))) else none := (rfl)
@[simp] theorem subD_i (a b : Int) : subD (.int a) (.int b) = some (.sh (.int (a - b))) := (rfl)
@[simp] theorem mulD_i (a b : Int) : mulD (.int a) (.int b) = if (i64 a || i64 b) = true then some (.sh (.int (a * b))) else none := (rfl)
@[simp] theorem mulD_l (a : List D) (k : Int) : mulD (.list a) (.int k) = if i62 k = true ∧ a.length * k.toNat ≤ lim then some (.fr (List.replicate k.toNat a).flatten) else none := (rfl)
@[simp] theorem divD_i (a b : Int) : divD (.int a) (.int b) = if 0 < b ∧ b < 2 ^ 64 then some (.sh (.int (a / b))) else none := (rfl)
@[simp] theorem modD_i (a b : Int) : modD (.int a) (.int b) = if 0 < b then some (.sh (.int (a % b))) else none := (rfl)
@[simp] theorem powD_i (a b : Int) : powD (.int a) (.int b) = if (i64 a = true ∧ 0 ≤ b ∧ b ≤ 1000) then some (.sh (.int (a ^ b.toNat))) else none := (rfl)
@[simp] theorem xorD_i (a b : Int) : xorD (.int a) (.int b) = some (.sh (.int (Builtin.bitXor a b))) := (rfl)
@[simp] theorem negD_i (a : Int) : negD (.int a) = some (.sh (.int (-a))) := (rfl)
@[simp] theorem eqD_i (a b : Int) : eqD (.int a) (.int b) = some (decide (a = b)) := (rfl)
@[simp] theorem eqD_s (a b : Str) : eqD (.str a) (.str b) = some (decide (a = b)) := (rfl)
@[simp] theorem neD_i (a b : Int) : neD (.int a) (.int b) = some (!decide (a = b)) := (rfl)
@[simp] theorem neD_s (a b : Str) : neD (.str a) (.str b) = some (!decide (a = b)) := (rfl)
@[simp] theorem ltD_i (a b : Int) : ltD (.int a) (.int b) = some (decide (a < b)) := (rfl)
@[simp] theorem gtD_i (a b : Int) : gtD (.int a) (.int b) = some (decide (b < a)) := (rfl)
@[simp] theorem leD_i (a b : Int) : leD (.int a) (.int b) = some (decide (a ≤ b)) := (rfl)
@[simp] theorem geD_i (a b : Int) : geD (.int a) (.int b) = some (decide (b ≤ a)) := (rfl)
@[simp] theorem isD_n (a : D) : isD a .none = some (noneD a) := by cases a <;> rfl
@[simp] theorem noneD_n : noneD .none = true := (rfl)
@[simp] theorem noneD_i (i : Int) : noneD (.int i) = false := (rfl)
@[simp] theorem noneD_s (i : Str) : noneD (.str i) = false := (rfl)
@[simp] theorem noneD_b (i : Bool) : noneD (.bool i) = false := (rfl)
@[simp] theorem noneD_l (i : List D) : noneD (.list i) = false := (rfl)
@[simp] theorem noneD_t (i : List D) : noneD (.tuple i) = false := (rfl)
@[simp] theorem ixD_l (a : List D) (i : Int) : ixD (.list a) (.int i) = (atI a i).map .sh := (rfl)
@[simp] theorem ixD_t (a : List D) (i : Int) : ixD (.tuple a) (.int i) = (atI a i).map .sh := (rfl)
@[simp] theorem ixD_s (z : Str) (i : Int) : ixD (.str z) (.int i) = if z.length ≤ lim then (atI z.cps.toList i).map fun c => .sh (.str ⟨#[c]⟩) else none := (rfl)
@[simp] theorem ixD_f (a : List D) (i : Int) : ixD (frzD a) (.int i) = (atI a i).map .sh := (rfl)
@[simp] theorem slD_l (a : List D) (l h : Option Int) : slD (.list a) l h = some (.fr (cutD a l h)) := (rfl)
@[simp] theorem slD_t (a : List D) (l h : Option Int) : slD (.tuple a) l h = some (.sh (.tuple (cutD a l h))) := (rfl)
@[simp] theorem slD_s (z : Str) (l h : Option Int) : slD (.str z) l h = if z.length ≤ lim then some (.sh (.str (cutS z l h))) else none := (rfl)
@[simp] theorem lenD_l (a : List D) : lenD (.list a) = some (.sh (.int a.length)) := (rfl)
@[simp] theorem lenD_t (a : List D) : lenD (.tuple a) = some (.sh (.int a.length)) := (rfl)
@[simp] theorem lenD_f (a : List D) : lenD (frzD a) = some (.sh (.int a.length)) := (rfl)
@[simp] theorem lenD_s (z : Str) : lenD (.str z) = if z.length ≤ lim then some (.sh (.int z.length)) else none := (rfl)
@[simp] theorem absD_i (i : Int) : absD (.int i) = some (.sh (.int (if i < 0 then -i else i))) := (rfl)
@[simp] theorem intD_i (i : Int) : intD (.int i) = some (.sh (.int i)) := (rfl)
@[simp] theorem intD_b (b : Bool) : intD (.bool b) = some (.sh (.int (if b then 1 else 0))) := (rfl)
@[simp] theorem max2D_i (i j : Int) : max2D (.int i) (.int j) = some (.sh (.int (if j > i then j else i))) := (rfl)
@[simp] theorem min2D_i (i j : Int) : min2D (.int i) (.int j) = some (.sh (.int (if j < i then j else i))) := (rfl)
theorem intsD_map' : ∀ ns : List Int, intsD (ns.map .int) = some ns
  | [] => rfl
  | n :: r => by
    show (intsD (r.map .int)).map (n :: ·) = _
    rw [intsD_map' r]
    rfl
theorem blsD_map' : ∀ ns : List Bool, blsD (ns.map .bool) = some ns
  | [] => rfl
  | n :: r => by
    show (blsD (r.map .bool)).map (n :: ·) = _
    rw [blsD_map' r]
    rfl
theorem strsD_map' : ∀ ns : List Str, strsD (ns.map .str) = some ns
  | [] => rfl
  | n :: r => by
    show (strsD (r.map .str)).map (n :: ·) = _
    rw [strsD_map' r]
    rfl
@[simp] theorem sumD_l (ns : List Int) : sumD (.list (ns.map .int)) = some (.sh (.int ns.sum)) := by
  show (intsD _).map _ = _
  rw [intsD_map']
  rfl
@[simp] theorem anyD_l (ns : List Bool) : anyD (.list (ns.map .bool)) = some (.sh (.bool (ns.any id))) := by
  show (blsD _).map _ = _
  rw [blsD_map']
  rfl
@[simp] theorem allD_l (ns : List Bool) : allD (.list (ns.map .bool)) = some (.sh (.bool (ns.all id))) := by
  show (blsD _).map _ = _
  rw [blsD_map']
  rfl
@[simp] theorem listD_l (ds : List D) : listD (.list ds) = some (.fr ds) := (rfl)
@[simp] theorem listD_t (ds : List D) : listD (.tuple ds) = some (.fr ds) := (rfl)
@[simp] theorem tupleD_l (ds : List D) : tupleD (.list ds) = some (.sh (.tuple ds)) := (rfl)
@[simp] theorem tupleD_t (ds : List D) : tupleD (.tuple ds) = some (.sh (.tuple ds)) := (rfl)
@[simp] theorem truD_b (b : Bool) : truD (.bool b) = some b := (rfl)
@[simp] theorem truD_i (i : Int) : truD (.int i) = some (i != 0) := (rfl)
@[simp] theorem truD_n : truD .none = some false := (rfl)
@[simp] theorem truD_l (ds : List D) : truD (.list ds) = some (!ds.isEmpty) := (rfl)
@[simp] theorem truD_t (ds : List D) : truD (.tuple ds) = some (!ds.isEmpty) := (rfl)
theorem i64_of {i : Int} (h1 : -(2 ^ 64) < i) (h2 : i < 2 ^ 64) : i64 i = true := by
  unfold i64
  rw [decide_eq_true h1, decide_eq_true h2]
  rfl
theorem i62_of {i : Int} (h1 : -(2 ^ 62) ≤ i) (h2 : i < 2 ^ 62) : i62 i = true := by
  unfold i62
  rw [decide_eq_true h1, decide_eq_true h2]
  rfl
theorem join_ok {a : Str} {ys : List Str} (h : (ys.map (·.length)).sum + ys.length * a.length ≤ lim) : joinD (.str a) (.list (ys.map .str)) = some (.sh (.str (Txt.join a ys))) := by
  show (strsD _).bind _ = _
  rw [strsD_map']
  show (if _ then _ else none) = _
  rw [if_pos h]
theorem atI_nat' {α : Type} (xs : List α) (n : Nat) : atI xs (n : Int) = xs[n]? := by
  unfold atI ixN
  rw [if_pos (by omega)]
  by_cases h : (n : Int) < xs.length
  · rw [if_pos h]
    simp
  · rw [if_neg h, List.getElem?_eq_none (by omega)]
    rfl
@[simp] theorem atI_0 {α : Type} (xs : List α) : atI xs 0 = xs[0]? := atI_nat' xs 0
@[simp] theorem atI_1 {α : Type} (xs : List α) : atI xs 1 = xs[1]? := atI_nat' xs 1
@[simp] theorem atI_2 {α : Type} (xs : List α) : atI xs 2 = xs[2]? := atI_nat' xs 2
@[simp] theorem atI_3 {α : Type} (xs : List α) : atI xs 3 = xs[3]? := atI_nat' xs 3
theorem atI_pos {α : Type} {xs : List α} {i : Int} (h : 0 ≤ i) : atI xs i = xs[i.toNat]? := by
  have := atI_nat' xs i.toNat
  rwa [Int.toNat_of_nonneg h] at this
@[simp] theorem atI_m1 {α : Type} (xs : List α) (x : α) : atI (xs ++ [x]) (-1) = some x := atI_last xs x
theorem atI_last? {α : Type} (xs : List α) : atI xs (-1) = xs.getLast? := by
  cases h : xs.getLast? with
  | none =>
    rw [List.getLast?_eq_none_iff] at h
    subst h
    rfl
  | some x =>
    rw [List.getLast?_eq_some_iff] at h
    obtain ⟨ys, rfl⟩ := h
    exact atI_last ys x
theorem ixN_nat' (n k : Nat) : ixN n (k : Int) = if k < n then some k else none := by
  unfold ixN
  rw [if_pos (by omega)]
  by_cases h : k < n
  · rw [if_pos (by omega), if_pos h]; simp
  · rw [if_neg (by omega), if_neg h]
@[simp] theorem ixN_0 (n : Nat) : ixN n 0 = if 0 < n then some 0 else none := ixN_nat' n 0
@[simp] theorem ixN_1 (n : Nat) : ixN n 1 = if 1 < n then some 1 else none := ixN_nat' n 1
@[simp] theorem ixN_2 (n : Nat) : ixN n 2 = if 2 < n then some 2 else none := ixN_nat' n 2
theorem i64_lit {i : Int} (h : (decide (-(2 ^ 64) < i) && decide (i < 2 ^ 64)) = true) : i64 i = true := h
/-- a slot that holds no list of its own -/
inductive Shy : M → Prop
  | no : Shy .no
  | sh (d : D) : Shy (.sh d)
theorem shy_free {m : M} (h : Shy m) : freeM (some m) = true := by cases h <;> rfl
theorem rangeL_mem {k : Int} : ∀ {lo : Int} {n : Nat}, k ∈ rangeL lo n → lo ≤ k ∧ k < lo + n
  | lo, 0, h => by simp [rangeL] at h
  | lo, n + 1, h => by
    unfold rangeL at h
    rcases List.mem_cons.mp h with rfl | h
    · omega
    · have := rangeL_mem (lo := lo + 1) h
      omega
theorem rangeD_mem {d : D} {lo hi : Int} (h : d ∈ rangeD lo hi) : ∃ k, d = .int k ∧ lo ≤ k ∧ k < hi := by
  unfold rangeD at h
  obtain ⟨k, hk, rfl⟩ := List.mem_map.mp h
  have := rangeL_mem hk
  exact ⟨k, rfl, by omega, by omega⟩
theorem rangeD_len (lo hi : Int) : (rangeD lo hi).length = (hi - lo).toNat := by
  unfold rangeD
  rw [List.length_map]
  induction (hi - lo).toNat generalizing lo with
  | zero => rfl
  | succ n ih => unfold rangeL; rw [List.length_cons, ih]
/-- a loop that goes through, by a count of its turns -/
theorem turns {S : Nat → En → Prop} {g : MG} {b : MS'} {ok : D → Prop} (L : Nat) (hs : ∀ n ρ d, ok d → S n ρ → n < L → ∃ ρ2, bnd (g d ρ) b = some (.nx, ρ2) ∧ S (n + 1) ρ2) {ds : List D} {n : Nat} {ρ : En} (hd : ∀ d ∈ ds, ok d) (h : S n ρ) (hl : n + ds.length ≤ L) : ∃ ρ', forGo g b ds ρ = some (.nx, ρ') ∧ S (n + ds.length) ρ' := by
  induction ds generalizing n ρ with
  | nil => exact ⟨ρ, rfl, h⟩
  | cons d r ih =>
    rw [List.length_cons] at hl
    obtain ⟨ρ2, e2, h2⟩ := hs n ρ d (hd d List.mem_cons_self) h (by omega)
    obtain ⟨ρ', e, h'⟩ := ih (fun d h => hd d (List.mem_cons_of_mem _ h)) h2 (by omega)
    refine ⟨ρ', ?_, by rw [List.length_cons]; rwa [show n + 1 + r.length = n + (r.length + 1) by omega] at h'⟩
    rw [forGo_cons]
    cases q : g d ρ with
    | none => rw [q] at e2; cases e2
    | some ρ1 =>
      rw [q, bnd_some] at e2
      rw [bnd_some, e2, bnd_some, forO_nx, e]
theorem kit_bool_str : kitB "bool" "str" = some false := by decide +kernel
@[simp] theorem isi_bool_str (b : Bool) : isiD "str" (.bool b) = some false := kit_bool_str
theorem kit_bool_int : kitB "bool" "int" = some true := by decide +kernel
@[simp] theorem isi_bool_int (b : Bool) : isiD "int" (.bool b) = some true := kit_bool_int
theorem kit_bool_bool : kitB "bool" "bool" = some true := by decide +kernel
@[simp] theorem isi_bool_bool (b : Bool) : isiD "bool" (.bool b) = some true := kit_bool_bool
theorem kit_bool_tuple : kitB "bool" "tuple" = some false := by decide +kernel
@[simp] theorem isi_bool_tuple (b : Bool) : isiD "tuple" (.bool b) = some false := kit_bool_tuple
theorem kit_bool_list : kitB "bool" "list" = some false := by decide +kernel
@[simp] theorem isi_bool_list (b : Bool) : isiD "list" (.bool b) = some false := kit_bool_list
theorem kit_int_str : kitB "int" "str" = some false := by decide +kernel
@[simp] theorem isi_int_str (i : Int) : isiD "str" (.int i) = some false := kit_int_str
theorem kit_int_int : kitB "int" "int" = some true := by decide +kernel
@[simp] theorem isi_int_int (i : Int) : isiD "int" (.int i) = some true := kit_int_int
theorem kit_int_bool : kitB "int" "bool" = some false := by decide +kernel
@[simp] theorem isi_int_bool (i : Int) : isiD "bool" (.int i) = some false := kit_int_bool
theorem kit_int_tuple : kitB "int" "tuple" = some false := by decide +kernel
@[simp] theorem isi_int_tuple (i : Int) : isiD "tuple" (.int i) = some false := kit_int_tuple
theorem kit_int_list : kitB "int" "list" = some false := by decide +kernel
@[simp] theorem isi_int_list (i : Int) : isiD "list" (.int i) = some false := kit_int_list
theorem kit_str_str : kitB "str" "str" = some true := by decide +kernel
@[simp] theorem isi_str_str (x : Str) : isiD "str" (.str x) = some true := kit_str_str
theorem kit_str_int : kitB "str" "int" = some false := by decide +kernel
@[simp] theorem isi_str_int (x : Str) : isiD "int" (.str x) = some false := kit_str_int
theorem kit_str_bool : kitB "str" "bool" = some false := by decide +kernel
@[simp] theorem isi_str_bool (x : Str) : isiD "bool" (.str x) = some false := kit_str_bool
theorem kit_str_tuple : kitB "str" "tuple" = some false := by decide +kernel
@[simp] theorem isi_str_tuple (x : Str) : isiD "tuple" (.str x) = some false := kit_str_tuple
theorem kit_str_list : kitB "str" "list" = some false := by decide +kernel
@[simp] theorem isi_str_list (x : Str) : isiD "list" (.str x) = some false := kit_str_list
theorem kit_list_str : kitB "list" "str" = some false := by decide +kernel
@[simp] theorem isi_list_str {ds : List D} (h : plainDs ds = true) : isiD "str" (.list ds) = some false := by
  unfold isiD
  rw [show plainD (.list ds) = plainDs ds from rfl, if_pos h]
  exact kit_list_str
theorem kit_list_int : kitB "list" "int" = some false := by decide +kernel
@[simp] theorem isi_list_int {ds : List D} (h : plainDs ds = true) : isiD "int" (.list ds) = some false := by
  unfold isiD
  rw [show plainD (.list ds) = plainDs ds from rfl, if_pos h]
  exact kit_list_int
theorem kit_list_bool : kitB "list" "bool" = some false := by decide +kernel
@[simp] theorem isi_list_bool {ds : List D} (h : plainDs ds = true) : isiD "bool" (.list ds) = some false := by
  unfold isiD
  rw [show plainD (.list ds) = plainDs ds from rfl, if_pos h]
  exact kit_list_bool
theorem kit_list_tuple : kitB "list" "tuple" = some false := by decide +kernel
@[simp] theorem isi_list_tuple {ds : List D} (h : plainDs ds = true) : isiD "tuple" (.list ds) = some false := by
  unfold isiD
  rw [show plainD (.list ds) = plainDs ds from rfl, if_pos h]
  exact kit_list_tuple
theorem kit_list_list : kitB "list" "list" = some true := by decide +kernel
@[simp] theorem isi_list_list {ds : List D} (h : plainDs ds = true) : isiD "list" (.list ds) = some true := by
  unfold isiD
  rw [show plainD (.list ds) = plainDs ds from rfl, if_pos h]
  exact kit_list_list
theorem kit_tuple_str : kitB "tuple" "str" = some false := by decide +kernel
@[simp] theorem isi_tuple_str {ds : List D} (h : plainDs ds = true) : isiD "str" (.tuple ds) = some false := by
  unfold isiD
  rw [show plainD (.tuple ds) = plainDs ds from rfl, if_pos h]
  exact kit_tuple_str
theorem kit_tuple_int : kitB "tuple" "int" = some false := by decide +kernel
@[simp] theorem isi_tuple_int {ds : List D} (h : plainDs ds = true) : isiD "int" (.tuple ds) = some false := by
  unfold isiD
  rw [show plainD (.tuple ds) = plainDs ds from rfl, if_pos h]
  exact kit_tuple_int
theorem kit_tuple_bool : kitB "tuple" "bool" = some false := by decide +kernel
@[simp] theorem isi_tuple_bool {ds : List D} (h : plainDs ds = true) : isiD "bool" (.tuple ds) = some false := by
  unfold isiD
  rw [show plainD (.tuple ds) = plainDs ds from rfl, if_pos h]
  exact kit_tuple_bool
theorem kit_tuple_tuple : kitB "tuple" "tuple" = some true := by decide +kernel
@[simp] theorem isi_tuple_tuple {ds : List D} (h : plainDs ds = true) : isiD "tuple" (.tuple ds) = some true := by
  unfold isiD
  rw [show plainD (.tuple ds) = plainDs ds from rfl, if_pos h]
  exact kit_tuple_tuple
theorem kit_tuple_list : kitB "tuple" "list" = some false := by decide +kernel
@[simp] theorem isi_tuple_list {ds : List D} (h : plainDs ds = true) : isiD "list" (.tuple ds) = some false := by
  unfold isiD
  rw [show plainD (.tuple ds) = plainDs ds from rfl, if_pos h]
  exact kit_tuple_list
@[simp] theorem isD_b (x y : Bool) : isD (.bool x) (.bool y) = some (x == y) := (rfl)
@[simp] theorem isD_i (x : Int) (y : Bool) : isD (.int x) (.bool y) = some false := (rfl)
@[simp] theorem isD_s (x : Str) (y : Bool) : isD (.str x) (.bool y) = some false := (rfl)
@[simp] theorem isD_l (x : List D) (y : Bool) : isD (.list x) (.bool y) = some false := (rfl)
@[simp] theorem isD_t (x : List D) (y : Bool) : isD (.tuple x) (.bool y) = some false := (rfl)
theorem reprD_i {i : Int} (h : i64 i = true) : reprD (.int i) = some (.sh (.str (toString i))) := by
  show (if i64 i = true then _ else none) = _
  rw [if_pos h]
theorem reprD_s {x : Str} (h : (reprText x).length ≤ lim) : reprD (.str x) = some (.sh (.str (reprText x))) := by
  show (if (reprText x).length ≤ lim then _ else none) = _
  rw [if_pos h]
end Mi
set_option Elab.async false
set_option linter.all false
set_option maxRecDepth 100000
/-! Lib: texts as lists of signs, sizes of repr, data that is compared, the least of data. -/
namespace Mi
open PySem PySem.Spec PyProof.Rows L2
open PySem.W (alike alikeAll dataLt AlikeAll minD maxD dataLt_ii minD_ints)

/-! ### texts as lists of signs -/
/-- the text of signs -/
def sS (l : List Nat) : Str := ⟨l.toArray⟩
theorem sS_of (x : Str) : sS x.cps.toList = x := rfl
@[simp] theorem sS_list (l : List Nat) : (sS l).cps.toList = l := (rfl)
@[simp] theorem sS_len (l : List Nat) : (sS l).length = l.length := by
  show l.toArray.size = _
  simp
@[simp] theorem sS_app (a b : List Nat) : sS a ++ sS b = sS (a ++ b) := by
  show (⟨a.toArray ++ b.toArray⟩ : Str) = ⟨(a ++ b).toArray⟩
  congr 1
  simp
@[simp] theorem sS_cut (l : List Nat) (lo hi : Option Int) : cutS (sS l) lo hi = sS (cutD l lo hi) := by
  unfold cutS cutD
  rw [sS_len, sS_list]
  rfl
theorem sS_inj {a b : List Nat} : sS a = sS b ↔ a = b := by
  constructor
  · intro h
    have := congrArg (fun s : Str => s.cps.toList) h
    simpa using this
  · rintro rfl; rfl
theorem cut_from {α : Type} (xs : List α) {i : Int} (h : 0 ≤ i) : cutD xs (some i) none = xs.drop i.toNat := by
  unfold cutD
  have e : HT.sIx xs.length 0 (some i) = min i.toNat xs.length := by
    show (if i < 0 then _ else min i.toNat xs.length) = _
    rw [if_neg (by omega)]
  rw [e, HT.sIx_none]
  by_cases hl : i.toNat ≤ xs.length
  · rw [Nat.min_eq_left hl, List.take_of_length_le (by rw [List.length_drop]; omega)]
  · rw [Nat.min_eq_right (by omega), List.drop_length, List.drop_eq_nil_of_le (by omega)]
    simp
theorem cut_to {α : Type} (xs : List α) {i : Int} (h : 0 ≤ i) : cutD xs none (some i) = xs.take i.toNat := by
  unfold cutD
  have e : HT.sIx xs.length xs.length (some i) = min i.toNat xs.length := by
    show (if i < 0 then _ else min i.toNat xs.length) = _
    rw [if_neg (by omega)]
  rw [e, HT.sIx_none]
  show (xs.drop 0).take _ = _
  rw [List.drop_zero, Nat.sub_zero]
  by_cases hl : i.toNat ≤ xs.length
  · rw [Nat.min_eq_left hl]
  · rw [Nat.min_eq_right (by omega), List.take_length, List.take_of_length_le (by omega)]
theorem cut_both {α : Type} (xs : List α) {i j : Int} (h : 0 ≤ i) (hj : 0 ≤ j) : cutD xs (some i) (some j) = (xs.take j.toNat).drop i.toNat := by
  unfold cutD
  have e : ∀ (d : Nat) (i : Int), 0 ≤ i → HT.sIx xs.length d (some i) = min i.toNat xs.length := fun d i h => by
    show (if i < 0 then _ else min i.toNat xs.length) = _
    rw [if_neg (by omega)]
  rw [e 0 i h, e _ j hj]
  apply List.ext_getElem?
  intro k
  rw [List.getElem?_take, List.getElem?_drop, List.getElem?_drop, List.getElem?_take]
  by_cases h1 : k < min j.toNat xs.length - min i.toNat xs.length
  · rw [if_pos h1, if_pos (by omega)]
    congr 1
    omega
  · rw [if_neg h1]
    by_cases h2 : i.toNat + k < j.toNat
    · rw [if_pos h2, List.getElem?_eq_none (by omega)]
    · rw [if_neg h2]
@[simp] theorem cut_all {α : Type} (xs : List α) : cutD xs none none = xs := by
  unfold cutD
  rw [HT.sIx_none, HT.sIx_none]
  simp
theorem sS_join (ls : List (List Nat)) : Txt.join (sS []) (ls.map sS) = sS ls.flatten := by
  rw [show Txt.join (sS []) (ls.map sS) = Str.join (sS []) (ls.map sS) from _root_.TL.join_eq _ _]
  induction ls with
  | nil => rfl
  | cons a r ih =>
    cases r with
    | nil => show sS a = sS [a].flatten; simp
    | cons b r =>
      show sS a ++ sS [] ++ Str.join (sS []) ((b :: r).map sS) = _
      rw [ih, sS_app, sS_app]
      simp
theorem join_empty : Str.ofString "" = sS [] := by decide +kernel

/-! ### the size of a text's repr -/
theorem digits_len (n : Nat) : ∀ k, n < 16 ^ (k + 1) → (Nat.toDigits 16 n).length ≤ k + 1 := fun k h => by
  exact (Nat.length_toDigits_le_iff (by decide) (by omega)).mpr h
theorem reprChar_len (q c : Nat) (h : c < 1114112) : (Builtin.Str.reprChar q c).length ≤ 10 := by
  unfold Builtin.Str.reprChar
  have d := digits_len c 7 (by omega)
  (repeat' split) <;> simp only [List.length_append, List.length_cons, List.length_nil, List.length_replicate, List.length_map] <;> omega
theorem repr_fold (q : Nat) : ∀ (l : List Nat) (acc : Array Nat), (∀ c ∈ l, c < 1114112) → (l.foldl (fun out c => out ++ (Builtin.Str.reprChar q c).toArray) acc).size ≤ acc.size + 10 * l.length
  | [], acc, _ => by simp
  | c :: r, acc, h => by
    have ih := repr_fold q r (acc ++ (Builtin.Str.reprChar q c).toArray) fun x hx => h x (List.mem_cons_of_mem _ hx)
    have hc := reprChar_len q c (h c List.mem_cons_self)
    rw [List.foldl_cons, List.length_cons]
    have e : (acc ++ (Builtin.Str.reprChar q c).toArray).size = acc.size + (Builtin.Str.reprChar q c).length := by simp
    rw [e] at ih
    omega
theorem repr_len (l : List Nat) (h : ∀ c ∈ l, c < 1114112) : (reprText (sS l)).length ≤ 2 + 10 * l.length := by
  unfold reprText
  show (Array.push _ _).size ≤ _
  rw [Array.size_push]
  have e : (sS l).cps.foldl (fun out c => out ++ (Builtin.Str.reprChar (reprQuote (sS l)) c).toArray) #[reprQuote (sS l)] = l.foldl (fun out c => out ++ (Builtin.Str.reprChar (reprQuote (sS l)) c).toArray) #[reprQuote (sS l)] := by
    rw [← Array.foldl_toList]
    rfl
  rw [e]
  have := repr_fold (reprQuote (sS l)) l #[reprQuote (sS l)] h
  have : (#[reprQuote (sS l)] : Array Nat).size = 1 := rfl
  omega

/-! ### data that is compared -/
theorem depth_le {k : Nat} : ∀ {ds : List D}, (∀ d ∈ ds, d.depth ≤ k) → PyData.depthAll ds ≤ k
  | [], _ => Nat.zero_le _
  | d :: ds, h => Nat.max_le.mpr ⟨h d List.mem_cons_self, depth_le fun x hx => h x (List.mem_cons_of_mem _ hx)⟩
theorem canLay_all : ∀ {ds : List D}, (∀ d ∈ ds, d.canLay0 = true) → PyData.canLayAll0 ds = true
  | [], _ => rfl
  | d :: ds, h => Bool.and_eq_true_iff.mpr ⟨h d List.mem_cons_self, canLay_all fun x hx => h x (List.mem_cons_of_mem _ hx)⟩
theorem plain_all : ∀ {ds : List D}, (∀ d ∈ ds, plainD d = true) → plainDs ds = true
  | [], _ => rfl
  | d :: ds, h => Bool.and_eq_true_iff.mpr ⟨h d List.mem_cons_self, plain_all fun x hx => h x (List.mem_cons_of_mem _ hx)⟩
theorem shaped_of {d : D} (h : d.canLay0 = true) (k : d.depth ≤ 64) : SeqAt.shaped d = true := Bool.and_eq_true_iff.mpr ⟨h, decide_eq_true k⟩
theorem shaped_ints (ns : List Int) : SeqAt.shaped (.list (ns.map .int)) = true :=
  shaped_of (canLay_all fun d hd => by obtain ⟨i, _, rfl⟩ := List.mem_map.mp hd; rfl) (by
    have : PyData.depthAll (ns.map PyData.int) ≤ 0 := depth_le (k := 0) fun d hd => by
      obtain ⟨i, _, rfl⟩ := List.mem_map.mp hd
      exact Nat.zero_le _
    show PyData.depthAll (ns.map PyData.int) + 1 ≤ 64
    omega)
theorem eqD_self {d : D} (h : SeqAt.shaped d = true) : eqD d d = some true := by
  unfold eqD
  split
  · simp_all
  · simp_all
  · rename_i h1 h2
    rw [if_pos ⟨h, h⟩, PySem.SeqAt.eqv_refl d (SeqAt.canLay_of_shaped h)]
theorem neD_self {d : D} (h : SeqAt.shaped d = true) : neD d d = some false := by
  unfold neD
  rw [eqD_self h]
  rfl
theorem plain_ints (ns : List Int) : plainDs (ns.map .int) = true := plain_all fun d hd => by
  obtain ⟨i, _, rfl⟩ := List.mem_map.mp hd
  rfl
/-- what may be compared for the least -/
theorem bestOk_of {ds : List D} (h1 : ∀ d ∈ ds, plainD d = true) (h2 : ∀ d ∈ ds, ∀ e ∈ ds, alike d e = true) (h3 : ∀ d ∈ ds, noneD d = false) (h4 : ∀ d ∈ ds, d.depth ≤ 60) : bestOk ds = true := by
  unfold bestOk alikeB
  rw [plain_all h1, decide_eq_true (depth_le h4)]
  have a : (ds.all fun x => ds.all fun y => alike x y) = true := List.all_eq_true.mpr fun x hx => List.all_eq_true.mpr fun y hy => h2 x hx y hy
  have b : (ds.all fun x => !noneD x) = true := List.all_eq_true.mpr fun x hx => by rw [h3 x hx]; rfl
  rw [a, b]
  rfl
theorem best_ints (ns : List Int) : bestOk (ns.map .int) = true := by
  have h : ∀ d ∈ ns.map PyData.int, ∃ i, d = .int i := fun d hd => by
    obtain ⟨i, _, rfl⟩ := List.mem_map.mp hd
    exact ⟨i, rfl⟩
  refine bestOk_of (fun d hd => ?_) (fun d hd e he => ?_) (fun d hd => ?_) (fun d hd => ?_)
  · obtain ⟨i, rfl⟩ := h d hd; rfl
  · obtain ⟨i, rfl⟩ := h d hd; obtain ⟨j, rfl⟩ := h e he; rfl
  · obtain ⟨i, rfl⟩ := h d hd; rfl
  · obtain ⟨i, rfl⟩ := h d hd; exact Nat.zero_le _
def pairD (p : Int × Int) : D := .tuple [.int p.1, .int p.2]
theorem best_pairs (ps : List (Int × Int)) : bestOk (ps.map pairD) = true := by
  have h : ∀ d ∈ ps.map pairD, ∃ i, d = pairD i := fun d hd => by
    obtain ⟨i, _, rfl⟩ := List.mem_map.mp hd
    exact ⟨i, rfl⟩
  refine bestOk_of (fun d hd => ?_) (fun d hd e he => ?_) (fun d hd => ?_) (fun d hd => ?_)
  · obtain ⟨i, rfl⟩ := h d hd; rfl
  · obtain ⟨i, rfl⟩ := h d hd; obtain ⟨j, rfl⟩ := h e he; rfl
  · obtain ⟨i, rfl⟩ := h d hd; rfl
  · obtain ⟨i, rfl⟩ := h d hd; exact (by decide : 1 ≤ 60)
theorem minLD_ints (n : Int) (ns : List Int) : minLD (.list (.int n :: ns.map .int)) = some (.sh (.int (ns.foldl min n))) := by
  show (if bestOk (.int n :: ns.map .int) = true then some (R.sh (minD (.int n) (ns.map .int))) else none) = _
  rw [if_pos (show bestOk (.int n :: ns.map .int) = true from best_ints (n :: ns)), minD_ints]
def ltP (p q : Int × Int) : Bool := decide (p.1 < q.1 ∨ (p.1 = q.1 ∧ p.2 < q.2))
def minP (p : Int × Int) (ps : List (Int × Int)) : Int × Int := ps.foldl (fun a y => if ltP y a then y else a) p
theorem minD_pairs (p : Int × Int) (ps : List (Int × Int)) : minD (pairD p) (ps.map pairD) = pairD (minP p ps) := by
  unfold minD minP
  induction ps generalizing p with
  | nil => rfl
  | cons q r ih =>
    rw [List.map_cons, List.foldl_cons, List.foldl_cons, ← ih]
    congr 1
    have e : dataLt (pairD q) (pairD p) = ltP q p := dataLt_ii q.1 q.2 p.1 p.2
    rw [e]
    split <;> rfl
theorem minLD_pairs (p : Int × Int) (ps : List (Int × Int)) : minLD (.list (pairD p :: ps.map pairD)) = some (.sh (pairD (minP p ps))) := by
  show (if bestOk (pairD p :: ps.map pairD) = true then some (R.sh (minD (pairD p) (ps.map pairD))) else none) = _
  rw [if_pos (show bestOk (pairD p :: ps.map pairD) = true from best_pairs (p :: ps)), minD_pairs]
end Mi
set_option Elab.async false
set_option linter.all false
set_option maxRecDepth 100000
/-! Core9: calls that only read, parallel stores, more methods, more subscripts. -/
namespace Mi
open PySem PySem.Spec PyProof.Rows L2
variable [KK]
section
variable {X : Cx} {e a b c tg : Expr} {pos p : Pos} {m ma mb mc : MR} {es : List Expr} {ms : MA} {k : Nat} {x y : Str} {t u : MB}

/-! ### arguments as they stand -/
abbrev ML := En → Option (List R × En)
def RsAll (F G H : Hp) (σ : L2.St) (ρ : En) : List V → List R → Prop
  | [], [] => True
  | v :: vs, r :: rs => RsOk F G H σ ρ v r ∧ RsAll F G H σ ρ vs rs
  | _, _ => False
def tML (m : ML) : TA := fun σ H Q => ∃ F G b ρ, Rp F G H b σ ρ ∧ ∃ rs ρ', m ρ = some (rs, ρ') ∧ ∀ F' H' vs, Same F F' → Cln F G F' → Rp F' G H' b σ ρ' → RsAll F' G H' σ ρ' vs rs → Q vs H'
structure MLs (X : Cx) (es : List Expr) (m : ML) : Prop where
  ok : PA X es (tML m)
def lNil : ML := fun ρ => some ([], ρ)
def lCons (m : MR) (ms : ML) : ML := fun ρ => do
  let (r, ρ1) ← m ρ
  let (rs, ρ2) ← ms ρ1
  some (r :: rs, ρ2)
theorem ml_nil : MLs X [] lNil := ⟨pa_nil.imq fun σ H Q q => by
  obtain ⟨F, G, b, ρ, hr, rs, ρ', e, k⟩ := q
  cases e
  exact k F H [] (.refl _) (.refl _ _) hr trivial⟩
theorem RsAll.less {F G G' H : Hp} {σ : L2.St} {ρ : En} (e : Same G G') : ∀ {vs : List V} {rs : List R}, RsAll F G' H σ ρ vs rs → RsAll F G H σ ρ vs rs
  | [], [], _ => trivial
  | v :: vs, r :: rs, h => ⟨h.1.less e, RsAll.less e h.2⟩
  | [], _ :: _, h => h
  | _ :: _, [], h => h
theorem ml_cons {ml : ML} (ha : ME X e m) (hr : MLs X es ml) (hs : starEach (e :: es) X.env = (false, eval e X.env) :: starEach es X.env := by rfl) : MLs X (e :: es) (lCons m ml) := ⟨(pa_cons ha.ok hr.ok hs).imq fun σ H Q q => by
  obtain ⟨F, G, b, ρ, hr, rs, ρ', e, k⟩ := q
  obtain ⟨⟨r1, ρ1⟩, e1, e⟩ := bind_some e
  obtain ⟨⟨rs2, ρ2⟩, e2, e⟩ := bind_some e
  cases e
  refine ⟨F, G, b, ρ, hr, r1, ρ1, e1, fun F1 H1 v1 s1 c1 h1 k1 => ?_⟩
  refine ⟨F1, guard G H1 v1 r1, b, ρ1, h1.guarded k1, rs2, _, e2, fun F2 H2 vs s2 c2 h2 k2 => ?_⟩
  have ge := guard_ge k1
  exact k F2 H2 (v1 :: vs) (s1.trans s2) (c1.trans (c2.less ge)) (h2.less ge) ⟨k1.keep s2 c2 h2, k2.less ge⟩⟩
def derefs (ρ : En) : List R → Option (List D)
  | [] => some []
  | r :: rs => do
    let d ← deref ρ r
    let ds ← derefs ρ rs
    some (d :: ds)
theorem RsAll.dvs {F G H : Hp} {b : Addr} {σ : L2.St} {ρ : En} (h : Rp F G H b σ ρ) : ∀ {vs : List V} {rs : List R} {ds : List D}, RsAll F G H σ ρ vs rs → derefs ρ rs = some ds → Dvs H vs ds
  | [], [], ds, _, e => by
    cases e
    exact .nil
  | v :: vs, r :: rs, ds, k, e => by
    obtain ⟨d, e1, e⟩ := bind_some e
    obtain ⟨ds2, e2, e⟩ := bind_some e
    cases e
    exact .cons ((k.1.bd h e1).dv h.fh) (RsAll.dvs h k.2 e2)
  | [], _ :: _, _, k, _ => False.elim k
  | _ :: _, [], _, k, _ => False.elim k
def flD : D → Bool
  | .none => true
  | .bool _ => true
  | .int _ => true
  | .str _ => true
  | _ => false
theorem fl_dv {F F' : Hp} {v : V} {d : D} (h : Dv F v d) (f : flD d = true) : Dv F' v d := by
  cases h with
  | non => exact .non
  | bl b => exact .bl b
  | int i => exact .int i
  | str x => exact .str x
  | lst _ _ => cases f
  | tup _ _ => cases f
  | frz _ _ => cases f
def flatR : R → Option R
  | .sh d => if flD d = true then some (.sh d) else none
  | _ => none
/-- a call that only reads: what is handed in stays as it was; the answer is flat -/
def mCallL (φ : List D → Option R) (ms : ML) : MR := fun ρ => do
  let (rs, ρ1) ← ms ρ
  let ds ← derefs ρ1 rs
  let r ← φ ds
  let r ← flatR r
  some (r, ρ1)
theorem me_callLC {φ : List D → Option R} {ml : ML} (c : Cl X.prog X.w X.mg X.base x k (spN φ)) (hr : Room k X.A) (hg : Gl X x)
    (ha : MLs X (e :: es) ml) (hK : X.K = KK.K := by rfl) (hdb : (x == ("__debug__" : Str)) = false := by decide) (he : starEach (e :: es) X.env = (false, eval e X.env) :: starEach es X.env := by rfl) (hpl : (backTo pos (starEach es X.env)).any (·.1) = false := by rfl) :
    ME X (.Call (.Name x p) (e :: es) [] pos) (mCallL φ ml) := by
  obtain ⟨f, fd, ps, F, hm, hk, hb⟩ := c
  rw [← hK] at F hk hb
  exact ⟨(pe_call (dvs := []) F hr hg hm hk hb .nil pass0 ha.ok hdb he hpl).imq fun σ H Q q => by
    obtain ⟨F0, G, b, ρ, hr0, r, ρ', e, k⟩ := q
    obtain ⟨⟨rs, ρ1⟩, e1, e⟩ := bind_some e
    obtain ⟨ds, e2, e⟩ := bind_some e
    obtain ⟨r1, e3, e⟩ := bind_some e
    obtain ⟨r2, e4, e⟩ := bind_some e
    cases e
    refine ⟨F0, G, b, ρ, hr0, rs, _, e1, fun F1 H1 vs s1 c1 h1 k1 => ?_⟩
    refine (show spN φ (vs ++ []) H1 Q E0 from ?_)
    rw [List.append_nil]
    refine ⟨H1, ds, r1, .refl _, k1.dvs h1 e2, e3, fun F' H' v P => ?_⟩
    have hP := P.res
    match r1, e4, hP with
    | .sh d, e4, hP =>
      obtain ⟨fl, e5⟩ := ite_some (show (if flD d = true then some (R.sh d) else none) = some r from e4)
      subst e5
      have g : Rp F1 G H' b σ ρ' := h1.grow (.refl _) P.hh (h1.fh.trans P.hh) fun i q o z => by
        obtain ⟨_, _, f, _⟩ := h1.own_some o z
        exact f
      exact k F1 H' v s1 c1 g (show Dv F1 v d from fl_dv (show Dv F' v d from hP) fl)⟩

/-! ### x, y = a, b -/
def sPar (i j : Nat) (ms : MA) : MS' := fun ρ => do
  let (ds, ρ1) ← ms ρ
  match ds with
  | [d1, d2] => if free1 ρ1 i = true then (if free1 (ρ1.set i (.sh d1)) j = true then some (.nx, (ρ1.set i (.sh d1)).set j (.sh d2)) else none) else none
  | _ => none
theorem ms_par {i j : Nat} {z : Str} {px py pt pt2 : Pos} {kt k2} (hc : X.calm = true) (hN : X.N.Nodup) (hi : X.N[i]? = some x) (hj : X.N[j]? = some z) (hij : i ≠ j)
    (hx : X.env.scope.names.lookup x = some .local) (hy : X.env.scope.names.lookup z = some .local) (ha : MAs X [a, b] ms)
    (hw : swappedStores [.Tuple [.Name x px, .Name z py] kt pt] (.Tuple [a, b] k2 pt2) X.env = pure (some [x, z]) := by rfl)
    (hs : swapsWithSole [.Tuple [.Name x px, .Name z py] kt pt] (.Tuple [a, b] k2 pt2) pos.line X.env = pure false := by rfl) :
    MSt X (.Assign [.Tuple [.Name x px, .Name z py] kt pt] (.Tuple [a, b] k2 pt2) pos) (sPar i j ms) := ⟨(ps_par hc hN hi hj hij hx hy ha.ok hw hs).imq fun D σ H q => by
  obtain ⟨F, G, b, ρ, hr, o, ρ', e, k⟩ := q
  obtain ⟨⟨ds, ρ1⟩, e1, e⟩ := bind_some e
  refine ⟨F, G, b, ρ, hr, ds, ρ1, e1, fun F1 H1 vs s1 c1 h1 dvs => ?_⟩
  match ds, vs, dvs, e with
  | [d1, d2], [v1, v2], .cons dv1 (.cons dv2 .nil), e =>
    obtain ⟨f1, e⟩ := ite_some' (show (if free1 ρ1 i = true then (if free1 (ρ1.set i (.sh d1)) j = true then some (Out.nx, (ρ1.set i (.sh d1)).set j (.sh d2)) else none) else none) = some (o, ρ') from e)
    obtain ⟨f2, e⟩ := ite_some e
    cases e
    exact ⟨v1, v2, rfl, k F1 H1 _ s1 c1 ((h1.setSh (free1_lt f1) dv1).setSh (free1_lt f2) dv2)⟩⟩

/-! ### ranges with a step of one down or up -/
def stepD (lo c : Int) (n : Nat) : List D := (List.range n).map fun i => .int (lo + (i : Nat) * c)
def range3 : List D → Option (List D)
  | [.int i, .int j, .int c] => if (i62 i && i62 j) = true then (if c = -1 then some (stepD i (-1) (i - j).toNat) else if (0 < c ∧ c < 1000000 ∧ Builtin.Range.small i j c = true ∧ Builtin.Range.rangeSize i j c = ((Builtin.Range.rangeSize i j c).toNat : Int)) then some (stepD i c (Builtin.Range.rangeSize i j c).toNat) else none) else none
  | _ => none
def mRange3 (ms : MA) : MI := fun ρ => do
  let (ds, ρ1) ← ms ρ
  let es ← range3 ds
  some (es, ρ1)
theorem stepD_get (lo c : Int) (n i : Nat) (h : i < n) : (stepD lo c n)[i]? = some (.int (lo + (i : Nat) * c)) := by
  unfold stepD
  rw [List.getElem?_map, List.getElem?_range h]
  rfl
theorem wk_step {F : Hp} {lo c : Int} {n : Nat} : Wk (Itc lo c n) F (stepD lo c n) := by
  have el : (stepD lo c n).length = n := by unfold stepD; rw [List.length_map, List.length_range]
  refine ⟨fun i H hi s => by rw [el] at hi; exact hi, fun H s => by rw [el]; exact Nat.le_refl _, fun i F1 H x H' hi s1 s2 y => ?_⟩
  obtain ⟨rfl, rfl⟩ := y
  rw [el] at hi
  exact ⟨F1, _, stepD_get lo c n i hi, post_sh s2 (.int _)⟩
theorem mi_range3 (hg : Gl X "range") (hm : X.mg "range" = none) (ha : MAs X [a, b, c] ms)
    (hs : starEach [a, b, c] X.env = (false, eval a X.env) :: starEach [b, c] X.env := by rfl) (hs2 : (backTo pos (starEach [b, c] X.env)).any (·.1) = false := by rfl) : MIt X tg (.Call (.Name "range" p) [a, b, c] [] pos) (mRange3 ms) := ⟨(pi_range3 hg hm ha.ok hs hs2).imq fun σ H R q => by
  obtain ⟨F, G, b', ρ, hr, ds, ρ', e, k⟩ := q
  obtain ⟨⟨ds1, ρ1⟩, e1, e⟩ := bind_some e
  obtain ⟨es, e2, e⟩ := bind_some e
  cases e
  refine ⟨F, G, b', ρ, hr, ds1, _, e1, fun F1 H1 vs s1 c1 h1 dvs => ?_⟩
  match ds1, dvs, e2 with
  | [.int i, .int j, .int z], .cons (.int _) (.cons (.int _) (.cons (.int _) .nil)), e =>
    obtain ⟨hj, e⟩ := ite_some' (show (if (i62 i && i62 j) = true then (if z = -1 then some (stepD i (-1) (i - j).toNat) else if (0 < z ∧ z < 1000000 ∧ Builtin.Range.small i j z = true ∧ Builtin.Range.rangeSize i j z = ((Builtin.Range.rangeSize i j z).toNat : Int)) then some (stepD i z (Builtin.Range.rangeSize i j z).toNat) else none) else none) = some ds from e)
    have hj := Bool.and_eq_true_iff.mp hj
    have b1 := i62_ok hj.1
    have b2 := i62_ok hj.2
    by_cases hz : z = -1
    · subst hz
      rw [if_pos rfl] at e
      cases e
      exact ⟨i, j, -1, _, rfl, RgC.neg b1.1 b1.2 b2.1 b2.2, k F1 H1 _ s1 c1 h1 wk_step⟩
    · rw [if_neg hz] at e
      obtain ⟨⟨z0, z1, z2, z3⟩, e⟩ := ite_some e
      cases e
      exact ⟨i, j, z, _, rfl, ⟨by omega, by omega, z2, z3⟩, k F1 H1 _ s1 c1 h1 wk_step⟩⟩

/-! ### text * number -/
def timesS (a : Str) (n : Int) : Str := if n < 1 then Str.empty else if (n == 1 || a.length == 0) = true then a else ⟨(List.replicate n.toNat a.cps).foldl (· ++ ·) #[]⟩
def mulSD : D → D → Option R
  | .str a, .int n => if 0 ≤ n ∧ n ≤ 1000000 ∧ a.length * n.toNat ≤ lim then some (.sh (.str (timesS a n))) else none
  | _, _ => none
def rMulS : R2 := fun x y H Q => ∃ a n, x = .str a ∧ y = .int n ∧ 0 ≤ n ∧ n ≤ 1000000 ∧ a.length * n.toNat ≤ lim ∧ Q (.str (timesS a n)) H
theorem op_mulS : OpR X (binaryOp .Mult) rMulS := by
  intro pins s σ H x y v u Q I rx ry h
  obtain ⟨a, n, rfl, rfl, h0, h1, h2, q⟩ := h
  obtain ⟨t, rfl⟩ := rx
  obtain ⟨t', rfl⟩ := ry
  have htl : Builtin.Str.tooLong (a.length * n.toNat) = false := by
    unfold Builtin.Str.tooLong
    have := lim_le h2
    exact decide_eq_false (by omega)
  refine P.mul_str (by rw [decide_eq_false (by omega), decide_eq_false (by omega)]; rfl) (fun h1 h2' => ?_) (fun _ _ => htl) ?_
  · intro z
    have hp : 0 < n := by omega
    have e : n = (n.toNat : Int) := by omega
    have h3 : ((a.length : Int) * n) ≤ 1000000 := by
      have h2' : a.length * n.toNat ≤ 1000000 := h2
      have h3' := Int.ofNat_le.mpr h2'
      rw [Int.natCast_mul, ← e] at h3'
      exact h3'
    have h4 : ((2 : Int) ^ 63 - 1) / n < (a.length : Int) := z
    have h5 := Int.lt_mul_of_ediv_lt hp h4
    omega
  · have e : (if n < 1 then Made.str Str.empty else if (n == 1 || a.length == 0) = true then Made.val (.str a t) else Made.str ⟨(List.replicate n.toNat a.cps).foldl (· ++ ·) #[]⟩) = Made.str (timesS a n) ∨ ((timesS a n) = a ∧ (if n < 1 then Made.str Str.empty else if (n == 1 || a.length == 0) = true then Made.val (.str a t) else Made.str ⟨(List.replicate n.toNat a.cps).foldl (· ++ ·) #[]⟩) = Made.val (.str a t)) := by
      unfold timesS
      split
      · exact .inl rfl
      · split
        · exact .inr ⟨rfl, rfl⟩
        · exact .inl rfl
    rcases e with e | ⟨e1, e2⟩
    · rw [e]
      have hfit : (timesS a n).length ≤ sizeLine := by
        unfold timesS
        split
        · exact Nat.zero_le _
        · split
          · by_cases hn : n = 1
            · subst hn
              have : a.length * 1 ≤ lim := h2
              exact lim_le (by omega)
            · have h0' : a.length = 0 := by
                rename_i hh
                rcases Bool.or_eq_true_iff.mp hh with z | z
                · exact absurd (eq_of_beq z) hn
                · exact eq_of_beq z
              rw [h0']
              exact Nat.zero_le _
          · exact fits_reps htl
      exact ⟨hfit, ⟨.str (timesS a n), H, I.tok _, ⟨_, rfl⟩, q⟩⟩
    · rw [e2]
      rw [e1] at q
      exact ⟨.str a, H, I, ⟨_, rfl⟩, q⟩
theorem bin_mulS : BinOk X .Mult mulSD := ⟨_, op_mulS, fun F H v1 v2 d1 d2 k s b1 b2 e Q q => by
  match d1, d2, e, b1, b2 with
  | .str a, .int n, e, b1, b2 =>
    obtain ⟨⟨h0, h1, h2⟩, e⟩ := ite_some (show (if 0 ≤ n ∧ n ≤ 1000000 ∧ a.length * n.toNat ≤ lim then some (R.sh (.str (timesS a n))) else none) = some k from e)
    subst e
    exact ⟨a, n, b1.str, b2.int, h0, h1, h2, q F H _ (post_sh s (.str _))⟩⟩

/-! ### startswith from a place, the place of a text in a text -/
def mStarts3 (mo ma mb : MR) : MR := fun ρ => do
  let (r0, ρ0) ← mo ρ
  let (r1, ρ1) ← ma ρ0
  let (r2, ρ2) ← mb ρ1
  match r0, r1, r2 with
  | .sh (.str a), .sh (.str b), .sh (.int i) => some (.sh (.bool (Txt.startswith3 a b i)), ρ2)
  | _, _, _ => none
theorem me_starts3 {apos cpos : Pos} (ho : ME X a ma) (he : ME X b mb) (hf : ME X c mc) (hbase : attributeBase a "startswith" X.env (eval a X.env) = eval a X.env := by rfl)
    (hfew : ((backTo cpos (starEach (b :: [c]) X.env)).all (fun x => !x.1) && (backToKw cpos (keywordEach [] X.env)).all (fun x => x.1.isSome)
      && decide ((b :: ([c] : List Expr)).length + ([] : List Keyword).length + (if ([] : List Keyword).isEmpty then 0 else 1) < 30)) = true := by rfl)
    (hline : (apos.endLine == cpos.line) = true := by rfl) (hs : starEach (b :: [c]) X.env = (false, eval b X.env) :: starEach [c] X.env := by rfl) (hs2 : starEach [c] X.env = (false, eval c X.env) :: starEach [] X.env := by rfl) (hplain : (backTo cpos (starEach [c] X.env)).any (·.1) = false := by rfl) :
    ME X (.Call (.Attribute a "startswith" apos) [b, c] [] cpos) (mStarts3 ma mb mc) :=
  ⟨(pe_bm PySem.F.plainAttrs_str PySem.F.slot_str_startswith PySem.F.type_str_startswith mt_startswith3 ho.ok (pa_cons he.ok (pa_cons hf.ok pa_nil hs2) hs) hbase hfew hline hs hplain).imq fun σ H Q q => by
    obtain ⟨F, G, b', ρ, hr, r, ρ', e, k⟩ := q
    obtain ⟨⟨r0, ρ0⟩, e0, e⟩ := bind_some e
    obtain ⟨⟨r1, ρ1⟩, e1, e⟩ := bind_some e
    obtain ⟨⟨r2, ρ2⟩, e2, e⟩ := bind_some e
    match r0, r1, r2, e0, e1, e2, e with
    | .sh (.str a), .sh (.str b), .sh (.int i), e0, e1, e2, e =>
      cases e
      refine ⟨F, G, b', ρ, hr, _, ρ0, e0, fun F0 H0 v0 s0 c0 h0 k0 => ?_⟩
      cases (show Dv F0 v0 (.str a) from k0)
      refine ⟨rfl, F0, G, b', ρ0, h0, _, ρ1, e1, fun F1 H1 v1 s1 c1 h1 k1 => ?_⟩
      cases (show Dv F1 v1 (.str b) from k1)
      refine ⟨F1, G, b', ρ1, h1, _, _, e2, fun F2 H2 v2 s2 c2 h2 k2 => ?_⟩
      cases (show Dv F2 v2 (.int i) from k2)
      exact ⟨a, b, i, rfl, rfl, k F2 H2 _ (s0.trans (s1.trans s2)) (c0.trans (c1.trans c2)) h2 (.bl _)⟩⟩
def sindexD : D → D → Option R
  | .str a, .str b => match Builtin.Str.occurrences a b 0 a.length 1 with
    | i :: _ => some (.sh (.int (i : Nat)))
    | [] => none
  | _, _ => none
theorem me_sindex {apos : Pos} (ho : ME X a ma) (he : ME X b mb) (hs : starEach [b] X.env = [(false, eval b X.env)] := by rfl) (hbase : attributeBase a "index" X.env (eval a X.env) = eval a X.env := by rfl) (hline : (apos.endLine == pos.line) = true := by rfl) :
    ME X (.Call (.Attribute a "index" apos) [b] [] pos) (mM1 sindexD ma mb) := ⟨(pe_m1 PySem.F.slot_str_index PySem.F.type_str_index mt_sindex ho.ok he.ok hs hbase hline).imq (tM_m1 fun F H v1 v2 d1 d2 k s b1 b2 e Q q => by
  match d1, d2, e, b1, b2 with
  | .str a, .str b, e, b1, b2 =>
    cases z : Builtin.Str.occurrences a b 0 a.length 1 with
    | nil =>
      have e' : (match Builtin.Str.occurrences a b 0 a.length 1 with
        | i :: _ => some (R.sh (.int (i : Nat)))
        | [] => none) = some k := e
      rw [z] at e'
      cases e'
    | cons i r =>
      have e' : (match Builtin.Str.occurrences a b 0 a.length 1 with
        | i :: _ => some (R.sh (.int (i : Nat)))
        | [] => none) = some k := e
      rw [z] at e'
      cases e'
      exact ⟨a, b, i, r, b1.str, by rw [b2.str], z, q F H _ (post_sh s (.int _))⟩)⟩

/-! ### a dict of the module, texts for texts -/
def assocS : List (Str × Str) → Str → Option Str
  | [], _ => none
  | p :: r, z => if z = p.1 then some p.2 else assocS r z
theorem assoc_all {P : Str → Str → Prop} : ∀ {L : List (Str × Str)} {z x : Str}, (∀ p ∈ L, P p.1 p.2) → assocS L z = some x → P z x
  | [], _, _, _, e => by cases e
  | p :: r, z, x, h, e => by
    unfold assocS at e
    by_cases hz : z = p.1
    · rw [if_pos hz] at e
      cases e
      rw [hz]
      exact h p List.mem_cons_self
    · rw [if_neg hz] at e
      exact assoc_all (fun q hq => h q (List.mem_cons_of_mem _ hq)) e
def kdD (L : List (Str × Str)) : D → Option R
  | .str z => (assocS L z).map fun x => .sh (.str x)
  | _ => none
def KdAt (K : Fr0) (w : World) (mg : Str → Option Value) (x : Str) (L : List (Str × Str)) : Prop := ∃ d, mg x = some (.ref d) ∧ ∀ p ∈ L, KDct K w d p.1 (.str p.2)
theorem me_kd {L : List (Str × Str)} (hd : KdAt KK.K X.w X.mg x L) (hg : Gl X x) (hb : ME X b mb) (hs : PlainIx b) (hK : X.K = KK.K := by rfl) (hdb : (x == ("__debug__" : Str)) = false := by decide) : ME X (.Subscript (.Name x p) b pos) (mUn (kdD L) mb) := by
  obtain ⟨d, hm, hk⟩ := hd
  rw [← hK] at hk
  refine ⟨(pe_ix ix_kdict (pe_glob (v := .ref d) hg hm rfl hdb) hb.ok hs).imq fun σ H Q q => ?_⟩
  obtain ⟨F, G, b, ρ, hr, r', ρ', e, k⟩ := q
  obtain ⟨⟨r1, ρ1⟩, e1, e⟩ := bind_some e
  obtain ⟨d1, e3, e⟩ := bind_some e
  obtain ⟨z, e5, e⟩ := bind_some e
  cases e
  refine (show tM mb σ H (fun y H2 => rIxD X.K X.w (.ref d) y H2 Q) from ⟨F, G, b, ρ, hr, r1, _, e1, fun F1 H1 v1 s1 c1 h1 k1 => ?_⟩)
  have bd := k1.bd h1 e3
  match d1, bd, e5 with
  | .str y, bd, e5 =>
    obtain ⟨x, e6, e7⟩ := map_some (show (assocS L y).map (fun x => R.sh (.str x)) = some r' from e5)
    subst e7
    exact ⟨d, y, .str x, rfl, bd.str, assoc_all (P := fun z x => KDct X.K X.w d z (.str x)) hk e6, k F1 H1 _ s1 c1 h1 (.str x)⟩

/-! ### chains of two comparisons -/
def mChain (f g : D → D → Option Bool) (ma mb mc : MR) : MB := fun ρ => do
  let (r1, ρ1) ← ma ρ
  let (r2, ρ2) ← mb ρ1
  match r1, r2 with
  | .sh (.int i), .sh (.int j) => do
    let k ← f (.int i) (.int j)
    if k = true then (do
      let (r3, ρ3) ← mc ρ2
      let d3 ← deref ρ3 r3
      let k2 ← g (.int j) d3
      some (k2, ρ3))
    else some (false, ρ2)
  | _, _ => none
theorem chain_read {r r' : R2} {f g : D → D → Option Bool} (o : Op2B r f) (o' : Op2B r' g) {σ : L2.St} {H : Hp} {Q : VK} (q : tMB (mChain f g ma mb mc) σ H fun k H' => Q (.bl k) H') : tChain r r' (tM ma) (tM mb) (tM mc) σ H Q := by
  obtain ⟨F, G, b, ρ, hr, z, ρ', e, k⟩ := q
  obtain ⟨⟨r1, ρ1⟩, e1, e⟩ := bind_some e
  obtain ⟨⟨r2, ρ2⟩, e2, e⟩ := bind_some e
  match r1, r2, e1, e2, e with
  | .sh (.int i), .sh (.int j), e1, e2, e =>
    obtain ⟨kk, e3, e⟩ := bind_some e
    refine ⟨F, G, b, ρ, hr, _, ρ1, e1, fun F1 H1 v1 s1 c1 h1 k1 => ?_⟩
    refine ⟨F1, G, b, ρ1, h1, _, ρ2, e2, fun F2 H2 v2 s2 c2 h2 k2 => ?_⟩
    have k1' : Dv F2 v1 (.int i) := Dv.mono s2 k1
    refine o F2 H2 v1 v2 _ _ _ h2.fh (.inl k1') (.inl k2) e3 _ ⟨_, rfl, ?_⟩
    cases kk with
    | false =>
      cases e
      exact k F2 H2 (s1.trans s2) (c1.trans c2) h2
    | true =>
      obtain ⟨⟨r3, ρ3⟩, e4, e⟩ := bind_some e
      obtain ⟨d3, e5, e⟩ := bind_some e
      obtain ⟨k2', e6, e⟩ := bind_some e
      cases e
      refine ⟨F2, G, b, ρ2, h2, r3, _, e4, fun F3 H3 v3 s3 c3 h3 k3 => ?_⟩
      exact o' F3 H3 v2 v3 _ _ _ h3.fh (.inl (Dv.mono s3 k2)) (k3.bd h3 e5) e6 _ (k F3 H3 (s1.trans (s2.trans s3)) (c1.trans (c2.trans c3)) h3)
theorem me_chain {op op' : CmpOp} {f g : D → D → Option Bool} (o : CmpOk X op f) (o' : CmpOk X op' g) (ha : ME X a ma) (hb : ME X b mb) (hc : ME X c mc)
    (hm : lastMarks [op, op'] [b, c] = false := by with_unfolding_all rfl) : ME X (.Compare a [op, op'] [b, c] pos) (mBV (mChain f g ma mb mc)) := by
  obtain ⟨r, h1, h2⟩ := o.ex
  obtain ⟨r', h1', h2'⟩ := o'.ex
  refine ⟨(pe_chain h1 h1' ha.ok hb.ok hc.ok hm).imq fun σ H Q q => chain_read h2 h2' ?_⟩
  obtain ⟨F, G, b, ρ, hr, z, ρ', e, k⟩ := q
  obtain ⟨⟨kk, ρ1⟩, e1, e⟩ := bind_some e
  cases e
  exact ⟨F, G, b, ρ, hr, kk, _, e1, fun F1 H1 s1 c1 h1 => k F1 H1 _ s1 c1 h1 (.bl kk)⟩
theorem mt_chain {op op' : CmpOp} {f g : D → D → Option Bool} (o : CmpOk X op f) (o' : CmpOk X op' g) (ha : ME X a ma) (hb : ME X b mb) (hc : ME X c mc)
    (hm : lastMarks [op, op'] [b, c] = false := by with_unfolding_all rfl) : MT X (.Compare a [op, op'] [b, c] pos) (mChain f g ma mb mc) := by
  obtain ⟨r, h1, h2⟩ := o.ex
  obtain ⟨r', h1', h2'⟩ := o'.ex
  exact ⟨(pt_chain h1 h1' ha.ok hb.ok hc.ok hm).imq fun σ H Q q => chain_read h2 h2' (by
    obtain ⟨F, G, b, ρ, hr, z, ρ', e, k⟩ := q
    exact ⟨F, G, b, ρ, hr, z, _, e, fun F1 H1 s1 c1 h1 => ⟨_, rfl, k F1 H1 s1 c1 h1⟩⟩)⟩

/-! ### xs[::-1] -/
def revSl : D → Option R
  | .list ds => some (.fr ds.reverse)
  | _ => none
theorem me_revL {e : Expr} {k0 : Nat} {p1 p2 p3 : Pos} (he : ME X e m) (hK : X.K = KK.K := by rfl) : ME X (.Subscript e (.Slice none none (some (.UnaryOp .USub (.Constant (.int 1) k0 p1) p2)) p3) pos) (mUn revSl m) := ⟨(pe_revL he.ok).imq fun σ H Q q => by
  obtain ⟨F, G, b, ρ, hr, r', ρ', e, k⟩ := q
  obtain ⟨⟨r1, ρ1⟩, e1, e⟩ := bind_some e
  obtain ⟨d1, e3, e⟩ := bind_some e
  obtain ⟨z, e5, e⟩ := bind_some e
  cases e
  refine ⟨F, G, b, ρ, hr, r1, _, e1, fun F1 H1 v1 s1 c1 h1 k1 => ?_⟩
  have bd := k1.bd h1 e3
  match d1, bd, e5 with
  | .list ds, bd, e5 =>
    cases e5
    obtain ⟨p0, vs, rfl, a0, x0⟩ := bd.list h1.fh
    refine ⟨p0, vs, rfl, .of a0, fun q hq => ?_⟩
    have P : Post F1 H1 (.fr ds.reverse) F1 (upd H1 q (.lst vs.reverse)) (.ref q) := post_fr h1.fh hq x0.rev
    exact k F1 _ _ (s1.trans P.ff) (c1.trans (P.cln h1.gh)) (P.rp h1) (P.rs h1)⟩
end
end Mi
set_option Elab.async false
set_option linter.all false
set_option maxRecDepth 100000
/-! Core10: list(reversed(xs)), xs[i] += e. -/
namespace Mi
open PySem PySem.Spec PyProof.Rows L2
section
variable {prog : Program} {w : World} {A : Around} {E : Value → Shared → Prop} {s : Shared}
/-- the list that list(it) has begun, filled from a reversed list -/
theorem fill_rev {R : Result → Shared → Prop} {S it l : Addr} {items : Array Value} (hh : A.handled = none) (ri : s.heap.IsRevIter it l ((items.size : Int) - 1)) (li : s.heap.IsList l items) (hne : l ≠ it) (hSi : S ≠ it) (hSl : S ≠ l) (hn : items.size ≤ sizeLine)
    (hS : s.heap.get? S = some { cls := .type "list", data := .seq #[] })
    (go : ∀ h' tk acc c', (∀ b o, b ≠ it → b ≠ S → s.heap.get? b = some o → h'.get? b = some o) → h'.get? S = some { cls := .type "list", dict := none, data := .seq acc c', slots := #[] } → ItemsOf (fun i v => items[items.size - 1 - i]? = some v) acc items.size → R (.ok (.ret .none)) { s with heap := h', toks := tk }) :
    wpAny (model prog w) A.in1 (Builtin.«list.__init__» ⟨[.ref S, .ref it], []⟩)
      (fun fin s' => match fin with | .done f => R (.ok f) s' | .again c' => c'.quiet = true ∧ codeAny (model prog w) A c' R s') (fun e s' => R (.error e) s') s := by
  have W := (Walks.listRev (prog := prog) (w := w) (A := A.in1) hh it l hne items).toS
  have hSf : S ∉ [it, l] := by
    rw [List.mem_cons, List.mem_singleton]
    exact not_or.mpr ⟨hSi, hSl⟩
  have same : Builtin.List.listSameRef (.ref S) (.ref it) = false := by simp [Builtin.List.listSameRef, hSi]
  show wpAny _ A.in1 (Builtin.List.listItems (.ref S) >>= fun old => Builtin.List.listUpdate (.ref S) (fun _ => #[]) >>= fun _ => letGo old.toList.reverse >>= fun _ => Builtin.List.listExtendWith (.ref S) (.ref it) .none) _ _ s
  refine wpAny_bind ?_
  unfold Builtin.List.listItems
  refine wpAny_bind (wpAny_seqItems hS rfl (wpAny_pure (wpAny_bind ?_)))
  show wpAny _ A.in1 (updateSeq S (fun _ => #[])) _ _ s
  refine wpAny_updateSeq hS rfl (wpAny_bind (wpAny_letGo ?_))
  have away : ∀ b o, b ≠ S → s.heap.get? b = some o → (s.heap.update S (Obj.mapSeq fun _ => (#[] : Array Value))).get? b = some o :=
    fun b o hb e => (Heap.get?_update_other _ _ (Ne.symm hb)).trans e
  have hS2 := Heap.get?_update_self (Obj.mapSeq (fun _ => (#[] : Array Value))) hS rfl
  have ri2 : (s.heap.update S (Obj.mapSeq fun _ => (#[] : Array Value))).IsRevIter it l ((items.size : Int) - 1) := ri.at fun o e => away _ o (Ne.symm hSi) e
  have li2 : (s.heap.update S (Obj.mapSeq fun _ => (#[] : Array Value))).IsList l items := li.at fun o e => away _ o (Ne.symm hSl) e
  generalize s.heap.update S (Obj.mapSeq fun _ => (#[] : Array Value)) = h2 at away hS2 ri2 li2 ⊢
  have ty : ({ s with heap := h2 } : Shared).TypeIs (.ref it) "list_reverseiterator" := Heap.IsRevIter.typeIs (s := { s with heap := h2 }) ri2
  unfold Builtin.List.listExtendWith
  refine wpAny_bind (wpAny_typeOf ty ?_)
  rw [if_neg (by rw [same]; decide)]
  refine wpAny_bind (wpAny_pyIter_revIter (s := { s with heap := h2 }) ri2 (wpAny_bind (wpAny_holding ?_)))
  unfold Builtin.List.listLengthHint
  refine wpAny_bind (wpAny_specialOf ty RT.nolen_lri ?_)
  show wpAny _ A.in1 (specialOf (Value.ref it) (Str.ofString "__length_hint__") >>= _) _ _ _
  refine wpAny_bind (wpAny_specialOf ty RT.hint_lri ?_)
  generalize hid : ("list_reverseiterator.__length_hint__" : String) = nm
  wp_delta
  rw [show splitId nm = some ("list_reverseiterator", "__length_hint__") from by subst hid; decide +kernel]
  subst hid
  refine wpAny_bind (wpAny_isInstance (b := true) ty (by rw [isSubtype_type]; kernel_rfl) (wpAny_pure ?_))
  rw [if_neg (by decide)]
  have e0 : ((items.size : Nat) : Int) - 1 - ((0 : Nat) : Int) = (items.size : Int) - 1 := by omega
  refine wpAny_pure ⟨plainId_quiet PySem.F.plain_extend_loop _, codeAny_extend_loopS W hn S hSf _ items.size 0 _ _ _ rfl (Nat.zero_le _) ⟨Nat.zero_le _, by rw [e0]; exact ri2, li2⟩ hS2 (ItemsOf.nil _) fun s' acc c' mv hS' ok => ?_⟩
  rw [Moved.eq_with mv]
  refine go s'.heap s'.toks acc c' (fun b o h1 h2 e => mv.heap b o (fun m => ?_) (away b o h2 e)) hS' ok
  rcases List.mem_cons.mp m with z | z
  · exact h2 z
  · exact h1 (List.mem_singleton.mp z)
theorem call_listRev {it l : Addr} {items : Array Value} {Q : Value → Shared → Prop} (hh : A.handled = none) (ri : s.heap.IsRevIter it l ((items.size : Int) - 1)) (li : s.heap.IsList l items) (hne : l ≠ it) (hn : items.size ≤ sizeLine)
    (hQ : ∀ h' tk acc c', (∀ b o, b ≠ it → s.heap.get? b = some o → h'.get? b = some o) → h'.get? s.heap.objs.size = some { cls := .type "list", dict := none, data := .seq acc c', slots := #[] } → ItemsOf (fun i v => items[items.size - 1 - i]? = some v) acc items.size → Q (.ref s.heap.objs.size) { s with heap := h', toks := tk }) :
    wpAny (model prog w) A (call (.type "list") [.ref it]) Q E s := by
  obtain ⟨oi, hoi, _⟩ := id ri
  obtain ⟨ol, hol, _⟩ := id li
  have n1 : s.heap.objs.size ≠ it := Nat.ne_of_gt (Heap.lt_size hoi)
  have n2 : s.heap.objs.size ≠ l := Nat.ne_of_gt (Heap.lt_size hol)
  refine callType_codes (Q₁ := fun obj s₁ => obj = .ref s.heap.objs.size ∧ s₁ = { s with heap := s.heap.push { cls := .type "list", data := .seq #[] } }) PySem.F.called_list (PySem.F.typeCall_list_1 _) PySem.F.entry_list_init (code_list_new _ ⟨rfl, rfl⟩) fun obj s₁ h₁ => ?_
  obtain ⟨rfl, rfl⟩ := h₁
  have hS : (s.heap.push { cls := .type "list", data := .seq #[] }).get? s.heap.objs.size = some { cls := .type "list", data := .seq #[] } := Heap.get?_push_size _ rfl
  refine ⟨⟨_, hS, rfl⟩, PySem.F.args_list_init_2 _ _, fill_rev (A := A.in1) (s := { s with heap := s.heap.push { cls := .type "list", data := .seq #[] } }) hh (ri.at fun o e => Heap.get?_push_of_some _ e) (li.push _) hne n1 n2 hn hS fun h' tk acc c' k hS' ok => ?_⟩
  exact ⟨rfl, hQ h' tk acc c' (fun b o hb e => k b o hb (Nat.ne_of_lt (Heap.lt_size e)) (Heap.get?_push_of_some _ e)) hS' ok⟩
end
section
variable [KK] {X : Cx} {e a b c tg : Expr} {pos p p2 pos2 : Pos} {m ma mb mc : MR} {x y : Str} {te : TE}
def tLstRev (K : Fr0) (te : TE) : TE := fun σ H Q => te σ H fun v H1 => ∃ (a : Addr) (xs : List V), v = .ref a ∧ SqL K H1 a xs ∧ ∀ q, H1 q = none → Q (.ref q) (upd H1 q (.lst xs.reverse))
theorem pe_lstRev (hc : X.calm = true) (hg : Gl X "list") (hm : X.mg "list" = none) (hg2 : Gl X "reversed") (hm2 : X.mg "reversed" = none) (he : PE X e te)
    (hs : starEach [e] X.env = (false, eval e X.env) :: starEach [] X.env)
    (hs2 : starEach [.Call (.Name "reversed" p2) [e] [] pos2] X.env = (false, eval (.Call (.Name "reversed" p2) [e] [] pos2) X.env) :: starEach [] X.env) :
    PE X (.Call (.Name "list" p) [.Call (.Name "reversed" p2) [e] [] pos2] [] pos) (tLstRev X.K te) := by
  refine ⟨fun pins s σ H Q I h => ?_⟩
  refine Call_ (ld_blt I hg hm boot_list (PyProof.Rows.callWith_type1 (args_cons (Call_ (ld_blt I hg2 hm2 PyProof.Rows.boot_reversed (PyProof.Rows.callWith_type1 (args_cons (thn (he.run pins s σ H _ I h) fun u s1 ⟨v, H1, I1, r1, q1⟩ => args_nil ?_) hs) hs rfl))) hs2) hs2 rfl))
  obtain ⟨a, xs, rfl, hq, q⟩ := q1
  obtain rfl : u = Value.ref a := r1
  obtain ⟨its, rv, pl, hz⟩ := I1.list hq
  refine call_reversed_list pl.isList (args_nil ?_)
  obtain ⟨f0, f1, f2, f3, f4, f5⟩ := I1.fpOk (H' := H1) (b := s1.heap.objs.size) (Nat.le_refl _) (I1.hok.fresh (Nat.le_refl _))
  have I2 : Inv X pins σ H1 { s1 with heap := s1.heap.push (revObj a ((its.toArray.size : Int) - 1)) } := I1.kept (t' := s1.toks) fun b o e => Heap.get?_push_of_some _ e
  have li := pl.isList
  obtain ⟨ol, hol, _⟩ := id li
  have hne : a ≠ s1.heap.objs.size := Nat.ne_of_lt (Heap.lt_size hol)
  have hn : its.toArray.size ≤ sizeLine := by rw [List.size_toArray, ← rv.length]; exact hz
  refine call_listRev (s := { s1 with heap := s1.heap.push (revObj a ((its.toArray.size : Int) - 1)) }) (I1.ok.hd hc) ⟨_, Heap.get?_push_size _ rfl, rfl, rfl⟩ (li.push _) hne hn fun h' tk acc c' hk hS hi => ?_
  have fr : H1 (s1.heap.push (revObj a ((its.toArray.size : Int) - 1))).objs.size = none := I2.hok.fresh (Nat.le_refl _)
  refine ⟨.ref (s1.heap.push (revObj a ((its.toArray.size : Int) - 1))).objs.size, upd H1 (s1.heap.push (revObj a ((its.toArray.size : Int) - 1))).objs.size (.lst xs.reverse), ?_, rfl, q _ fr⟩
  refine I2.turnedNew (t' := tk) (ch := [s1.heap.objs.size]) (fun b o hb e => hk b o (fun z => hb (by rw [z]; exact List.mem_singleton_self _)) e) (fun b hb => ?_) (Nat.le_refl _) ?_
  · rw [List.mem_singleton.mp hb]
    exact ⟨f0, f1, f2, f3, f4, f5⟩
  · exact (show ObjOk X.prog X.w _ _ _ (.lst xs.reverse) from ⟨by rw [List.length_reverse]; exact hz, acc.toList, c', RT.vals_rev rv hi, by rw [Array.toArray_toList]; exact hS⟩)
def revLD : D → Option R
  | .list ds => some (.fr ds.reverse)
  | _ => none
theorem me_listRev (hc : X.calm = true) (hg : Gl X "list") (hm : X.mg "list" = none) (hg2 : Gl X "reversed") (hm2 : X.mg "reversed" = none) (he : ME X e m)
    (hs : starEach [e] X.env = (false, eval e X.env) :: starEach [] X.env := by rfl)
    (hs2 : starEach [.Call (.Name "reversed" p2) [e] [] pos2] X.env = (false, eval (.Call (.Name "reversed" p2) [e] [] pos2) X.env) :: starEach [] X.env := by rfl) :
    ME X (.Call (.Name "list" p) [.Call (.Name "reversed" p2) [e] [] pos2] [] pos) (mUn revLD m) := ⟨(pe_lstRev hc hg hm hg2 hm2 he.ok hs hs2).imq fun σ H Q q => by
  obtain ⟨F, G, b, ρ, hr, r', ρ', e, k⟩ := q
  obtain ⟨⟨r1, ρ1⟩, e1, e⟩ := bind_some e
  obtain ⟨d1, e3, e⟩ := bind_some e
  obtain ⟨z, e5, e⟩ := bind_some e
  cases e
  refine ⟨F, G, b, ρ, hr, r1, _, e1, fun F1 H1 v1 s1 c1 h1 k1 => ?_⟩
  have bd := k1.bd h1 e3
  match d1, bd, e5 with
  | .list ds, bd, e5 =>
    cases e5
    obtain ⟨p0, vs, rfl, a0, x0⟩ := bd.list h1.fh
    refine ⟨p0, vs, rfl, .of a0, fun q hq => ?_⟩
    have P : Post F1 H1 (.fr ds.reverse) F1 (upd H1 q (.lst vs.reverse)) (.ref q) := post_fr h1.fh hq x0.rev
    exact k F1 _ _ (s1.trans P.ff) (c1.trans (P.cln h1.gh)) (P.rp h1) (P.rs h1)⟩

/-! ### xs[i] op= e -/
theorem get_list : PGet X (rIxL X.K) := by
  intro pins s σ H x y v u Q I rx ry h
  obtain ⟨p, xs, i, z, rfl, rfl, hq, he, q⟩ := h
  cases rx
  obtain ⟨t, rfl⟩ := ry
  obtain ⟨its, r, pl, hz⟩ := I.list hq
  obtain ⟨j, h1, h2, h3, h4, h5⟩ := atI_get he
  obtain ⟨w, ew, rw'⟩ := r.get h2
  have hl := r.length
  have hn := line63
  have fin : EP X pins σ Q w s := ⟨z, H, I, rw', q⟩
  by_cases h0 : 0 ≤ i
  · have hj : i.toNat = j := by
      rw [seqIndex_of h0 h5] at h1
      exact Option.some.inj h1
    exact wpAny_getItem_list pl.isList h0 (by omega) (by rw [hj]; simpa using ew) fin
  · have hj : (i + (its.toArray.size : Int)).toNat = j := by
      rw [seqIndex_neg (by omega) h4] at h1
      rw [List.size_toArray, ← hl]
      exact Option.some.inj h1
    exact wpAny_getItem_list_neg pl.isList (by omega) (by rw [List.size_toArray] <;> omega) (by omega) (by rw [hj]; simpa using ew) fin
def sAugS (i : Nat) (f : D → D → Option R) (mi mv : MR) : MS' := fun ρ => do
  let _ ← contE ρ i
  let (r, ρ1) ← mi ρ
  match r with
  | .sh (.int z) => do
    let ds0 ← contE ρ1 i
    let d0 ← atI ds0 z
    let (rv, ρ2) ← mv ρ1
    let dv ← deref ρ2 rv
    let k ← f d0 dv
    match k with
    | .sh d => do
      let ds ← contE ρ2 i
      let j ← ixN ds.length z
      some (.nx, putE ρ2 i (ds.set j d))
    | _ => none
  | _ => none
theorem ms_augS {i : Nat} {ei : Expr} {mi mv : MR} {op : Operator} {f : D → D → Option R} {py tpos : Pos} (o : AugOk X op f) (hy : PE X (.Name y py) (tVar i)) (hi : ME X ei mi) (he : ME X e mv)
    (ha : ∀ ov iv new, augStore ei ov iv new = (do holding [new, ov, iv] (setItem ov iv new); release [new, ov, iv] []; pure .next) := by intros; rfl) (hK : X.K = KK.K := by rfl) :
    MSt X (.AugAssign (.Subscript (.Name y py) ei tpos) op e pos) (sAugS i f mi mv) := by
  obtain ⟨r0, hp, hf⟩ := o.ex
  refine ⟨(ps_augS hy hi.ok get_list he.ok hp set_list ha).imq fun D σ H q => ?_⟩
  obtain ⟨F, G, b, ρ, hr, o, ρ', e, k⟩ := q
  obtain ⟨w0, e0, e⟩ := bind_some e
  obtain ⟨⟨r, ρ1⟩, e1, e⟩ := bind_some e
  obtain ⟨_, p0, vs0, es0, a0, _⟩ := cont_ok hr e0
  refine ⟨.ref p0, es0, F, G, b, ρ, hr, r, ρ1, e1, fun F1 H1 v1 s1 c1 h1 k1 => ?_⟩
  match r, k1, e with
  | .sh (.int z), k1, e =>
    cases (show Dv F1 v1 (.int z) from k1)
    obtain ⟨ds0, e2, e⟩ := bind_some e
    obtain ⟨d0, e3, e⟩ := bind_some e
    obtain ⟨⟨rv, ρ2⟩, e4, e⟩ := bind_some e
    obtain ⟨dv, e5, e⟩ := bind_some e
    obtain ⟨k0, e6, e⟩ := bind_some e
    obtain ⟨_, p1, vs1, es1, a1, x1, f1, g1⟩ := cont_ok h1 e2
    rw [es0] at es1
    cases es1
    obtain ⟨v0, ev0, dv0⟩ := at_dvs x1 e3
    refine ⟨p0, vs1, z, v0, rfl, rfl, .of a1, ev0, F1, G, b, ρ1, h1, rv, ρ2, e4, fun F2 H2 v2 s2 c2 h2 k2 => ?_⟩
    refine hf F2 H2 v0 v2 d0 dv k0 h2.fh (.inl (dv0.mono s2)) (k2.bd h2 e5) e6 _ fun F3 H3 v3 P => ?_
    match k0, e, P with
    | .sh d, e, P =>
      obtain ⟨ds, e7, e⟩ := bind_some e
      obtain ⟨j, e8, e⟩ := bind_some e
      cases e
      have h3 := P.rp h2
      obtain ⟨o4, p4, vs4, es4, a4, x4, f4, g4⟩ := cont_ok h3 e7
      rw [es0] at es4
      cases es4
      refine ⟨p0, vs4, z, j, rfl, rfl, a4, by rw [x4.len]; exact e8, ?_⟩
      exact k F3 _ σ (s1.trans (s2.trans P.ff)) (c1.trans (c2.trans (P.cln h2.gh))) (h3.put1 o4 es0 (x4.set j (show Dv F3 v3 d from P.res)))
end
end Mi
set_option Elab.async false
set_option linter.all false
set_option maxRecDepth 100000
/-! Ev9: equations for Core9, Core10. -/
namespace Mi
open PySem PySem.Spec PyProof.Rows L2
section
variable {ρ : En} {e : M} {ma mb mc m : MR} {ms : ML} {mas : MA} {i j : Nat} {d : D}
@[simp] theorem lNil_c : lNil ρ = some ([], ρ) := (rfl)
@[simp] theorem lCons_c : lCons m ms (e :: ρ) = bnd (m (e :: ρ)) fun x => bnd (ms x.2) fun y => some (x.1 :: y.1, y.2) := (rfl)
@[simp] theorem derefs_nil : derefs ρ [] = some [] := (rfl)
@[simp] theorem derefs_cons (r : R) (rs : List R) : derefs ρ (r :: rs) = bnd (deref ρ r) fun d => bnd (derefs ρ rs) fun ds => some (d :: ds) := (rfl)
@[simp] theorem flatR_b (b : Bool) : flatR (.sh (.bool b)) = some (.sh (.bool b)) := (rfl)
@[simp] theorem flatR_i (b : Int) : flatR (.sh (.int b)) = some (.sh (.int b)) := (rfl)
@[simp] theorem flatR_s (b : Str) : flatR (.sh (.str b)) = some (.sh (.str b)) := (rfl)
@[simp] theorem flatR_n : flatR (.sh .none) = some (.sh .none) := (rfl)
@[simp] theorem mCallL_c (φ : List D → Option R) : mCallL φ ms (e :: ρ) = bnd (ms (e :: ρ)) fun x => bnd (derefs x.2 x.1) fun ds => bnd (φ ds) fun r => bnd (flatR r) fun r => some (r, x.2) := (rfl)
def par2 (i j : Nat) : List D → En → Option En
  | [d1, d2], ρ => bnd (asg ρ i (.sh d1)) fun ρ1 => asg ρ1 j (.sh d2)
  | _, _ => none
@[simp] theorem par2_c (d1 d2 : D) : par2 i j [d1, d2] ρ = bnd (asg ρ i (.sh d1)) fun ρ1 => asg ρ1 j (.sh d2) := (rfl)
@[simp] theorem sPar_c : sPar i j mas (e :: ρ) = bnd (mas (e :: ρ)) fun x => bnd (par2 i j x.1 x.2) fun ρ2 => some (.nx, ρ2) := by
  show (mas (e :: ρ)).bind _ = (mas (e :: ρ)).bind _
  congr 1
  funext x
  obtain ⟨ds, ρ1⟩ := x
  match ds with
  | [] => rfl
  | [d1] => rfl
  | [d1, d2] =>
    show (if free1 ρ1 i = true then _ else _) = bnd (bnd (if free1 ρ1 i = true then _ else _) _) _
    by_cases h : free1 ρ1 i = true
    · rw [if_pos h, if_pos h]
      show (if free1 _ j = true then _ else _) = bnd (if free1 _ j = true then _ else _) _
      by_cases h2 : free1 (ρ1.set i (.sh d1)) j = true
      · rw [if_pos h2, if_pos h2]; rfl
      · rw [if_neg h2, if_neg h2]; rfl
    · rw [if_neg h, if_neg h]; rfl
  | _ :: _ :: _ :: _ => rfl
@[simp] theorem range3_down (a b : Int) : range3 [.int a, .int b, .int (-1)] = if (i62 a && i62 b) = true then some (stepD a (-1) (a - b).toNat) else none := by
  show (if _ then _ else _) = _
  rw [if_pos rfl]
@[simp] theorem mRange3_c : mRange3 mas (e :: ρ) = bnd (mas (e :: ρ)) fun x => bnd (range3 x.1) fun ds => some (ds, x.2) := (rfl)
@[simp] theorem mStarts3_c : mStarts3 ma mb mc (e :: ρ) = bnd (ma (e :: ρ)) fun x => bnd (mb x.2) fun y => bnd (mc y.2) fun z => bnd (strR x.1) fun a => bnd (strR y.1) fun b => bnd (intR z.1) fun i => some (.sh (.bool (Txt.startswith3 a b i)), z.2) := by
  show (ma (e :: ρ)).bind _ = (ma (e :: ρ)).bind _
  congr 1
  funext x
  show (mb x.2).bind _ = (mb x.2).bind _
  congr 1
  funext y
  show (mc y.2).bind _ = (mc y.2).bind _
  congr 1
  funext z
  obtain ⟨r0, ρ0⟩ := x
  obtain ⟨r1, ρ1⟩ := y
  obtain ⟨r2, ρ2⟩ := z
  dsimp only
  cases r0 with
  | sh d0 => cases d0 <;> cases r1 <;> first
    | rfl
    | (rename_i d1; cases d1 <;> cases r2 <;> first
      | rfl
      | (rename_i d2; cases d2 <;> rfl))
  | fr _ => rfl
  | bw _ => rfl
def chainD (f g : D → D → Option Bool) (mc : MR) : R → R → En → Option (Bool × En)
  | .sh (.int i), .sh (.int j), ρ2 => bnd (f (.int i) (.int j)) fun k => if k = true then bnd (mc ρ2) fun z => bnd (deref z.2 z.1) fun d3 => bnd (g (.int j) d3) fun k2 => some (k2, z.2) else some (false, ρ2)
  | _, _, _ => none
@[simp] theorem chainD_i (f g : D → D → Option Bool) (a b : Int) : chainD f g mc (.sh (.int a)) (.sh (.int b)) ρ = bnd (f (.int a) (.int b)) fun k => if k = true then bnd (mc ρ) fun z => bnd (deref z.2 z.1) fun d3 => bnd (g (.int b) d3) fun k2 => some (k2, z.2) else some (false, ρ) := (rfl)
@[simp] theorem mChain_c (f g : D → D → Option Bool) : mChain f g ma mb mc (e :: ρ) = bnd (ma (e :: ρ)) fun x => bnd (mb x.2) fun y => chainD f g mc x.1 y.1 y.2 := by
  show (ma (e :: ρ)).bind _ = (ma (e :: ρ)).bind _
  congr 1
  funext x
  show (mb x.2).bind _ = (mb x.2).bind _
  congr 1
  funext y
  obtain ⟨r0, ρ0⟩ := x
  obtain ⟨r1, ρ1⟩ := y
  dsimp only
  cases r0 with
  | sh d0 => cases d0 <;> cases r1 <;> first
    | rfl
    | (rename_i d1; cases d1 <;> rfl)
  | fr _ => rfl
  | bw _ => rfl
@[simp] theorem sAugS_c (f : D → D → Option R) : sAugS i f ma mb (e :: ρ) = bnd (contE (e :: ρ) i) fun _ => bnd (ma (e :: ρ)) fun x => bnd (intR x.1) fun z => bnd (contE x.2 i) fun ds0 => bnd (atI ds0 z) fun d0 => bnd (mb x.2) fun y => bnd (deref y.2 y.1) fun dv => bnd (f d0 dv) fun k => bnd (dR k) fun d => bnd (contE y.2 i) fun ds => bnd (ixN ds.length z) fun j => some (.nx, putE y.2 i (ds.set j d)) := by
  show (contE (e :: ρ) i).bind _ = (contE (e :: ρ) i).bind _
  congr 1
  funext _
  show (ma (e :: ρ)).bind _ = (ma (e :: ρ)).bind _
  congr 1
  funext x
  obtain ⟨r0, ρ0⟩ := x
  cases r0 with
  | sh d0 =>
    cases d0 with
    | int z =>
      show (contE ρ0 i).bind _ = (contE ρ0 i).bind _
      congr 1
      funext ds0
      show (atI ds0 z).bind _ = (atI ds0 z).bind _
      congr 1
      funext d0
      show (mb ρ0).bind _ = (mb ρ0).bind _
      congr 1
      funext y
      show (deref y.2 y.1).bind _ = (deref y.2 y.1).bind _
      congr 1
      funext dv
      show (f d0 dv).bind _ = (f d0 dv).bind _
      congr 1
      funext k
      cases k <;> rfl
    | _ => rfl
  | fr _ => rfl
  | bw _ => rfl
end
@[simp] theorem kdD_s (L : List (Str × Str)) (z : Str) : kdD L (.str z) = (assocS L z).map fun x => .sh (.str x) := (rfl)
@[simp] theorem revSl_l (ds : List D) : revSl (.list ds) = some (.fr ds.reverse) := (rfl)
@[simp] theorem revLD_l (ds : List D) : revLD (.list ds) = some (.fr ds.reverse) := (rfl)
@[simp] theorem mulSD_s (a : Str) (n : Int) : mulSD (.str a) (.int n) = if 0 ≤ n ∧ n ≤ 1000000 ∧ a.length * n.toNat ≤ lim then some (.sh (.str (timesS a n))) else none := (rfl)
theorem for_step {g : MG} {n : MS'} {d : D} {ds : List D} {ρ ρ1 : En} (e : bnd (g d ρ) n = some (.nx, ρ1)) : forGo g n (d :: ds) ρ = forGo g n ds ρ1 := by
  rw [forGo_cons]
  cases q : g d ρ with
  | none => rw [q] at e; cases e
  | some ρ2 =>
    rw [q, bnd_some] at e
    rw [bnd_some, e, bnd_some, forO_nx]
theorem for_stop {g : MG} {n : MS'} {d : D} {ds : List D} {ρ ρ1 : En} {r : R} (e : bnd (g d ρ) n = some (.rt r, ρ1)) : forGo g n (d :: ds) ρ = some (.rt r, ρ1) := by
  rw [forGo_cons]
  cases q : g d ρ with
  | none => rw [q] at e; cases e
  | some ρ2 =>
    rw [q, bnd_some] at e
    rw [bnd_some, e, bnd_some, forO_rt]
theorem rangeL_eq (lo : Int) (n : Nat) : rangeL lo n = (List.range n).map fun i : Nat => lo + (i : Int) := by
  induction n generalizing lo with
  | zero => rfl
  | succ n ih =>
    unfold rangeL
    rw [ih, List.range_succ_eq_map, List.map_cons, List.map_map]
    congr 1
    · omega
    · congr 1
      funext i
      show lo + 1 + (i : Int) = lo + ((i + 1 : Nat) : Int)
      omega
theorem rangeD_eq (lo hi : Int) : rangeD lo hi = (List.range (hi - lo).toNat).map fun i : Nat => .int (lo + (i : Int)) := by
  unfold rangeD
  rw [rangeL_eq, List.map_map]
  rfl
theorem rangeD_0 (n : Nat) : rangeD 0 (n : Int) = (List.range n).map fun i : Nat => .int (i : Int) := by
  rw [rangeD_eq]
  simp
theorem times_fold (l : List Nat) : ∀ (n : Nat) (acc : Array Nat), (List.replicate n l.toArray).foldl (· ++ ·) acc = acc ++ (List.replicate n l).flatten.toArray
  | 0, acc => by simp
  | n + 1, acc => by
    rw [List.replicate_succ, List.foldl_cons, times_fold l n, List.replicate_succ, List.flatten_cons]
    simp
theorem timesS_sS (l : List Nat) (n : Int) : timesS (sS l) n = sS (List.replicate n.toNat l).flatten := by
  unfold timesS
  split
  · have : n.toNat = 0 := by omega
    rw [this]
    rfl
  · split
    · rename_i h
      rcases Bool.or_eq_true_iff.mp h with h | h
      · have : n = 1 := eq_of_beq h
        subst this
        show sS l = sS (List.replicate 1 l).flatten
        simp
      · have hl : (sS l).length = 0 := eq_of_beq h
        rw [sS_len] at hl
        have : l = [] := List.eq_nil_of_length_eq_zero hl
        subst this
        congr 1
        rw [List.flatten_eq_nil_iff.mpr (fun x hx => List.eq_of_mem_replicate hx)]
    · show (⟨_⟩ : Str) = ⟨_⟩
      congr 1
      rw [show (sS l).cps = l.toArray from rfl, times_fold]
      simp
end Mi
/-! each def by a plain function of its slots (printed by gen.py) -/
namespace Law
open PySem PySem.Spec PyProof.Rows L2 Mi
set_option maxRecDepth 100000
def kd_SIGNALS : List (Str × Str) := [(Str.ofString "a", Str.ofString ".-"), (Str.ofString "b", Str.ofString "-..."), (Str.ofString "c", Str.ofString "-.-."), (Str.ofString "d", Str.ofString "-.."), (Str.ofString "e", Str.ofString "."), (Str.ofString "f", Str.ofString "..-."), (Str.ofString "g", Str.ofString "--."), (Str.ofString "h", Str.ofString "...."), (Str.ofString "i", Str.ofString ".."), (Str.ofString "j", Str.ofString ".---"), (Str.ofString "k", Str.ofString "-.-"), (Str.ofString "l", Str.ofString ".-.."), (Str.ofString "m", Str.ofString "--"), (Str.ofString "n", Str.ofString "-."), (Str.ofString "o", Str.ofString "---"), (Str.ofString "p", Str.ofString ".--."), (Str.ofString "q", Str.ofString "--.-"), (Str.ofString "r", Str.ofString ".-."), (Str.ofString "s", Str.ofString "..."), (Str.ofString "t", Str.ofString "-"), (Str.ofString "u", Str.ofString "..-"), (Str.ofString "v", Str.ofString "...-"), (Str.ofString "w", Str.ofString ".--"), (Str.ofString "x", Str.ofString "-..-"), (Str.ofString "y", Str.ofString "-.--"), (Str.ofString "z", Str.ofString "--..")]
def l_sent_1 : MR := (mUn (kdD kd_SIGNALS) (mVar 1))
-- sent: slots 0 word 1 letter
def m_sent : MS' := (sSeq (sRet (mM1 joinD (mC (.str (Str.ofString ""))) (mLc (mIter (mVar 0)) (gNm 1) mYes l_sent_1 [1])))
  sNil)
def phi_sent : List D → Option R := runN 2 1 m_sent
def b_letter_of_1 : MS' := (sSeq (sIf (mCmp eqD (mUn (kdD kd_SIGNALS) (mVar 1)) (mVar 0))
  (sSeq (sRet (mVar 1))
  sNil)
  sNil)
  sNil)
-- letter_of: slots 0 signal 1 letter
def m_letter_of : MS' := (sSeq (sFor (mIter (mC (.str (Str.ofString "abcdefghijklmnopqrstuvwxyz")))) (gNm 1) b_letter_of_1)
  (sSeq (sRet (mC .none))
  sNil))
def phi_letter_of : List D → Option R := runN 2 1 m_letter_of
def l_reading_count_1 : MR := (mBin ixD (mVar 1) (mVar 4))
def t_reading_count_1 : MB := (mCmp (fun a b => (isND a b).map (!·)) (mCall phi_letter_of (aCons (mSl (mVar 0) (pSome (mVar 4)) (pSome (mVar 2))) aNil)) (mC .none))
def l_reading_count_2 : MR := (mVar 4)
def b_reading_count_1 : MS' := (sSeq (sSet 3 (mLc (mRange2 (aCons (mBin max2D (mC (.int 0)) (mBin subD (mVar 2) (mC (.int 4)))) (aCons (mVar 2) aNil))) (gNm 4) t_reading_count_1 l_reading_count_2 [4]))
  (sSeq (sExpr (mAppend 1 (mUn sumD (mLc (mIter (mVar 3)) (gNm 4) mYes l_reading_count_1 [4]))))
  sNil))
-- reading_count: slots 0 message 1 counts 2 end 3 starts 4 start
def m_reading_count : MS' := (sSeq (sSet 1 (mLst (aCons (mC (.int 1)) aNil)))
  (sSeq (sFor (mRange2 (aCons (mC (.int 1)) (aCons (mBin addD (mUn lenD (mVar 0)) (mC (.int 1))) aNil))) (gNm 2) b_reading_count_1)
  (sSeq (sRet (mBin ixD (mVar 1) (mUn negD (mC (.int 1)))))
  sNil)))
def phi_reading_count : List D → Option R := runN 5 1 m_reading_count
def b_readings_1 : MS' := (sSeq (sIf (mTest (mStarts3 (mVar 0) (mUn (kdD kd_SIGNALS) (mVar 7)) (mVar 5)))
  (sSeq (sExpr (mAppend 6 (mTup (aCons (mBin addD (mVar 4) (mVar 7)) (aCons (mBin addD (mVar 5) (mUn lenD (mUn (kdD kd_SIGNALS) (mVar 7)))) aNil)))))
  sNil)
  sNil)
  sNil)
def c_readings_1 : MB := (mAnd (mCmp gtD (mUn lenD (mVar 2)) (mC (.int 0))) (mCmp ltD (mUn lenD (mVar 3)) (mVar 1)))
def b_readings_2 : MS' := (sSeq (sAsg (gTp 2 (gCons' (gNm 4) (gCons' (gNm 5) gNil'))) (mPop 2))
  (sSeq (sIf (mCmp eqD (mVar 5) (mUn lenD (mVar 0)))
  (sSeq (sExpr (mAppend 3 (mVar 4)))
  sNil)
  sNil)
  (sSeq (sSet 6 (mLst aNil))
  (sSeq (sFor (mIter (mC (.str (Str.ofString "abcdefghijklmnopqrstuvwxyz")))) (gNm 7) b_readings_1)
  (sSeq (sExpr (mExtend 2 (mUn revLD (mVar 6))))
  sNil)))))
-- readings: slots 0 message 1 most 2 waiting 3 found 4 word 5 at 6 rows 7 letter
def m_readings : MS' := (sSeq (sSet 2 (mLst (aCons (mTup (aCons (mC (.str (Str.ofString ""))) (aCons (mC (.int 0)) aNil))) aNil)))
  (sSeq (sSet 3 (mLst aNil))
  (sSeq (sWhile 100000 c_readings_1 b_readings_2)
  (sSeq (sRet (mVar 3))
  sNil))))
def phi_readings : List D → Option R := runN 8 2 m_readings
def b_shortest_word_1 : MS' := (sSeq (sSet 5 (mCall phi_letter_of (aCons (mSl (mVar 0) (pSome (mBin subD (mVar 2) (mC (.int 1)))) (pSome (mBin addD (mBin subD (mVar 2) (mC (.int 1))) (mVar 4)))) aNil)))
  (sSeq (sIf (mAnd (mCmp leD (mBin addD (mBin subD (mVar 2) (mC (.int 1))) (mVar 4)) (mUn lenD (mVar 0))) (mCmp (fun a b => (isND a b).map (!·)) (mVar 5) (mC .none)))
  (sSeq (sAsg (gTp 2 (gCons' (gNm 6) (gCons' (gNm 7) gNil'))) (mBin ixD (mVar 1) (mBin subD (mUn lenD (mVar 0)) (mBin addD (mBin subD (mVar 2) (mC (.int 1))) (mVar 4)))))
  (sSeq (sExpr (mAppend 3 (mTup (aCons (mBin addD (mVar 6) (mC (.int 1))) (aCons (mBin addD (mVar 5) (mVar 7)) aNil)))))
  sNil))
  sNil)
  sNil))
def b_shortest_word_2 : MS' := (sSeq (sSet 3 (mLst aNil))
  (sSeq (sFor (mRange2 (aCons (mC (.int 1)) (aCons (mC (.int 5)) aNil))) (gNm 4) b_shortest_word_1)
  (sSeq (sExpr (mAppend 1 (mUn minLD (mVar 3))))
  sNil)))
-- shortest_word: slots 0 message 1 best 2 end 3 rows 4 size 5 letter 6 many 7 word
def m_shortest_word : MS' := (sSeq (sSet 1 (mLst (aCons (mTup (aCons (mC (.int 0)) (aCons (mC (.str (Str.ofString ""))) aNil))) aNil)))
  (sSeq (sFor (mRange3 (aCons (mUn lenD (mVar 0)) (aCons (mC (.int 0)) (aCons (mUn negD (mC (.int 1))) aNil)))) (gNm 2) b_shortest_word_2)
  (sSeq (sRet (mBin ixD (mBin ixD (mVar 1) (mUn negD (mC (.int 1)))) (mC (.int 1))))
  sNil)))
def phi_shortest_word : List D → Option R := runN 8 1 m_shortest_word
def t_sounds_like_1 : MB := (mCmp eqD (mCall phi_sent (aCons (mVar 2) aNil)) (mCall phi_sent (aCons (mVar 1) aNil)))
def l_sounds_like_1 : MR := (mVar 2)
-- sounds_like: slots 0 words 1 word 2 far
def m_sounds_like : MS' := (sSeq (sRet (mLc (mIter (mVar 0)) (gNm 2) t_sounds_like_1 l_sounds_like_1 [2]))
  sNil)
def phi_sounds_like : List D → Option R := runN 3 2 m_sounds_like
-- _law_cell: slots 0 script 1 k
def m_law_cell : MS' := (sSeq (sIf (mCmp ltD (mVar 1) (mUn lenD (mVar 0)))
  (sSeq (sRet (mBin ixD (mVar 0) (mVar 1)))
  sNil)
  sNil)
  (sSeq (sRet (mC (.int 0)))
  sNil))
def phi_law_cell : List D → Option R := runN 2 2 m_law_cell
def b_law_digits_1 : MS' := (sSeq (sIf (mCmp gtD (mVar 5) (mC (.int 0)))
  (sSeq (sExpr (mAppend 3 (mBin modD (mUn intD (mVar 5)) (mC (.int 1000)))))
  (sSeq (sSet 5 (mBin divD (mVar 5) (mC (.int 1000))))
  sNil))
  sNil)
  sNil)
def b_law_digits_2 : MS' := (sSeq (sSet 7 (mBin modD (mUn intD (mBin addD (mBin addD (mBin mulD (mVar 7) (mC (.int 16807))) (mBin mulD (mC (.int 7)) (mVar 6))) (mC (.int 1)))) (mC (.int 2147483647))))
  (sSeq (sExpr (mAppend 3 (mBin modD (mUn intD (mBin divD (mVar 7) (mC (.int 997)))) (mC (.int 1000)))))
  sNil))
def b_law_digits_3 : MS' := (sSeq (sSet 5 (mCall phi_law_cell (aCons (mVar 0) (aCons (mVar 4) aNil))))
  (sSeq (sIf (mCmp ltD (mVar 5) (mC (.int 0)))
  (sSeq (sSet 5 (mBin subD (mC (.int 1)) (mBin mulD (mC (.int 2)) (mVar 5))))
  sNil)
  sNil)
  (sSeq (sIf (mCmp geD (mVar 5) (mBin powD (mC (.int 10)) (mC (.int 18))))
  (sSeq (sFor (mRange1 (aCons (mC (.int 60)) aNil)) (gNm 6) b_law_digits_1)
  sNil)
  (sSeq (sSet 7 (mBin modD (mUn intD (mBin addD (mBin addD (mBin mulD (mVar 5) (mC (.int 48271))) (mBin mulD (mVar 4) (mC (.int 69621)))) (mC (.int 11)))) (mC (.int 2147483647))))
  (sSeq (sFor (mRange1 (aCons (mC (.int 12)) aNil)) (gNm 6) b_law_digits_2)
  sNil)))
  sNil)))
-- _law_digits: slots 0 script 1 first 2 last 3 digits 4 k 5 cell 6 turn 7 seed
def m_law_digits : MS' := (sSeq (sSet 3 (mLst aNil))
  (sSeq (sFor (mRange2 (aCons (mVar 1) (aCons (mVar 2) aNil))) (gNm 4) b_law_digits_3)
  (sSeq (sRet (mVar 3))
  sNil)))
def phi_law_digits : List D → Option R := runN 8 3 m_law_digits
-- _law_draw: slots 0 box 1 many
def m_law_draw : MS' := (sSeq (sPut 0 (mC (.int 1)) (mBin addD (mBin ixD (mVar 0) (mC (.int 1))) (mC (.int 1))))
  (sSeq (sIf (mCmp gtD (mBin ixD (mVar 0) (mC (.int 1))) (mUn lenD (mBin ixD (mVar 0) (mC (.int 0)))))
  (sSeq (sRet (mBin modD (mUn intD (mBin addD (mBin mulD (mBin ixD (mVar 0) (mC (.int 1))) (mC (.int 7))) (mC (.int 3)))) (mVar 1)))
  sNil)
  sNil)
  (sSeq (sRet (mBin modD (mUn intD (mBin ixD (mBin ixD (mVar 0) (mC (.int 0))) (mBin subD (mBin ixD (mVar 0) (mC (.int 1))) (mC (.int 1))))) (mVar 1)))
  sNil)))
def phi_law_draw : List D → List D → Option (R × List D) := runIO 2 2 m_law_draw
-- _law_pick: slots 0 box 1 row
def m_law_pick : MS' := (sSeq (sRet (mBin ixD (mVar 1) (mBin modD (mUn intD (mCallIO phi_law_draw 0 (aCons (mC (.int 1000)) aNil))) (mUn lenD (mVar 1)))))
  sNil)
def phi_law_pick : List D → List D → Option (R × List D) := runIO 2 2 m_law_pick
def b_law_same_1 (φ : List D → Option R) : MS' := (sSeq (sIf (mNot (mTest (mCallL φ (lCons (mBin ixD (mVar 0) (mVar 2)) (lCons (mBin ixD (mVar 1) (mVar 2)) lNil)))))
  (sSeq (sRet (mC (.bool false)))
  sNil)
  sNil)
  sNil)
-- _law_same: slots 0 told 1 due 2 k
def m_law_same (φ : List D → Option R) : MS' := (sSeq (sIf (mCmp isD (mVar 1) (mC .none))
  (sSeq (sRet (mBV (mCmp isD (mVar 0) (mC .none))))
  sNil)
  sNil)
  (sSeq (sIf (mCmp isD (mVar 1) (mC (.bool true)))
  (sSeq (sRet (mBV (mCmp isD (mVar 0) (mC (.bool true)))))
  sNil)
  sNil)
  (sSeq (sIf (mCmp isD (mVar 1) (mC (.bool false)))
  (sSeq (sRet (mBV (mCmp isD (mVar 0) (mC (.bool false)))))
  sNil)
  sNil)
  (sSeq (sIf (mTest (mIsi "str" (mVar 1)))
  (sSeq (sRet (mAndV (mIsi "str" (mVar 0)) (mBV (mCmp eqD (mUn reprD (mVar 0)) (mUn reprD (mVar 1))))))
  sNil)
  sNil)
  (sSeq (sIf (mTest (mIsi "int" (mVar 1)))
  (sSeq (sRet (mAndV (mIsi "int" (mVar 0)) (mAndV (mNotV (mIsi "bool" (mVar 0))) (mBV (mCmp eqD (mUn reprD (mVar 0)) (mUn reprD (mVar 1)))))))
  sNil)
  sNil)
  (sSeq (sIf (mOr (mAnd (mTest (mIsi "tuple" (mVar 1))) (mNot (mTest (mIsi "tuple" (mVar 0))))) (mAnd (mTest (mIsi "list" (mVar 1))) (mNot (mTest (mIsi "list" (mVar 0))))))
  (sSeq (sRet (mC (.bool false)))
  sNil)
  sNil)
  (sSeq (sIf (mCmp neD (mUn lenD (mVar 0)) (mUn lenD (mVar 1)))
  (sSeq (sRet (mC (.bool false)))
  sNil)
  sNil)
  (sSeq (sFor (mRange1 (aCons (mUn lenD (mVar 1)) aNil)) (gNm 2) (b_law_same_1 φ))
  (sSeq (sRet (mC (.bool true)))
  sNil)))))))))
def phi_law_same : Nat → List D → Option R
  | 0, _ => none
  | n + 1, ds => runN 3 2 (m_law_same (phi_law_same n)) ds
def b_law_mixed_1 : MS' := (sSeq (sExpr (mAppend 3 (mPopAt 2 (mCallIO phi_law_draw 0 (aCons (mUn lenD (mVar 2)) aNil)))))
  sNil)
-- _law_mixed: slots 0 box 1 row 2 left 3 found 4 k
def m_law_mixed : MS' := (sSeq (sSet 2 (mUn listD (mVar 1)))
  (sSeq (sSet 3 (mLst aNil))
  (sSeq (sFor (mRange1 (aCons (mUn lenD (mVar 1)) aNil)) (gNm 4) b_law_mixed_1)
  (sSeq (sRet (mVar 3))
  sNil))))
def phi_law_mixed : List D → List D → Option (R × List D) := runIO 5 2 m_law_mixed
-- _law_signals: slots 0 first
def m_law_signals : MS' := (sSeq (sSet 0 (mLst (aCons (mC (.str (Str.ofString ".-"))) (aCons (mC (.str (Str.ofString "-..."))) (aCons (mC (.str (Str.ofString "-.-."))) (aCons (mC (.str (Str.ofString "-.."))) (aCons (mC (.str (Str.ofString "."))) (aCons (mC (.str (Str.ofString "..-."))) (aCons (mC (.str (Str.ofString "--."))) (aCons (mC (.str (Str.ofString "...."))) (aCons (mC (.str (Str.ofString ".."))) (aCons (mC (.str (Str.ofString ".---"))) (aCons (mC (.str (Str.ofString "-.-"))) (aCons (mC (.str (Str.ofString ".-.."))) (aCons (mC (.str (Str.ofString "--"))) aNil)))))))))))))))
  (sSeq (sRet (mBin addD (mVar 0) (mLst (aCons (mC (.str (Str.ofString "-."))) (aCons (mC (.str (Str.ofString "---"))) (aCons (mC (.str (Str.ofString ".--."))) (aCons (mC (.str (Str.ofString "--.-"))) (aCons (mC (.str (Str.ofString ".-."))) (aCons (mC (.str (Str.ofString "..."))) (aCons (mC (.str (Str.ofString "-"))) (aCons (mC (.str (Str.ofString "..-"))) (aCons (mC (.str (Str.ofString "...-"))) (aCons (mC (.str (Str.ofString ".--"))) (aCons (mC (.str (Str.ofString "-..-"))) (aCons (mC (.str (Str.ofString "-.--"))) (aCons (mC (.str (Str.ofString "--.."))) aNil))))))))))))))))
  sNil))
def phi_law_signals : List D → Option R := runN 1 0 m_law_signals
def l_law_spelt_1 : MR := (mBin ixD (mCall phi_law_signals aNil) (mM1 sindexD (mC (.str (Str.ofString "abcdefghijklmnopqrstuvwxyz"))) (mVar 1)))
-- _law_spelt: slots 0 word 1 sign
def m_law_spelt : MS' := (sSeq (sRet (mLc (mIter (mVar 0)) (gNm 1) mYes l_law_spelt_1 [1]))
  sNil)
def phi_law_spelt : List D → Option R := runN 2 1 m_law_spelt
def b_law_fits_1 : MS' := (sSeq (sIf (mCmp eqD (mSl (mVar 0) (pSome (mVar 3)) (pSome (mBin addD (mVar 3) (mUn lenD (mBin ixD (mVar 1) (mVar 5)))))) (mBin ixD (mVar 1) (mVar 5)))
  (sSeq (sExpr (mAppend 4 (mTup (aCons (mBin ixD (mC (.str (Str.ofString "abcdefghijklmnopqrstuvwxyz"))) (mVar 5)) (aCons (mBin addD (mVar 3) (mUn lenD (mBin ixD (mVar 1) (mVar 5)))) aNil)))))
  sNil)
  sNil)
  sNil)
def b_law_fits_2 : MS' := (sSeq (sSet 4 (mLst aNil))
  (sSeq (sFor (mRange1 (aCons (mC (.int 26)) aNil)) (gNm 5) b_law_fits_1)
  (sSeq (sExpr (mAppend 2 (mVar 4)))
  sNil)))
-- _law_fits: slots 0 message 1 signals 2 found 3 at 4 row 5 k
def m_law_fits : MS' := (sSeq (sSet 1 (mCall phi_law_signals aNil))
  (sSeq (sSet 2 (mLst aNil))
  (sSeq (sFor (mRange1 (aCons (mUn lenD (mVar 0)) aNil)) (gNm 3) b_law_fits_2)
  (sSeq (sRet (mVar 2))
  sNil))))
def phi_law_fits : List D → Option R := runN 6 1 m_law_fits
def l_law_counts_1 : MR := (mBin ixD (mVar 2) (mVar 6))
def l_law_counts_2 : MR := (mBin ixD (mVar 1) (mVar 6))
def l_law_counts_3 : MR := (mBin subD (mBin subD (mVar 6) (mVar 3)) (mC (.int 1)))
def b_law_counts_1 : MS' := (sSeq (sSet 4 (mLc (mIter (mBin ixD (mVar 0) (mVar 3))) (gTp 2 (gCons' (gNm 5) (gCons' (gNm 6) gNil'))) mYes l_law_counts_3 [5, 6]))
  (sSeq (sSet 1 (mBin addD (mLst (aCons (mUn sumD (mLc (mIter (mVar 4)) (gNm 6) mYes l_law_counts_2 [6])) aNil)) (mVar 1)))
  (sSeq (sSet 2 (mBin addD (mLst (aCons (mBin addD (mC (.int 1)) (mUn minLD (mLc (mIter (mVar 4)) (gNm 6) mYes l_law_counts_1 [6]))) aNil)) (mVar 2)))
  sNil)))
-- _law_counts: slots 0 rows 1 many 2 few 3 at 4 ends 5 sign 6 end
def m_law_counts : MS' := (sSeq (sAsg (gTp 2 (gCons' (gNm 1) (gCons' (gNm 2) gNil'))) (mTup (aCons (mLst (aCons (mC (.int 1)) aNil)) (aCons (mLst (aCons (mC (.int 0)) aNil)) aNil))))
  (sSeq (sFor (mRange3 (aCons (mBin subD (mUn lenD (mVar 0)) (mC (.int 1))) (aCons (mUn negD (mC (.int 1))) (aCons (mUn negD (mC (.int 1))) aNil)))) (gNm 3) b_law_counts_1)
  (sSeq (sRet (mTup (aCons (mVar 1) (aCons (mVar 2) aNil))))
  sNil)))
def phi_law_counts : List D → Option R := runN 7 1 m_law_counts
def b_law_nth_1 : MS' := (sSeq (sIf (mCmp eqD (mVar 4) (mVar 6))
  (sSeq (sIf (mCmp ltD (mVar 2) (mBin ixD (mVar 1) (mVar 8)))
  (sSeq (sPar 3 4 (aCons (mBin addD (mVar 3) (mVar 7)) (aCons (mVar 8) aNil)))
  sNil)
  (sSeq (sSet 2 (mBin subD (mVar 2) (mBin ixD (mVar 1) (mVar 8))))
  sNil))
  sNil)
  sNil)
  sNil)
def b_law_nth_2 : MS' := (sSeq (sIf (mCmp ltD (mVar 4) (mUn lenD (mVar 0)))
  (sSeq (sSet 6 (mVar 4))
  (sSeq (sFor (mIter (mBin ixD (mVar 0) (mVar 6))) (gTp 2 (gCons' (gNm 7) (gCons' (gNm 8) gNil'))) b_law_nth_1)
  sNil))
  sNil)
  sNil)
-- _law_nth: slots 0 rows 1 many 2 number 3 word 4 at 5 turn 6 here 7 sign 8 end
def m_law_nth : MS' := (sSeq (sAsg (gTp 2 (gCons' (gNm 3) (gCons' (gNm 4) gNil'))) (mTup (aCons (mC (.str (Str.ofString ""))) (aCons (mC (.int 0)) aNil))))
  (sSeq (sFor (mRange1 (aCons (mUn lenD (mVar 0)) aNil)) (gNm 5) b_law_nth_2)
  (sSeq (sRet (mVar 3))
  sNil)))
def phi_law_nth : List D → Option R := runN 9 3 m_law_nth
def t_law_shortest_1 : MB := (mCmp eqD (mBin ixD (mVar 1) (mVar 6)) (mBin subD (mBin ixD (mVar 1) (mVar 3)) (mC (.int 1))))
def l_law_shortest_1 : MR := (mTup (aCons (mVar 5) (aCons (mVar 6) aNil)))
def b_law_shortest_1 : MS' := (sSeq (sIf (mCmp ltD (mVar 3) (mUn lenD (mVar 0)))
  (sSeq (sAsg (gTp 2 (gCons' (gNm 5) (gCons' (gNm 6) gNil'))) (mBin ixD (mLc (mIter (mBin ixD (mVar 0) (mVar 3))) (gTp 2 (gCons' (gNm 5) (gCons' (gNm 6) gNil'))) t_law_shortest_1 l_law_shortest_1 [5, 6]) (mC (.int 0))))
  (sSeq (sAsg (gTp 2 (gCons' (gNm 2) (gCons' (gNm 3) gNil'))) (mTup (aCons (mBin addD (mVar 2) (mVar 5)) (aCons (mVar 6) aNil))))
  sNil))
  sNil)
  sNil)
-- _law_shortest: slots 0 rows 1 few 2 word 3 at 4 turn 5 sign 6 end
def m_law_shortest : MS' := (sSeq (sAsg (gTp 2 (gCons' (gNm 2) (gCons' (gNm 3) gNil'))) (mTup (aCons (mC (.str (Str.ofString ""))) (aCons (mC (.int 0)) aNil))))
  (sSeq (sFor (mRange1 (aCons (mUn lenD (mVar 0)) aNil)) (gNm 4) b_law_shortest_1)
  (sSeq (sRet (mVar 2))
  sNil)))
def phi_law_shortest : List D → Option R := runN 7 2 m_law_shortest
def l_law_message_1 : MR := (mCallIO phi_law_pick 0 (aCons (mC (.str (Str.ofString ".-"))) aNil))
def l_law_message_2 : MR := (mCallIO phi_law_pick 0 (aCons (mC (.str (Str.ofString "abcdefghijklmnopqrstuvwxyz"))) aNil))
-- _law_message: slots 0 box 1 kind 2 size 3 word 4 k
def m_law_message : MS' := (sSeq (sSet 1 (mCallIO phi_law_draw 0 (aCons (mC (.int 4)) aNil)))
  (sSeq (sSet 2 (mCallIO phi_law_pick 0 (aCons (mLst (aCons (mC (.int 14)) (aCons (mC (.int 13)) (aCons (mC (.int 10)) (aCons (mC (.int 7)) (aCons (mC (.int 5)) (aCons (mC (.int 3)) (aCons (mC (.int 1)) (aCons (mC (.int 0)) (aCons (mC (.int 12)) aNil)))))))))) aNil)))
  (sSeq (sIf (mCmp eqD (mVar 1) (mC (.int 0)))
  (sSeq (sSet 3 (mM1 joinD (mC (.str (Str.ofString ""))) (mLc (mRange1 (aCons (mBin addD (mC (.int 1)) (mCallIO phi_law_draw 0 (aCons (mC (.int 6)) aNil))) aNil)) (gNm 4) mYes l_law_message_2 [4])))
  (sSeq (sRet (mSl (mM1 joinD (mC (.str (Str.ofString ""))) (mCall phi_law_spelt (aCons (mVar 3) aNil))) pNone (pSome (mC (.int 14)))))
  sNil))
  sNil)
  (sSeq (sIf (mCmp eqD (mVar 1) (mC (.int 1)))
  (sSeq (sRet (mBin mulSD (mCallIO phi_law_pick 0 (aCons (mC (.str (Str.ofString ".-"))) aNil)) (mVar 2)))
  sNil)
  sNil)
  (sSeq (sRet (mM1 joinD (mC (.str (Str.ofString ""))) (mLc (mRange1 (aCons (mVar 2) aNil)) (gNm 4) mYes l_law_message_1 [4])))
  sNil)))))
def phi_law_message : List D → List D → Option (R × List D) := runIO 5 1 m_law_message
def b_law_looked_1 : MS' := (sSeq (sIf (mNot (mTest (mCallL (phi_law_same 12) (lCons (mCall phi_sent (aCons (mVar 8) aNil)) (lCons (mVar 1) lNil)))))
  (sSeq (sRet (mC (.bool false)))
  sNil)
  sNil)
  sNil)
def l_law_looked_1 : MR := (mCall phi_law_nth (aCons (mVar 2) (aCons (mVar 3) (aCons (mVar 9) aNil))))
def b_law_looked_2 : MS' := (sSeq (sSet 6 (mLc (mRange1 (aCons (mBin min2D (mVar 5) (mBin ixD (mVar 3) (mC (.int 0)))) aNil)) (gNm 9) mYes l_law_looked_1 [9]))
  (sSeq (sSet 7 (mCall phi_readings (aCons (mVar 1) (aCons (mVar 5) aNil))))
  (sSeq (sIf (mNot (mTest (mCallL (phi_law_same 12) (lCons (mVar 7) (lCons (mVar 6) lNil)))))
  (sSeq (sRet (mC (.bool false)))
  sNil)
  sNil)
  (sSeq (sFor (mIter (mVar 7)) (gNm 8) b_law_looked_1)
  sNil))))
-- _law_looked: slots 0 box 1 message 2 rows 3 many 4 few 5 most 6 due 7 told 8 word 9 k
def m_law_looked : MS' := (sSeq (sSet 2 (mCall phi_law_fits (aCons (mVar 1) aNil)))
  (sSeq (sAsg (gTp 2 (gCons' (gNm 3) (gCons' (gNm 4) gNil'))) (mCall phi_law_counts (aCons (mVar 2) aNil)))
  (sSeq (sIf (mOr (mNot (mTest (mCallL (phi_law_same 12) (lCons (mCall phi_reading_count (aCons (mVar 1) aNil)) (lCons (mBin ixD (mVar 3) (mC (.int 0))) lNil))))) (mNot (mTest (mCallL (phi_law_same 12) (lCons (mCall phi_shortest_word (aCons (mVar 1) aNil)) (lCons (mCall phi_law_shortest (aCons (mVar 2) (aCons (mVar 4) aNil))) lNil))))))
  (sSeq (sRet (mC (.bool false)))
  sNil)
  sNil)
  (sSeq (sFor (mIter (mLst (aCons (mCallIO phi_law_draw 0 (aCons (mC (.int 7)) aNil)) (aCons (mCallIO phi_law_pick 0 (aCons (mLst (aCons (mC (.int 3)) (aCons (mC (.int 1)) (aCons (mIf (mCmp ltD (mBin ixD (mVar 3) (mC (.int 0))) (mC (.int 12))) (mBin ixD (mVar 3) (mC (.int 0))) (mC (.int 2))) aNil)))) aNil)) aNil)))) (gNm 5) b_law_looked_2)
  (sSeq (sRet (mC (.bool true)))
  sNil)))))
def phi_law_looked : List D → List D → Option (R × List D) := runIO 10 2 m_law_looked
def t_law_alike_1 : MB := (mCmp eqD (mM1 joinD (mC (.str (Str.ofString ""))) (mCall phi_law_spelt (aCons (mVar 11) aNil))) (mM1 joinD (mC (.str (Str.ofString ""))) (mCall phi_law_spelt (aCons (mVar 6) aNil))))
def l_law_alike_1 : MR := (mVar 11)
def t_law_alike_2 : MB := (mCmp ltD (mUn lenD (mVar 6)) (mC (.int 7)))
def l_law_alike_2 : MR := (mVar 6)
def l_law_alike_3 : MR := (mCallIO phi_law_pick 0 (aCons (mC (.str (Str.ofString "eeitnamsdu"))) aNil))
def l_law_alike_4 : MR := (mM1 joinD (mC (.str (Str.ofString ""))) (mLc (mRange1 (aCons (mCallIO phi_law_draw 0 (aCons (mC (.int 6)) aNil)) aNil)) (gNm 10) mYes l_law_alike_3 [10]))
def t_law_alike_3 : MB := (mCmp ltD (mUn lenD (mVar 6)) (mC (.int 7)))
def l_law_alike_5 : MR := (mVar 6)
def l_law_alike_6 : MR := (mCall phi_law_nth (aCons (mVar 2) (aCons (mVar 3) (aCons (mBin modD (mUn intD (mBin addD (mBin mulD (mCallIO phi_law_draw 0 (aCons (mC (.int 1000)) aNil)) (mC (.int 31))) (mVar 10))) (mBin ixD (mVar 3) (mC (.int 0)))) aNil))))
-- _law_alike: slots 0 box 1 message 2 rows 3 many 4 few 5 words 6 word 7 due 8 handed 9 told 10 k 11 far
def m_law_alike : MS' := (sSeq (sSet 2 (mCall phi_law_fits (aCons (mVar 1) aNil)))
  (sSeq (sAsg (gTp 2 (gCons' (gNm 3) (gCons' (gNm 4) gNil'))) (mCall phi_law_counts (aCons (mVar 2) aNil)))
  (sSeq (sSet 5 (mLc (mRange1 (aCons (mC (.int 4)) aNil)) (gNm 10) mYes l_law_alike_6 [10]))
  (sSeq (sSet 5 (mBin addD (mLc (mIter (mVar 5)) (gNm 6) t_law_alike_3 l_law_alike_5 [6]) (mLst (aCons (mCall phi_law_shortest (aCons (mVar 2) (aCons (mVar 4) aNil))) aNil))))
  (sSeq (sSet 5 (mBin addD (mVar 5) (mLc (mRange1 (aCons (mC (.int 2)) aNil)) (gNm 11) mYes l_law_alike_4 [11])))
  (sSeq (sSet 5 (mLc (mIter (mCallIO phi_law_mixed 0 (aCons (mBin addD (mVar 5) (mSl (mVar 5) pNone (pSome (mC (.int 1))))) aNil))) (gNm 6) t_law_alike_2 l_law_alike_2 [6]))
  (sSeq (sIf (mCmp eqD (mVar 5) (mLst aNil))
  (sSeq (sRet (mC (.bool true)))
  sNil)
  sNil)
  (sSeq (sSet 6 (mCallIO phi_law_pick 0 (aCons (mVar 5) aNil)))
  (sSeq (sSet 7 (mLc (mIter (mVar 5)) (gNm 11) t_law_alike_1 l_law_alike_1 [11]))
  (sSeq (sSet 8 (mUn listD (mVar 5)))
  (sSeq (sSet 9 (mCall phi_sounds_like (aCons (mVar 8) (aCons (mVar 6) aNil))))
  (sSeq (sIf (mOr (mNot (mTest (mCallL (phi_law_same 12) (lCons (mVar 9) (lCons (mVar 7) lNil))))) (mCmp neD (mVar 8) (mVar 5)))
  (sSeq (sRet (mC (.bool false)))
  sNil)
  sNil)
  (sSeq (sExpr (mAppend 9 (mC (.str (Str.ofString "x")))))
  (sSeq (sRet (mCallL (phi_law_same 12) (lCons (mCall phi_sounds_like (aCons (mVar 8) (aCons (mVar 6) aNil))) (lCons (mVar 7) lNil))))
  sNil))))))))))))))
def phi_law_alike : List D → List D → Option (R × List D) := runIO 12 2 m_law_alike
def t_law_1 : MB := (mCmp eqD (mBin ixD (mVar 4) (mVar 9)) (mVar 5))
def l_law_1 : MR := (mVar 9)
def l_law_2 : MR := (mCallIO phi_law_pick 1 (aCons (mC (.str (Str.ofString ".-"))) aNil))
def b_law_1 : MS' := (sSeq (sSet 5 (mM1 joinD (mC (.str (Str.ofString ""))) (mLc (mRange1 (aCons (mCallIO phi_law_draw 1 (aCons (mC (.int 6)) aNil)) aNil)) (gNm 9) mYes l_law_2 [9])))
  (sSeq (sSet 6 (mLc (mRange1 (aCons (mC (.int 26)) aNil)) (gNm 9) t_law_1 l_law_1 [9]))
  (sSeq (sIf (mNot (mTest (mCallL (phi_law_same 12) (lCons (mCall phi_letter_of (aCons (mVar 5) aNil)) (lCons (mIf (mCmp eqD (mVar 6) (mLst aNil)) (mC .none) (mBin ixD (mC (.str (Str.ofString "abcdefghijklmnopqrstuvwxyz"))) (mBin ixD (mVar 6) (mC (.int 0))))) lNil)))))
  (sSeq (sRet (mC (.bool false)))
  sNil)
  sNil)
  (sSeq (sSet 7 (mCallIO phi_law_pick 1 (aCons (mC (.str (Str.ofString "abcdefghijklmnopqrstuvwxyz"))) aNil)))
  (sSeq (sSet 8 (mBin addD (mVar 7) (mBin mulSD (mCallIO phi_law_pick 1 (aCons (mC (.str (Str.ofString "qzjxkvbyw"))) aNil)) (mCallIO phi_law_draw 1 (aCons (mC (.int 6)) aNil)))))
  (sSeq (sIf (mOr (mNot (mTest (mCallL (phi_law_same 12) (lCons (mCall phi_sent (aCons (mVar 8) aNil)) (lCons (mM1 joinD (mC (.str (Str.ofString ""))) (mCall phi_law_spelt (aCons (mVar 8) aNil))) lNil))))) (mNot (mTest (mCallL (phi_law_same 12) (lCons (mCall phi_letter_of (aCons (mBin ixD (mCall phi_law_spelt (aCons (mVar 7) aNil)) (mC (.int 0))) aNil)) (lCons (mVar 7) lNil))))))
  (sSeq (sRet (mC (.bool false)))
  sNil)
  sNil)
  sNil))))))
def b_law_2 : MS' := (sSeq (sSet 3 (mCallIO phi_law_message 1 aNil))
  (sSeq (sIf (mOr (mNot (mTest (mCallIO phi_law_looked 1 (aCons (mVar 3) aNil)))) (mNot (mTest (mCallIO phi_law_alike 1 (aCons (mVar 3) aNil)))))
  (sSeq (sRet (mC (.bool false)))
  sNil)
  sNil)
  sNil))
-- law: slots 0 script 1 box 2 turn 3 message 4 signals 5 signal 6 due 7 sign 8 word 9 k
def m_law : MS' := (sSeq (sSet 1 (mLst (aCons (mCall phi_law_digits (aCons (mVar 0) (aCons (mC (.int 0)) (aCons (mC (.int 16)) aNil)))) (aCons (mC (.int 0)) aNil))))
  (sSeq (sFor (mRange1 (aCons (mC (.int 2)) aNil)) (gNm 2) b_law_2)
  (sSeq (sSet 4 (mCall phi_law_signals aNil))
  (sSeq (sFor (mRange1 (aCons (mC (.int 6)) aNil)) (gNm 2) b_law_1)
  (sSeq (sIf (mOr (mNot (mTest (mCallL (phi_law_same 12) (lCons (mCall phi_readings (aCons (mC (.str (Str.ofString ""))) (aCons (mC (.int 3)) aNil))) (lCons (mLst (aCons (mC (.str (Str.ofString ""))) aNil)) lNil))))) (mOr (mNot (mTest (mCallL (phi_law_same 12) (lCons (mCall phi_reading_count (aCons (mC (.str (Str.ofString ""))) aNil)) (lCons (mC (.int 1)) lNil))))) (mNot (mTest (mCallL (phi_law_same 12) (lCons (mCall phi_shortest_word (aCons (mC (.str (Str.ofString ""))) aNil)) (lCons (mC (.str (Str.ofString ""))) lNil)))))))
  (sSeq (sRet (mC (.bool false)))
  sNil)
  sNil)
  (sSeq (sRet (mAndV (mCallL (phi_law_same 12) (lCons (mCall phi_readings (aCons (mC (.str (Str.ofString "..."))) (aCons (mC (.int 9)) aNil))) (lCons (mLst (aCons (mC (.str (Str.ofString "eee"))) (aCons (mC (.str (Str.ofString "ei"))) (aCons (mC (.str (Str.ofString "ie"))) (aCons (mC (.str (Str.ofString "s"))) aNil))))) lNil))) (mAndV (mBV (mCmp eqD (mCall phi_readings (aCons (mC (.str (Str.ofString "."))) (aCons (mC (.int 0)) aNil))) (mLst aNil))) (mCallL (phi_law_same 12) (lCons (mCall phi_reading_count (aCons (mC (.str (Str.ofString "----"))) aNil)) (lCons (mC (.int 7)) lNil))))))
  sNil))))))
def phi_law : List D → Option R := runN 10 1 m_law
end Law
/-! k57: letters and signals -/
namespace Law
open PySem PySem.Spec PyProof.Rows L2 Mi
set_option maxRecDepth 100000
set_option maxHeartbeats 1000000
def al : List Nat := (List.range 26).map (97 + ·)
def SGL : List (List Nat) := [[46,45],[45,46,46,46],[45,46,45,46],[45,46,46],[46],[46,46,45,46],[45,45,46],[46,46,46,46],[46,46],[46,45,45,45],[45,46,45],[46,45,46,46],[45,45],[45,46],[45,45,45],[46,45,45,46],[45,45,46,45],[46,45,46],[46,46,46],[45],[46,46,45],[46,46,46,45],[46,45,45],[45,46,46,45],[45,46,45,45],[45,45,46,46]]
def sg (c : Nat) : List Nat := SGL.getD (c - 97) []
def abcT : Str := Str.ofString "abcdefghijklmnopqrstuvwxyz"
theorem abc_is : abcT = sS al := by decide +kernel
theorem kd_al : ∀ c ∈ al, assocS kd_SIGNALS (sS [c]) = some (sS (sg c)) := by decide +kernel
theorem occ_al : ∀ c ∈ al, Builtin.Str.occurrences (sS al) (sS [c]) 0 (sS al).length 1 = [c - 97] := by decide +kernel
theorem idx_al {c : Nat} (h : c ∈ al) : sindexD (.str (sS al)) (.str (sS [c])) = some (.sh (.int ((c - 97 : Nat) : Int))) := by
  unfold sindexD
  dsimp only
  rw [occ_al c h]
theorem sg_inj : ∀ c ∈ al, ∀ d ∈ al, sg c = sg d → c = d := by decide +kernel
theorem sg_pos : ∀ c ∈ al, 1 ≤ (sg c).length ∧ (sg c).length ≤ 4 := by decide +kernel
theorem sg_dots : ∀ c ∈ al, ∀ s ∈ sg c, s = 46 ∨ s = 45 := by decide +kernel
theorem opt_map {α β : Type} {f : α → β} {o : Option α} {b : β} (h : o.map f = some b) : ∃ a, o = some a ∧ f a = b := by
  cases o with
  | none => cases h
  | some a => exact ⟨a, rfl, Option.some.inj h⟩
theorem filterMap_all {α β : Type} (f : α → β) : ∀ l : List α, l.filterMap (fun x => some (f x)) = l.map f
  | [] => rfl
  | x :: r => by rw [List.filterMap_cons, List.map_cons, filterMap_all f r]
theorem join_all {ls : List (List Nat)} (h : ls.flatten.length ≤ 1000000) : joinD (.str (Str.ofString "")) (.list (ls.map fun l => .str (sS l))) = some (.sh (.str (sS ls.flatten))) := by
  have e : (ls.map fun l => PyData.str (sS l)) = (ls.map sS).map .str := by simp
  rw [e, join_empty, join_ok, sS_join]
  have hs : ((ls.map sS).map (·.length)).sum = ls.flatten.length := by
    clear e h
    induction ls with
    | nil => rfl
    | cons t r ih => rw [List.map_cons, List.map_cons, List.sum_cons, ih, List.flatten_cons, List.length_append, sS_len]
  rw [hs, sS_len]
  show _ + _ * 0 ≤ 1000000
  rw [Nat.mul_zero]
  exact h
theorem charsD_sS (l : List Nat) : charsD (sS l) = l.map fun c => .str (sS [c]) := rfl
/-- a loop that looks for the first that fits -/
theorem for_find {g : MG} {n : MS'} {ds : List D} {α : Type} (S : α → En) (p : D → Bool) (o : D → Out) (T : D → En) (u : α → D → α) (hs : ∀ a d, d ∈ ds → bnd (g d (S a)) n = if p d = true then some (o d, T d) else some (.nx, S (u a d))) (ho : ∀ d, ∃ r, o d = .rt r) (a : α) :
    forGo g n ds (S a) = match ds.find? p with
      | some d => some (o d, T d)
      | none => some (.nx, S (ds.foldl u a)) := by
  induction ds generalizing a with
  | nil => rfl
  | cons d r ih =>
    have e := hs a d List.mem_cons_self
    rw [forGo_cons, List.find?_cons]
    cases q : g d (S a) with
    | none =>
      rw [q, bnd_none] at e
      split at e <;> cases e
    | some ρ1 =>
      rw [q, bnd_some] at e
      rw [bnd_some, e]
      by_cases hp : p d = true
      · rw [if_pos hp, hp, bnd_some]
        obtain ⟨x, hx⟩ := ho d
        show forO g n r (o d, T d) = some (o d, T d)
        rw [hx]
        rfl
      · rw [if_neg hp, Bool.eq_false_iff.mpr hp, bnd_some, forO_nx, ih (fun a d h => hs a d (List.mem_cons_of_mem _ h))]
        rfl
def strC (c : Nat) : D := .str (sS [c])
def cod : D → Nat
  | .str z => z.cps.toList.getD 0 0
  | _ => 0
@[simp] theorem cod_strC (c : Nat) : cod (strC c) = c := rfl
theorem sent_ok {w : List Nat} (hw : ∀ c ∈ w, c ∈ al) (hl : w.length ≤ 1000) : phi_sent [.str (sS w)] = some (.sh (.str (sS (w.map sg).flatten))) := by
  have hL : ∀ c ∈ al, (sg c).length ≤ 4 := fun c h => (sg_pos c h).2
  have hf : ∀ w : List Nat, (∀ c ∈ w, c ∈ al) → (w.map sg).flatten.length ≤ 4 * w.length := by
    intro w
    induction w with
    | nil => intro _; simp
    | cons c r ih =>
      intro h
      rw [List.map_cons, List.flatten_cons, List.length_append, List.length_cons]
      have := ih fun x hx => h x (List.mem_cons_of_mem _ hx)
      have := hL c (h c List.mem_cons_self)
      omega
  have e := lc_pure (gg := gNm 1) (t := mYes) (el := l_sent_1) (vs := [1]) (ds := charsD (sS w)) (ρ := [.sh (.str (sS w)), .no]) (fun d => some (.str (sS (sg (cod d))))) (fun d hd => by
    rw [charsD_sS] at hd
    obtain ⟨c, hc, rfl⟩ := List.mem_map.mp hd
    unfold l_sent_1
    simp [kd_al c (hw c hc)]
    rfl) [] (by rw [charsD_sS, List.length_map]; show _ ≤ 1000000; simp; omega)
  rw [List.nil_append, filterMap_all, charsD_sS, List.map_map] at e
  have e2 : (w.map ((fun d => PyData.str (sS (sg (cod d)))) ∘ fun c => PyData.str (sS [c]))) = (w.map sg).map fun l => .str (sS l) := by
    rw [List.map_map]
    rfl
  rw [e2] at e
  have e3 := join_all (ls := w.map sg) (by have := hf w hw; omega)
  generalize (w.map sg).map (fun l => PyData.str (sS l)) = zs at e e3
  unfold phi_sent
  rw [runN_eq (by rfl)]
  unfold m_sent
  simp [e, e3, charsD_sS]
/-- the letter of a signal -/
def lto (l : List Nat) : Option Nat := al.find? fun c => sg c == l
def ltD (l : List Nat) : D := match lto l with
  | some c => strC c
  | none => .none
theorem sS_eqb (a b : List Nat) : decide (sS a = sS b) = (a == b) := by
  by_cases h : a = b
  · subst h; simp
  · have : ¬ sS a = sS b := fun e => h (sS_inj.mp e)
    simp [h, this]
theorem letter_ok (l : List Nat) : phi_letter_of [.str (sS l)] = some (.sh (ltD l)) := by
  have e := for_find (g := gNm 1) (n := b_letter_of_1) (ds := charsD (sS al)) (α := Option D) (fun a => [.sh (.str (sS l)), match a with | none => .no | some d => .sh d]) (fun d => sg (cod d) == l) (fun d => .rt (.sh d)) (fun d => [.sh (.str (sS l)), .sh d]) (fun _ d => some d) (fun a d hd => by
    rw [charsD_sS] at hd
    obtain ⟨c, hc, rfl⟩ := List.mem_map.mp hd
    have hk := kd_al c hc
    have hq : sg (cod (.str (sS [c]))) = sg c := rfl
    unfold b_letter_of_1
    by_cases h : sg c = l
    · cases a <;> simp [hk, hq, h]
    · have : ¬ sS (sg c) = sS l := fun e => h (sS_inj.mp e)
      cases a <;> simp [hk, hq, h, this]) (fun d => ⟨_, rfl⟩) none
  have ef : (charsD (sS al)).find? (fun d => sg (cod d) == l) = (lto l).map strC := by
    rw [charsD_sS]
    unfold lto
    rw [List.find?_map]
    rfl
  rw [ef] at e
  unfold phi_letter_of
  rw [runN_eq (by rfl)]
  unfold m_letter_of ltD
  rw [show Str.ofString "abcdefghijklmnopqrstuvwxyz" = sS al from abc_is]
  cases h : lto l with
  | none =>
    rw [h] at e
    dsimp only [Option.map] at e
    simp [e]
  | some c =>
    rw [h] at e
    dsimp only [Option.map] at e
    simp [e]
end Law
/-! k57: the law's own tables -/
namespace Law
open PySem PySem.Spec PyProof.Rows L2 Mi
set_option maxRecDepth 100000
set_option maxHeartbeats 1000000
def sgD : List D := SGL.map fun l => .str (sS l)
theorem sig_texts : [Str.ofString ".-", Str.ofString "-...", Str.ofString "-.-.", Str.ofString "-..", Str.ofString ".", Str.ofString "..-.", Str.ofString "--.", Str.ofString "....", Str.ofString "..", Str.ofString ".---", Str.ofString "-.-", Str.ofString ".-..", Str.ofString "--",
    Str.ofString "-.", Str.ofString "---", Str.ofString ".--.", Str.ofString "--.-", Str.ofString ".-.", Str.ofString "...", Str.ofString "-", Str.ofString "..-", Str.ofString "...-", Str.ofString ".--", Str.ofString "-..-", Str.ofString "-.--", Str.ofString "--.."] = SGL.map sS := by decide +kernel
theorem lim_of {n : Nat} (h : n ≤ 1000) : n ≤ lim := by show _ ≤ 1000000; omega
theorem lim_lt' {n : Nat} (h : n ≤ 1000) : n < lim := by show _ < 1000000; omega
theorem signals_ok : phi_law_signals [] = some (.fr sgD) := by
  have z1 := lim_of (n := 13) (by decide)
  have z2 := lim_of (n := 26) (by decide)
  have e : sgD = ([Str.ofString ".-", Str.ofString "-...", Str.ofString "-.-.", Str.ofString "-..", Str.ofString ".", Str.ofString "..-.", Str.ofString "--.", Str.ofString "....", Str.ofString "..", Str.ofString ".---", Str.ofString "-.-", Str.ofString ".-..", Str.ofString "--",
    Str.ofString "-.", Str.ofString "---", Str.ofString ".--.", Str.ofString "--.-", Str.ofString ".-.", Str.ofString "...", Str.ofString "-", Str.ofString "..-", Str.ofString "...-", Str.ofString ".--", Str.ofString "-..-", Str.ofString "-.--", Str.ofString "--.."] : List Str).map .str := by
    rw [sig_texts, List.map_map]
    rfl
  unfold phi_law_signals
  rw [runN_eq (by rfl)]
  unfold m_law_signals
  rw [e]
  simp [z1, z2]
theorem sgD_at {c : Nat} (h : c ∈ al) : atI sgD ((c - 97 : Nat) : Int) = some (.str (sS (sg c))) := by
  rw [atI_nat']
  unfold sgD sg
  rw [List.getElem?_map]
  have hl : ∀ c ∈ al, c - 97 < SGL.length := by decide +kernel
  have := hl c h
  rw [List.getElem?_eq_getElem this, List.getD_eq_getElem?_getD, List.getElem?_eq_getElem this]
  rfl
theorem sgD_len : sgD.length = 26 := by decide +kernel
theorem spelt_ok {w : List Nat} (hw : ∀ c ∈ w, c ∈ al) (hl : w.length ≤ 1000) : phi_law_spelt [.str (sS w)] = some (.fr (w.map fun c => .str (sS (sg c)))) := by
  have e := lc_pure (gg := gNm 1) (t := mYes) (el := l_law_spelt_1) (vs := [1]) (ds := charsD (sS w)) (ρ := [.sh (.str (sS w)), .no]) (fun d => some (.str (sS (sg (cod d))))) (fun d hd => by
    rw [charsD_sS] at hd
    obtain ⟨c, hc, rfl⟩ := List.mem_map.mp hd
    have h1 := idx_al (hw c hc)
    rw [← abc_is] at h1
    have h2 := sgD_at (hw c hc)
    have h3 : sg (cod (.str (sS [c]))) = sg c := rfl
    unfold abcT at h1
    unfold l_law_spelt_1
    simp [signals_ok, h1, h2, h3]) [] (by rw [charsD_sS, List.length_map]; show _ ≤ 1000000; simp; omega)
  rw [List.nil_append, filterMap_all, charsD_sS, List.map_map] at e
  unfold phi_law_spelt
  rw [runN_eq (by rfl)]
  unfold m_law_spelt
  have e2 : (w.map ((fun d => PyData.str (sS (sg (cod d)))) ∘ fun c => PyData.str (sS [c]))) = w.map fun c => .str (sS (sg c)) := rfl
  rw [e2] at e
  simp [e, charsD_sS]
/-- the letters whose signal the message begins with -/
def mt (l : List Nat) : List Nat := al.filter fun c => (sg c).isPrefixOf l
def fitL (l : List Nat) (at' : Nat) : List (Nat × Nat) := (mt (l.drop at')).map fun c => (c, at' + (sg c).length)
def pD (p : Nat × Nat) : D := .tuple [strC p.1, .int (p.2 : Int)]
theorem pre_take (x l : List Nat) : (l.take x.length == x) = x.isPrefixOf l := by
  by_cases h : x <+: l
  · rw [List.isPrefixOf_iff_prefix.mpr h, (List.prefix_iff_eq_take.mp h).symm]
    simp
  · have : ¬ x.isPrefixOf l = true := fun e => h (List.isPrefixOf_iff_prefix.mp e)
    rw [Bool.eq_false_iff.mpr this]
    apply Bool.eq_false_iff.mpr
    intro e
    apply h
    rw [List.prefix_iff_eq_take]
    exact (eq_of_beq e).symm
/-- what the law puts into a row at k -/
def rowK (l : List Nat) (a k : Nat) : List D := if (sg (97 + k)).isPrefixOf (l.drop a) = true then [pD (97 + k, a + (sg (97 + k)).length)] else []
theorem rows_range (l : List Nat) (a : Nat) : ((List.range 26).map (rowK l a)).flatten = (fitL l a).map pD := by
  unfold fitL mt al rowK
  rw [List.filter_map, List.map_map, List.map_map]
  generalize List.range 26 = ks
  induction ks with
  | nil => rfl
  | cons k r ih =>
    rw [List.map_cons, List.flatten_cons, ih, List.filter_cons]
    by_cases h : (sg (97 + k)).isPrefixOf (l.drop a) = true
    · simp [h]
    · simp [h]
theorem fit_turn {l : List Nat} {m2 m5 : M} {a k : Nat} {row : List D} (hl : l.length ≤ 1000) (hr : row.length ≤ 900) (h5 : Shy m5) (hk : k < 26) :
    bnd (gNm 5 (.int (k : Int)) [.sh (.str (sS l)), .own sgD, m2, .sh (.int (a : Int)), .own row, m5]) b_law_fits_1 = some (.nx, [.sh (.str (sS l)), .own sgD, m2, .sh (.int (a : Int)), .own (row ++ rowK l a k), .sh (.int (k : Int))]) := by
  have hc : 97 + k ∈ al := List.mem_map.mpr ⟨k, List.mem_range.mpr hk, rfl⟩
  have hL := lim_of hl
  have h1 := sgD_at hc
  have h97 : 97 + k - 97 = k := by omega
  rw [h97] at h1
  have h2 : (sg (97 + k)).length ≤ lim := lim_of (by have := (sg_pos _ hc).2; omega)
  have h3 : Mi.cutD l (some (a : Int)) (some ((a : Int) + ((sg (97 + k)).length : Int))) = (l.drop a).take (sg (97 + k)).length := by
    rw [cut_both _ (by omega) (by omega)]
    rw [show ((a : Int) + ((sg (97 + k)).length : Int)).toNat = a + (sg (97 + k)).length by omega, Int.toNat_natCast, List.drop_take]
    congr 1
    omega
  have h4 : atI al (k : Int) = some (97 + k) := by
    rw [atI_nat']
    unfold al
    rw [List.getElem?_map, List.getElem?_range hk]
    rfl
  have h5' : al.length ≤ lim := lim_of (by decide)
  have h6 : row.length < lim := lim_lt' (by omega)
  have z2 : 2 ≤ lim := lim_of (by decide)
  have h7 : decide (sS ((l.drop a).take (sg (97 + k)).length) = sS (sg (97 + k))) = (sg (97 + k)).isPrefixOf (l.drop a) := by rw [sS_eqb, pre_take]
  unfold b_law_fits_1
  rw [show Str.ofString "abcdefghijklmnopqrstuvwxyz" = sS al from abc_is]
  unfold rowK
  by_cases h : (sg (97 + k)).isPrefixOf (l.drop a) = true
  · rw [h] at h7
    rw [if_pos h]
    have h8 := of_decide_eq_true h7
    simp [shy_free h5, h1, hL, h2, h3, h4, h5', h6, h8, z2]
    rfl
  · rw [Bool.eq_false_iff.mpr h] at h7
    rw [if_neg h]
    have h8 := of_decide_eq_false h7
    simp [shy_free h5, h1, hL, h2, h3, h8]
theorem fit_row {l : List Nat} {m2 m5 : M} {a : Nat} (hl : l.length ≤ 1000) (h5 : Shy m5) : ∃ m5', forGo (gNm 5) b_law_fits_1 (rangeD 0 26) [.sh (.str (sS l)), .own sgD, m2, .sh (.int (a : Int)), .own [], m5] = some (.nx, [.sh (.str (sS l)), .own sgD, m2, .sh (.int (a : Int)), .own ((fitL l a).map pD), m5']) ∧ Shy m5' := by
  have hstep : ∀ (ks : List Nat) (row : List D) (m5 : M), (∀ k ∈ ks, k < 26) → row.length + ks.length ≤ 900 → Shy m5 → ∃ m5', forGo (gNm 5) b_law_fits_1 (ks.map fun k : Nat => .int (k : Int)) [.sh (.str (sS l)), .own sgD, m2, .sh (.int (a : Int)), .own row, m5] = some (.nx, [.sh (.str (sS l)), .own sgD, m2, .sh (.int (a : Int)), .own (row ++ (ks.map (rowK l a)).flatten), m5']) ∧ Shy m5' := by
    intro ks
    induction ks with
    | nil => intro row m5 _ _ h5; exact ⟨m5, by simp, h5⟩
    | cons k r ih =>
      intro row m5 hk hn h5
      rw [List.length_cons] at hn
      have e := fit_turn (l := l) (m2 := m2) (a := a) (row := row) hl (by omega) h5 (hk k List.mem_cons_self)
      have hrk : (rowK l a k).length ≤ 1 := by unfold rowK; split <;> simp
      obtain ⟨m5', e2, h⟩ := ih (row ++ rowK l a k) (.sh (.int (k : Int))) (fun x hx => hk x (List.mem_cons_of_mem _ hx)) (by rw [List.length_append]; omega) (.sh _)
      refine ⟨m5', ?_, h⟩
      rw [List.map_cons, forGo_cons]
      cases q : gNm 5 (.int (k : Int)) [.sh (.str (sS l)), .own sgD, m2, .sh (.int (a : Int)), .own row, m5] with
      | none => rw [q] at e; cases e
      | some ρ1 =>
        rw [q, bnd_some] at e
        rw [bnd_some, e, bnd_some, forO_nx, e2, List.map_cons, List.flatten_cons, List.append_assoc]
  obtain ⟨m5', e, h⟩ := hstep (List.range 26) [] m5 (fun k hk => List.mem_range.mp hk) (by decide) h5
  rw [rows_range, List.nil_append] at e
  exact ⟨m5', e, h⟩
theorem fit_len (l : List Nat) (a : Nat) : (fitL l a).length ≤ 26 := by
  unfold fitL mt
  rw [List.length_map]
  exact Nat.le_trans (List.length_filter_le _ _) (by decide)
def rowsD (l : List Nat) : List D := (List.range l.length).map fun a => .list ((fitL l a).map pD)
theorem fits_turn {l : List Nat} {rows : List D} {m3 m4 m5 : M} {a : Nat} (hl : l.length ≤ 900) (hn : rows.length ≤ 900) (h3 : Shy m3) (h4 : freeM (some m4) = true) (h5 : Shy m5) :
    ∃ m5', bnd (gNm 3 (.int (a : Int)) [.sh (.str (sS l)), .own sgD, .own rows, m3, m4, m5]) b_law_fits_2 = some (.nx, [.sh (.str (sS l)), .own sgD, .own (rows ++ [.list ((fitL l a).map pD)]), .sh (.int (a : Int)), .sh (.list ((fitL l a).map pD)), m5']) ∧ Shy m5' := by
  obtain ⟨m5', e, hs⟩ := fit_row (l := l) (m2 := .own rows) (m5 := m5) (a := a) (by omega) h5
  have hr : rows.length < lim := lim_lt' (by omega)
  have z0 : (0 : Nat) ≤ lim := Nat.zero_le _
  have z26 : i62 26 = true := by decide
  refine ⟨m5', ?_, hs⟩
  unfold b_law_fits_2
  simp [shy_free h3, h4, z26, e, hr]
theorem fits_ok {l : List Nat} (hl : l.length ≤ 900) : phi_law_fits [.str (sS l)] = some (.fr (rowsD l)) := by
  have hL := lim_of (n := l.length) (by omega)
  have zi : i62 (l.length : Int) = true := i62_of (by omega) (by omega)
  have hstep : ∀ (as : List Nat) (rows : List D) (m3 m4 m5 : M), rows.length + as.length ≤ 900 → Shy m3 → freeM (some m4) = true → Shy m5 → ∃ m3' m4' m5', forGo (gNm 3) b_law_fits_2 (as.map fun k : Nat => .int (k : Int)) [.sh (.str (sS l)), .own sgD, .own rows, m3, m4, m5] = some (.nx, [.sh (.str (sS l)), .own sgD, .own (rows ++ as.map fun a => .list ((fitL l a).map pD)), m3', m4', m5']) := by
    intro as
    induction as with
    | nil => intro rows m3 m4 m5 _ _ _ _; exact ⟨m3, m4, m5, by simp⟩
    | cons a r ih =>
      intro rows m3 m4 m5 hn h3 h4 h5
      rw [List.length_cons] at hn
      obtain ⟨m5', e, hs⟩ := fits_turn (l := l) (rows := rows) (a := a) hl (by omega) h3 h4 h5
      obtain ⟨x3, x4, x5, e2⟩ := ih (rows ++ [.list ((fitL l a).map pD)]) (.sh (.int (a : Int))) (.sh (.list ((fitL l a).map pD))) m5' (by rw [List.length_append, List.length_singleton]; omega) (.sh _) rfl hs
      refine ⟨x3, x4, x5, ?_⟩
      rw [List.map_cons, for_step e, e2, List.map_cons, List.append_assoc]
      rfl
  obtain ⟨x3, x4, x5, e⟩ := hstep (List.range l.length) [] .no .no .no (by simp; omega) .no rfl .no
  rw [← rangeD_0, List.nil_append] at e
  unfold phi_law_fits
  rw [runN_eq (by rfl)]
  unfold m_law_fits
  have z0 : (0 : Nat) ≤ lim := Nat.zero_le _
  simp [signals_ok, hL, zi, e]
  rfl
end Law
/-! k57: readings, counted -/
namespace Law
open PySem PySem.Spec PyProof.Rows L2 Mi
set_option maxRecDepth 100000
set_option maxHeartbeats 1000000
def rdF : Nat → List Nat → List (List Nat)
  | 0, _ => [[]]
  | n + 1, l => if l = [] then [[]] else ((mt l).map fun c => (rdF n (l.drop (sg c).length)).map (c :: ·)).flatten
def R' (l : List Nat) : List (List Nat) := rdF l.length l
theorem mt_al {l : List Nat} {c : Nat} (h : c ∈ mt l) : c ∈ al := (List.mem_filter.mp h).1
theorem mt_pre {l : List Nat} {c : Nat} (h : c ∈ mt l) : sg c <+: l := List.isPrefixOf_iff_prefix.mp (List.mem_filter.mp h).2
theorem mt_len {l : List Nat} {c : Nat} (h : c ∈ mt l) : 1 ≤ (sg c).length ∧ (sg c).length ≤ 4 ∧ (sg c).length ≤ l.length :=
  ⟨(sg_pos c (mt_al h)).1, (sg_pos c (mt_al h)).2, (mt_pre h).length_le⟩
theorem rdF_same : ∀ (n m : Nat) (l : List Nat), l.length ≤ n → l.length ≤ m → rdF n l = rdF m l
  | n, m, [], _, _ => by cases n <;> cases m <;> rfl
  | 0, _, x :: l, h, _ => by simp at h
  | _, 0, x :: l, _, h => by simp at h
  | n + 1, m + 1, x :: l, h1, h2 => by
    unfold rdF
    rw [if_neg (by simp), if_neg (by simp)]
    congr 1
    apply List.map_congr_left
    intro c hc
    have := mt_len hc
    rw [rdF_same n m _ (by rw [List.length_drop]; omega) (by rw [List.length_drop]; omega)]
theorem R_nil : R' [] = [[]] := rfl
theorem R_cons {l : List Nat} (h : l ≠ []) : R' l = ((mt l).map fun c => (R' (l.drop (sg c).length)).map (c :: ·)).flatten := by
  unfold R'
  obtain ⟨x, r, rfl⟩ := List.exists_cons_of_ne_nil h
  rw [List.length_cons]
  conv => lhs; unfold rdF
  rw [if_neg (by simp)]
  congr 1
  apply List.map_congr_left
  intro c hc
  have := mt_len hc
  rw [rdF_same _ _ _ (by rw [List.length_drop, List.length_cons]; omega) (Nat.le_refl _)]
def cnt (l : List Nat) : Nat := (R' l).length
theorem cnt_nil : cnt [] = 1 := rfl
theorem cnt_cons {l : List Nat} (h : l ≠ []) : cnt l = ((mt l).map fun c => cnt (l.drop (sg c).length)).sum := by
  unfold cnt
  rw [R_cons h, List.length_flatten, List.map_map]
  congr 1
  apply List.map_congr_left
  intro c _
  show ((R' _).map _).length = _
  rw [List.length_map]
/-! the shortest -/
def fmin (x : List Nat) (xs : List (List Nat)) : List Nat := xs.foldl (fun a y => if y.length < a.length then y else a) x
def fminL : List (List Nat) → List Nat
  | [] => []
  | x :: xs => fmin x xs
def bwF : Nat → List Nat → List Nat
  | 0, _ => []
  | n + 1, l => if l = [] then [] else fminL ((mt l).map fun c => c :: bwF n (l.drop (sg c).length))
def bw (l : List Nat) : List Nat := bwF l.length l
theorem bwF_same : ∀ (n m : Nat) (l : List Nat), l.length ≤ n → l.length ≤ m → bwF n l = bwF m l
  | n, m, [], _, _ => by cases n <;> cases m <;> rfl
  | 0, _, x :: l, h, _ => by simp at h
  | _, 0, x :: l, _, h => by simp at h
  | n + 1, m + 1, x :: l, h1, h2 => by
    unfold bwF
    rw [if_neg (by simp), if_neg (by simp)]
    congr 1
    apply List.map_congr_left
    intro c hc
    have := mt_len hc
    rw [bwF_same n m _ (by rw [List.length_drop]; omega) (by rw [List.length_drop]; omega)]
theorem bw_nil : bw [] = [] := rfl
theorem bw_cons {l : List Nat} (h : l ≠ []) : bw l = fminL ((mt l).map fun c => c :: bw (l.drop (sg c).length)) := by
  unfold bw
  obtain ⟨x, r, rfl⟩ := List.exists_cons_of_ne_nil h
  rw [List.length_cons]
  conv => lhs; unfold bwF
  rw [if_neg (by simp)]
  congr 1
  apply List.map_congr_left
  intro c hc
  have := mt_len hc
  rw [bwF_same _ _ _ (by rw [List.length_drop, List.length_cons]; omega) (Nat.le_refl _)]
/-- the first of the shortest: its length is the least, it stands where none before is as short -/
theorem fmin_len (xs : List (List Nat)) (x : List Nat) : ((fmin x xs).length : Int) = (xs.map fun y => (y.length : Int)).foldl min (x.length : Int) := by
  unfold fmin
  induction xs generalizing x with
  | nil => rfl
  | cons y r ih =>
    rw [List.foldl_cons, List.map_cons, List.foldl_cons]
    by_cases h : y.length < x.length
    · rw [if_pos h, ih y]
      congr 1
      omega
    · rw [if_neg h, ih x]
      congr 1
      omega
theorem fmin_mem (xs : List (List Nat)) (x : List Nat) : fmin x xs ∈ x :: xs := by
  unfold fmin
  induction xs generalizing x with
  | nil => exact List.mem_cons_self
  | cons y r ih =>
    rw [List.foldl_cons]
    split
    · rcases List.mem_cons.mp (ih y) with h | h
      · rw [h]; exact List.mem_cons_of_mem _ List.mem_cons_self
      · exact List.mem_cons_of_mem _ (List.mem_cons_of_mem _ h)
    · rcases List.mem_cons.mp (ih x) with h | h
      · rw [h]; exact List.mem_cons_self
      · exact List.mem_cons_of_mem _ (List.mem_cons_of_mem _ h)
theorem fmin_le (xs : List (List Nat)) (x : List Nat) : (fmin x xs).length ≤ x.length ∧ ∀ y ∈ xs, (fmin x xs).length ≤ y.length := by
  unfold fmin
  induction xs generalizing x with
  | nil => exact ⟨Nat.le_refl _, fun y h => by cases h⟩
  | cons z r ih =>
    rw [List.foldl_cons]
    split
    · rename_i h
      obtain ⟨h1, h2⟩ := ih z
      refine ⟨by omega, fun y hy => ?_⟩
      rcases List.mem_cons.mp hy with rfl | hy
      · exact h1
      · exact h2 y hy
    · rename_i h
      obtain ⟨h1, h2⟩ := ih x
      refine ⟨h1, fun y hy => ?_⟩
      rcases List.mem_cons.mp hy with rfl | hy
      · omega
      · exact h2 y hy
/-- the first of the least length is found by its length -/
theorem fmin_find (xs : List (List Nat)) (x : List Nat) : (x :: xs).find? (fun y => y.length == (fmin x xs).length) = some (fmin x xs) := by
  have key : ∀ (xs : List (List Nat)) (x : List Nat) (pre : List (List Nat)), (∀ y ∈ pre, x.length < y.length) → (pre ++ x :: xs).find? (fun y => y.length == (fmin x xs).length) = some (fmin x xs) := by
    intro xs
    induction xs with
    | nil =>
      intro x pre h
      rw [List.find?_append]
      have : pre.find? (fun y => y.length == (fmin x []).length) = none := List.find?_eq_none.mpr fun y hy => by
        have := h y hy
        show ¬ (y.length == x.length) = true
        intro e
        have := eq_of_beq e
        omega
      rw [this, Option.none_or]
      simp [fmin]
    | cons z r ih =>
      intro x pre h
      have e : fmin x (z :: r) = if z.length < x.length then fmin z r else fmin x r := by
        unfold fmin
        rw [List.foldl_cons]
        split <;> rfl
      by_cases hz : z.length < x.length
      · rw [e, if_pos hz]
        have := ih z (pre ++ [x]) (fun y hy => by
          rcases List.mem_append.mp hy with hy | hy
          · have := h y hy; omega
          · have : y = x := by simpa using hy
            rw [this]; omega)
        rw [List.append_assoc] at this
        exact this
      · rw [e, if_neg hz]
        have h1 := ih x pre h
        rw [List.find?_append] at h1 ⊢
        cases q : pre.find? (fun y => y.length == (fmin x r).length) with
        | some y =>
          rw [q] at h1
          exact h1
        | none =>
          rw [q] at h1
          rw [Option.none_or] at h1 ⊢
          rw [List.find?_cons] at h1 ⊢
          split
          · rename_i hh
            rw [hh] at h1
            exact h1
          · rename_i hh
            rw [hh] at h1
            rw [List.find?_cons]
            have hle := (fmin_le r x).1
            have hne : (x.length == (fmin x r).length) = false := hh
            have : ¬ x.length = (fmin x r).length := fun e => by rw [e] at hne; simp at hne
            have hz2 : (z.length == (fmin x r).length) = false := by
              apply Bool.eq_false_iff.mpr
              intro e
              have := eq_of_beq e
              omega
            rw [hz2]
            exact h1
  have := key xs x [] (fun y h => by cases h)
  exact this
def Dots (l : List Nat) : Prop := ∀ c ∈ l, c = 46 ∨ c = 45
theorem Dots.drop {l : List Nat} (h : Dots l) (n : Nat) : Dots (l.drop n) := fun c hc => h c (List.mem_of_mem_drop hc)
theorem mt_ne {l : List Nat} (h : Dots l) (hl : l ≠ []) : mt l ≠ [] := by
  obtain ⟨x, r, rfl⟩ := List.exists_cons_of_ne_nil hl
  have : ∃ c, c ∈ mt (x :: r) := by
    rcases h x List.mem_cons_self with rfl | rfl
    · exact ⟨101, List.mem_filter.mpr ⟨by decide, by show List.isPrefixOf [46] (46 :: r) = true; simp [List.isPrefixOf]⟩⟩
    · exact ⟨116, List.mem_filter.mpr ⟨by decide, by show List.isPrefixOf [45] (45 :: r) = true; simp [List.isPrefixOf]⟩⟩
  obtain ⟨c, hc⟩ := this
  exact List.ne_nil_of_mem hc
theorem cnt_pos : ∀ (n : Nat) {l : List Nat}, l.length ≤ n → Dots l → 1 ≤ cnt l
  | _, [], _, _ => by rw [cnt_nil]; exact Nat.le_refl _
  | 0, x :: l, h, _ => by simp at h
  | n + 1, x :: l, h, hd => by
    rw [cnt_cons (by simp)]
    obtain ⟨c, r, e⟩ := List.exists_cons_of_ne_nil (mt_ne hd (by simp))
    rw [e, List.map_cons, List.sum_cons]
    have hc : c ∈ mt (x :: l) := by rw [e]; exact List.mem_cons_self
    have := mt_len hc
    have := cnt_pos n (l := (x :: l).drop (sg c).length) (by rw [List.length_drop]; omega) (hd.drop _)
    omega
end Law
/-! k57: the law's counts -/
namespace Law
open PySem PySem.Spec PyProof.Rows L2 Mi
set_option maxRecDepth 100000
set_option maxHeartbeats 1000000
theorem stepD_succ (lo c : Int) (n : Nat) : stepD lo c (n + 1) = .int lo :: stepD (lo + c) c n := by
  unfold stepD
  rw [List.range_succ_eq_map, List.map_cons, List.map_map]
  congr 1
  · simp
  · apply List.map_congr_left
    intro i _
    show PyData.int (lo + ((i + 1 : Nat) : Int) * c) = PyData.int (lo + c + (i : Int) * c)
    congr 1
    rw [Int.natCast_add, Int.add_mul]
    omega
def manyL (l : List Nat) (a : Nat) : List Int := (List.range (l.length + 1 - a)).map fun i => (cnt (l.drop (a + i)) : Int)
def fewL (l : List Nat) (a : Nat) : List Int := (List.range (l.length + 1 - a)).map fun i => ((bw (l.drop (a + i))).length : Int)
theorem tab_cons {f : Nat → Int} {n a : Nat} (h : a ≤ n) : ((List.range (n + 1 - a)).map fun i => f (a + i)) = f a :: (List.range (n + 1 - (a + 1))).map fun i => f (a + 1 + i) := by
  rw [show n + 1 - a = (n + 1 - (a + 1)) + 1 by omega, List.range_succ_eq_map, List.map_cons, List.map_map]
  congr 1
  apply List.map_congr_left
  intro i _
  show f (a + (i + 1)) = f (a + 1 + i)
  congr 1
  omega
theorem manyL_cons {l : List Nat} {a : Nat} (h : a ≤ l.length) : manyL l a = (cnt (l.drop a) : Int) :: manyL l (a + 1) := tab_cons (f := fun i => (cnt (l.drop i) : Int)) h
theorem fewL_cons {l : List Nat} {a : Nat} (h : a ≤ l.length) : fewL l a = ((bw (l.drop a)).length : Int) :: fewL l (a + 1) := tab_cons (f := fun i => ((bw (l.drop i)).length : Int)) h
theorem manyL_at {l : List Nat} {a i : Nat} (h : a + i ≤ l.length) : atI ((manyL l a).map PyData.int) (i : Int) = some (.int (cnt (l.drop (a + i)) : Int)) := by
  rw [atI_nat']
  unfold manyL
  rw [List.getElem?_map, List.getElem?_map, List.getElem?_range (by omega)]
  rfl
theorem fewL_at {l : List Nat} {a i : Nat} (h : a + i ≤ l.length) : atI ((fewL l a).map PyData.int) (i : Int) = some (.int ((bw (l.drop (a + i))).length : Int)) := by
  rw [atI_nat']
  unfold fewL
  rw [List.getElem?_map, List.getElem?_map, List.getElem?_range (by omega)]
  rfl
theorem tabs_len (l : List Nat) (a : Nat) : (manyL l a).length = l.length + 1 - a ∧ (fewL l a).length = l.length + 1 - a := by
  unfold manyL fewL
  simp
def endD : D → Int
  | .tuple [_, .int e] => e
  | _ => 0
@[simp] theorem endD_p (p : Nat × Nat) : endD (pD p) = (p.2 : Int) := rfl
theorem ends_ok {m0 m1 m2 m4 m5 m6 : M} {l : List Nat} {a : Nat} (h5 : Shy m5) (h6 : Shy m6) :
    lcGo (gTp 2 (gCons' (gNm 5) (gCons' (gNm 6) gNil'))) mYes l_law_counts_3 [5, 6] ((fitL l a).map pD) [m0, m1, m2, .sh (.int (a : Int)), m4, m5, m6] [] = some ((mt (l.drop a)).map fun c => .int (((sg c).length - 1 : Nat) : Int), [m0, m1, m2, .sh (.int (a : Int)), m4, m5, m6]) := by
  have e := lc_pure (gg := gTp 2 (gCons' (gNm 5) (gCons' (gNm 6) gNil'))) (t := mYes) (el := l_law_counts_3) (vs := [5, 6]) (ds := (fitL l a).map pD) (ρ := [m0, m1, m2, .sh (.int (a : Int)), m4, m5, m6]) (fun d => some (.int (endD d - a - 1))) (fun d hd => by
    obtain ⟨p, hp, rfl⟩ := List.mem_map.mp hd
    obtain ⟨c, k⟩ := p
    unfold l_law_counts_3 pD
    simp [strC, endD]) [] (by
      rw [List.length_map]
      have := fit_len l a
      show _ ≤ 1000000
      simp
      omega)
  rw [List.nil_append, filterMap_all, List.map_map] at e
  rw [e]
  congr 2
  unfold fitL
  rw [List.map_map]
  apply List.map_congr_left
  intro c hc
  have := mt_len hc
  show PyData.int (((a + (sg c).length : Nat) : Int) - a - 1) = _
  congr 1
  omega
def intD' : D → Int
  | .int i => i
  | _ => 0
/-- a table read at the ends -/
theorem read_many {m0 m2 m3 m4 m5 m6 : M} {l : List Nat} {a : Nat} (ha : a < l.length) (m1 : M) (h1 : m1 = .own ((manyL l (a + 1)).map .int) ∨ m1 = .sh (.list ((manyL l (a + 1)).map .int))) (h6 : Shy m6) :
    lcGo (gNm 6) mYes l_law_counts_2 [6] ((mt (l.drop a)).map fun c => .int (((sg c).length - 1 : Nat) : Int)) [m0, m1, m2, m3, m4, m5, m6] [] = some (((mt (l.drop a)).map fun c => (cnt ((l.drop a).drop (sg c).length) : Int)).map .int, [m0, m1, m2, m3, m4, m5, m6]) := by
  have e := lc_pure (gg := gNm 6) (t := mYes) (el := l_law_counts_2) (vs := [6]) (ds := (mt (l.drop a)).map fun c => .int (((sg c).length - 1 : Nat) : Int)) (ρ := [m0, m1, m2, m3, m4, m5, m6]) (fun d => some (.int (cnt (l.drop (a + 1 + (intD' d).toNat)) : Int))) (fun d hd => by
    obtain ⟨c, hc, rfl⟩ := List.mem_map.mp hd
    have hl := mt_len hc
    rw [List.length_drop] at hl
    have h := manyL_at (l := l) (a := a + 1) (i := (sg c).length - 1) (by omega)
    have hi : (intD' (.int (((sg c).length - 1 : Nat) : Int))).toNat = (sg c).length - 1 := by show (((sg c).length - 1 : Nat) : Int).toNat = _; omega
    rw [hi]
    generalize (((sg c).length - 1 : Nat) : Int) = z at h ⊢
    unfold l_law_counts_2
    rcases h1 with rfl | rfl
    · simp [h]
    · simp [h]) [] (by
      rw [List.length_map]
      have : (mt (l.drop a)).length ≤ 26 := Nat.le_trans (List.length_filter_le _ _) (by decide)
      show _ ≤ 1000000
      simp
      omega)
  rw [List.nil_append, filterMap_all, List.map_map] at e
  rw [e]
  congr 2
  rw [List.map_map]
  apply List.map_congr_left
  intro c hc
  have := mt_len hc
  show PyData.int (cnt (l.drop (a + 1 + (((sg c).length - 1 : Nat) : Int).toNat)) : Int) = PyData.int (cnt ((l.drop a).drop (sg c).length) : Int)
  rw [List.drop_drop]
  congr 4
  omega
theorem read_few {m0 m1 m3 m4 m5 m6 : M} {l : List Nat} {a : Nat} (ha : a < l.length) (m2 : M) (h1 : m2 = .own ((fewL l (a + 1)).map .int) ∨ m2 = .sh (.list ((fewL l (a + 1)).map .int))) (h6 : Shy m6) :
    lcGo (gNm 6) mYes l_law_counts_1 [6] ((mt (l.drop a)).map fun c => .int (((sg c).length - 1 : Nat) : Int)) [m0, m1, m2, m3, m4, m5, m6] [] = some (((mt (l.drop a)).map fun c => ((bw ((l.drop a).drop (sg c).length)).length : Int)).map .int, [m0, m1, m2, m3, m4, m5, m6]) := by
  have e := lc_pure (gg := gNm 6) (t := mYes) (el := l_law_counts_1) (vs := [6]) (ds := (mt (l.drop a)).map fun c => .int (((sg c).length - 1 : Nat) : Int)) (ρ := [m0, m1, m2, m3, m4, m5, m6]) (fun d => some (.int ((bw (l.drop (a + 1 + (intD' d).toNat))).length : Int))) (fun d hd => by
    obtain ⟨c, hc, rfl⟩ := List.mem_map.mp hd
    have hl := mt_len hc
    rw [List.length_drop] at hl
    have h := fewL_at (l := l) (a := a + 1) (i := (sg c).length - 1) (by omega)
    have hi : (intD' (.int (((sg c).length - 1 : Nat) : Int))).toNat = (sg c).length - 1 := by show (((sg c).length - 1 : Nat) : Int).toNat = _; omega
    rw [hi]
    generalize (((sg c).length - 1 : Nat) : Int) = z at h ⊢
    unfold l_law_counts_1
    rcases h1 with rfl | rfl
    · simp [h]
    · simp [h]) [] (by
      rw [List.length_map]
      have : (mt (l.drop a)).length ≤ 26 := Nat.le_trans (List.length_filter_le _ _) (by decide)
      show _ ≤ 1000000
      simp
      omega)
  rw [List.nil_append, filterMap_all, List.map_map] at e
  rw [e]
  congr 2
  rw [List.map_map]
  apply List.map_congr_left
  intro c hc
  have := mt_len hc
  show PyData.int ((bw (l.drop (a + 1 + (((sg c).length - 1 : Nat) : Int).toNat))).length : Int) = PyData.int ((bw ((l.drop a).drop (sg c).length)).length : Int)
  rw [List.drop_drop]
  congr 5
  omega
theorem sum_cast (f : Nat → Nat) : ∀ l : List Nat, (l.map fun c => (f c : Int)).sum = ((l.map f).sum : Int)
  | [] => rfl
  | c :: r => by rw [List.map_cons, List.sum_cons, List.map_cons, List.sum_cons, sum_cast f r]; omega
theorem few_min {l : List Nat} (h : Dots l) (hl : l ≠ []) : minLD (.list (((mt l).map fun c => ((bw (l.drop (sg c).length)).length : Int)).map .int)) = some (.sh (.int (((bw l).length : Int) - 1))) := by
  obtain ⟨c, r, e⟩ := List.exists_cons_of_ne_nil (mt_ne h hl)
  rw [bw_cons hl, e, List.map_cons, List.map_cons, minLD_ints, List.map_cons]
  have hf := fmin_len (r.map fun c => c :: bw (l.drop (sg c).length)) (c :: bw (l.drop (sg c).length))
  unfold fminL
  rw [hf, List.map_map]
  congr 3
  have key : ∀ (r : List Nat) (z : Int), (r.map fun c => ((bw (l.drop (sg c).length)).length : Int)).foldl min z + 1 = (r.map ((fun y => (y.length : Int)) ∘ fun c => c :: bw (l.drop (sg c).length))).foldl min (z + 1) := by
    intro r
    induction r with
    | nil => intro z; rfl
    | cons x r ih =>
      intro z
      rw [List.map_cons, List.foldl_cons, ih, List.map_cons, List.foldl_cons]
      congr 1
      show _ = min (z + 1) (((x :: bw (l.drop (sg x).length)).length : Nat) : Int)
      rw [List.length_cons]
      omega
  have := key r ((bw (l.drop (sg c).length)).length : Int)
  rw [List.length_cons]
  have e2 : (((bw (l.drop (sg c).length)).length + 1 : Nat) : Int) = ((bw (l.drop (sg c).length)).length : Int) + 1 := by omega
  rw [e2, ← this]
  omega
def TabAt (ns : List Int) (m : M) : Prop := m = .own (ns.map .int) ∨ m = .sh (.list (ns.map .int))
theorem count_turn {l : List Nat} {m1 m2 m3 m4 m5 m6 : M} {a : Nat} (hd : Dots l) (hl : l.length ≤ 900) (ha : a < l.length) (h1 : TabAt (manyL l (a + 1)) m1) (h2 : TabAt (fewL l (a + 1)) m2) (h3 : Shy m3) (h4 : freeM (some m4) = true) (h5 : Shy m5) (h6 : Shy m6) :
    ∃ m4', bnd (gNm 3 (.int (a : Int)) [.sh (.list (rowsD l)), m1, m2, m3, m4, m5, m6]) b_law_counts_1 = some (.nx, [.sh (.list (rowsD l)), .own ((manyL l a).map .int), .own ((fewL l a).map .int), .sh (.int (a : Int)), m4', m5, m6]) ∧ freeM (some m4') = true := by
  have hne : l.drop a ≠ [] := by
    intro e
    have := congrArg List.length e
    rw [List.length_drop] at this
    simp at this
    omega
  have er : atI (rowsD l) (a : Int) = some (.list ((fitL l a).map pD)) := by
    rw [atI_nat']
    unfold rowsD
    rw [List.getElem?_map, List.getElem?_range ha]
    rfl
  have e1 := ends_ok (m0 := .sh (.list (rowsD l))) (m1 := m1) (m2 := m2) (m4 := m4) (l := l) (a := a) h5 h6
  have e2 := read_many (m0 := .sh (.list (rowsD l))) (m2 := m2) (m3 := .sh (.int (a : Int))) (m4 := .sh (.list ((mt (l.drop a)).map fun c => .int (((sg c).length - 1 : Nat) : Int)))) (m5 := m5) ha m1 h1 h6
  have e3 := read_few (m0 := .sh (.list (rowsD l))) (m1 := .own ((manyL l a).map .int)) (m3 := .sh (.int (a : Int))) (m4 := .sh (.list ((mt (l.drop a)).map fun c => .int (((sg c).length - 1 : Nat) : Int)))) (m5 := m5) ha m2 h2 h6
  have e4 := few_min (hd.drop a) hne
  have e5 : (((mt (l.drop a)).map fun c => (cnt ((l.drop a).drop (sg c).length) : Int))).sum = (cnt (l.drop a) : Int) := by
    rw [sum_cast, ← cnt_cons hne]
  have ok5 : okM (some m5) = true := by cases h5 <;> rfl
  have ok6 : okM (some m6) = true := by cases h6 <;> rfl
  have s1 : sumD (.list (((mt (l.drop a)).map fun c => (cnt ((l.drop a).drop (sg c).length) : Int)).map .int)) = some (.sh (.int (cnt (l.drop a) : Int))) := by rw [sumD_l, e5]
  have hm := manyL_cons (l := l) (a := a) (by omega)
  have hf := fewL_cons (l := l) (a := a) (by omega)
  obtain ⟨t1, t2⟩ := tabs_len l (a + 1)
  have z1 : 1 ≤ lim := lim_of (by decide)
  have q1 : 1 + (manyL l (a + 1)).length ≤ lim := lim_of (by omega)
  have q2 : 1 + (fewL l (a + 1)).length ≤ lim := lim_of (by omega)
  refine ⟨.sh (.list ((mt (l.drop a)).map fun c => .int (((sg c).length - 1 : Nat) : Int))), ?_, rfl⟩
  rw [hm, List.map_cons] at e3
  rw [hm, hf, List.map_cons, List.map_cons]
  generalize ((mt (l.drop a)).map fun c => PyData.int (((sg c).length - 1 : Nat) : Int)) = es at e1 e2 e3 ⊢
  generalize (((mt (l.drop a)).map fun c => (cnt ((l.drop a).drop (sg c).length) : Int)).map PyData.int) = xs at e2 s1
  generalize (((mt (l.drop a)).map fun c => ((bw ((l.drop a).drop (sg c).length)).length : Int)).map PyData.int) = ys at e3 e4
  generalize rowsD l = rr at *
  unfold b_law_counts_1
  rcases h1 with rfl | rfl
  · rcases h2 with rfl | rfl
    · simp [shy_free h3, h4, er, e1, e2, e3, e4, ok5, ok6, s1, z1, q1, q2]
      omega
    · simp [shy_free h3, h4, er, e1, e2, e3, e4, ok5, ok6, s1, z1, q1, q2]
      omega
  · rcases h2 with rfl | rfl
    · simp [shy_free h3, h4, er, e1, e2, e3, e4, ok5, ok6, s1, z1, q1, q2]
      omega
    · simp [shy_free h3, h4, er, e1, e2, e3, e4, ok5, ok6, s1, z1, q1, q2]
      omega
theorem counts_ok {l : List Nat} (hd : Dots l) (hl : l.length ≤ 900) : phi_law_counts [.list (rowsD l)] = some (.sh (.tuple [.list ((manyL l 0).map .int), .list ((fewL l 0).map .int)])) := by
  have hstep : ∀ (k : Nat) (m1 m2 m3 m4 m5 m6 : M), k ≤ l.length → TabAt (manyL l k) m1 → TabAt (fewL l k) m2 → Shy m3 → freeM (some m4) = true → Shy m5 → Shy m6 →
      ∃ m1' m2' m3' m4' m5' m6', forGo (gNm 3) b_law_counts_1 (stepD ((k : Int) - 1) (-1) k) [.sh (.list (rowsD l)), m1, m2, m3, m4, m5, m6] = some (.nx, [.sh (.list (rowsD l)), m1', m2', m3', m4', m5', m6']) ∧ TabAt (manyL l 0) m1' ∧ TabAt (fewL l 0) m2' := by
    intro k
    induction k with
    | zero => intro m1 m2 m3 m4 m5 m6 _ h1 h2 _ _ _ _; exact ⟨m1, m2, m3, m4, m5, m6, rfl, h1, h2⟩
    | succ k ih =>
      intro m1 m2 m3 m4 m5 m6 hk h1 h2 h3 h4 h5 h6
      obtain ⟨m4', e, f4⟩ := count_turn (a := k) hd hl (by omega) h1 h2 h3 h4 h5 h6
      obtain ⟨x1, x2, x3, x4, x5, x6, e2, k1, k2⟩ := ih (.own ((manyL l k).map .int)) (.own ((fewL l k).map .int)) (.sh (.int (k : Int))) m4' m5 m6 (by omega) (.inl rfl) (.inl rfl) (.sh _) f4 h5 h6
      refine ⟨x1, x2, x3, x4, x5, x6, ?_, k1, k2⟩
      rw [stepD_succ, show ((k + 1 : Nat) : Int) - 1 = (k : Int) by omega, for_step e, ← e2]
      rfl
  have q1 : manyL l l.length = [1] := by
    unfold manyL
    rw [show l.length + 1 - l.length = 1 by omega]
    show [(cnt (l.drop (l.length + 0)) : Int)] = [1]
    rw [Nat.add_zero, List.drop_length]
    rfl
  have q2 : fewL l l.length = [0] := by
    unfold fewL
    rw [show l.length + 1 - l.length = 1 by omega]
    show [((bw (l.drop (l.length + 0))).length : Int)] = [0]
    rw [Nat.add_zero, List.drop_length]
    rfl
  obtain ⟨x1, x2, x3, x4, x5, x6, e, k1, k2⟩ := hstep l.length (.sh (.list [.int 1])) (.sh (.list [.int 0])) .no .no .no .no (Nat.le_refl _) (by rw [q1]; exact .inr rfl) (by rw [q2]; exact .inr rfl) .no rfl .no .no
  have hr : (rowsD l).length = l.length := by unfold rowsD; simp
  have z1 : 1 ≤ lim := lim_of (by decide)
  have z2 : 2 ≤ lim := lim_of (by decide)
  have zi : i62 ((l.length : Int) - 1) = true := i62_of (by omega) (by omega)
  have zm : i62 (-1) = true := by decide
  have zn : ((l.length : Int) - 1 - (-1)).toNat = l.length := by omega
  unfold phi_law_counts
  rw [runN_eq (by rfl)]
  unfold m_law_counts
  rcases k1 with rfl | rfl
  · rcases k2 with rfl | rfl
    · simp [hr, z1, z2, zi, zm, zn, e]
    · simp [hr, z1, z2, zi, zm, zn, e]
  · rcases k2 with rfl | rfl
    · simp [hr, z1, z2, zi, zm, zn, e]
    · simp [hr, z1, z2, zi, zm, zn, e]
end Law
/-! k57: the law's words by number, the law's shortest -/
namespace Law
open PySem PySem.Spec PyProof.Rows L2 Mi
set_option maxRecDepth 100000
set_option maxHeartbeats 1000000
def tg2 : MG := gTp 2 (gCons' (gNm 7) (gCons' (gNm 8) gNil'))
/-- one letter looked at -/
theorem nth_turn {l : List Nat} {m0 m5 m7 m8 : M} {w : List Nat} {a h c : Nat} {num : Int} (hc : c ∈ mt (l.drop h)) (hh : h ≤ l.length) (hw : w.length ≤ 900) (h7 : Shy m7) (h8 : Shy m8) :
    bnd (tg2 (pD (c, h + (sg c).length)) [m0, .sh (.list ((manyL l 0).map .int)), .sh (.int num), .sh (.str (sS w)), .sh (.int (a : Int)), m5, .sh (.int (h : Int)), m7, m8]) b_law_nth_1 = some (.nx,
      if a = h then (if num < (cnt ((l.drop h).drop (sg c).length) : Int) then [m0, .sh (.list ((manyL l 0).map .int)), .sh (.int num), .sh (.str (sS (w ++ [c]))), .sh (.int ((h + (sg c).length : Nat) : Int)), m5, .sh (.int (h : Int)), .sh (strC c), .sh (.int ((h + (sg c).length : Nat) : Int))]
        else [m0, .sh (.list ((manyL l 0).map .int)), .sh (.int (num - (cnt ((l.drop h).drop (sg c).length) : Int))), .sh (.str (sS w)), .sh (.int (a : Int)), m5, .sh (.int (h : Int)), .sh (strC c), .sh (.int ((h + (sg c).length : Nat) : Int))])
      else [m0, .sh (.list ((manyL l 0).map .int)), .sh (.int num), .sh (.str (sS w)), .sh (.int (a : Int)), m5, .sh (.int (h : Int)), .sh (strC c), .sh (.int ((h + (sg c).length : Nat) : Int))]) := by
  have hl := mt_len hc
  rw [List.length_drop] at hl
  have e := manyL_at (l := l) (a := 0) (i := h + (sg c).length) (by omega)
  rw [Nat.zero_add, ← List.drop_drop] at e
  have z : w.length + 1 ≤ lim := lim_of (by omega)
  rw [List.drop_drop] at e ⊢
  unfold tg2 pD b_law_nth_1 strC
  dsimp only
  generalize ((h + (sg c).length : Nat) : Int) = y at e ⊢
  generalize manyL l 0 = ml at e ⊢
  generalize (cnt (l.drop (h + (sg c).length)) : Int) = n at e ⊢
  by_cases h1 : a = h
  · subst h1
    by_cases h2 : num < n
    · simp [shy_free h7, shy_free h8, e, z, h2]
    · simp [shy_free h7, shy_free h8, e, h2]
  · have h3 : ¬ (a : Int) = (h : Int) := by omega
    simp [shy_free h7, shy_free h8, h1, h3]
theorem nth_skip {l : List Nat} {m0 m5 : M} {w : List Nat} {a h : Nat} {num : Int} (hh : h ≤ l.length) (hw : w.length ≤ 900) (hne : ¬ a = h) : ∀ (cs : List Nat) (m7 m8 : M), (∀ c ∈ cs, c ∈ mt (l.drop h)) → Shy m7 → Shy m8 →
    ∃ m7' m8', forGo tg2 b_law_nth_1 (cs.map fun c => pD (c, h + (sg c).length)) [m0, .sh (.list ((manyL l 0).map .int)), .sh (.int num), .sh (.str (sS w)), .sh (.int (a : Int)), m5, .sh (.int (h : Int)), m7, m8] = some (.nx, [m0, .sh (.list ((manyL l 0).map .int)), .sh (.int num), .sh (.str (sS w)), .sh (.int (a : Int)), m5, .sh (.int (h : Int)), m7', m8']) ∧ Shy m7' ∧ Shy m8'
  | [], m7, m8, _, h7, h8 => ⟨m7, m8, rfl, h7, h8⟩
  | c :: cs, m7, m8, hc, h7, h8 => by
    have e := nth_turn (m0 := m0) (m5 := m5) (w := w) (a := a) (num := num) (hc c List.mem_cons_self) hh hw h7 h8
    rw [if_neg hne] at e
    obtain ⟨x7, x8, e2, k7, k8⟩ := nth_skip (num := num) (m0 := m0) (m5 := m5) hh hw hne cs (.sh (strC c)) (.sh (.int ((h + (sg c).length : Nat) : Int))) (fun x hx => hc x (List.mem_cons_of_mem _ hx)) (.sh _) (.sh _)
    exact ⟨x7, x8, by rw [List.map_cons, for_step e, e2], k7, k8⟩
def cand (l : List Nat) (c : Nat) : List (List Nat) := (R' (l.drop (sg c).length)).map (c :: ·)
theorem cand_len (l : List Nat) (c : Nat) : (cand l c).length = cnt (l.drop (sg c).length) := by unfold cand; rw [List.length_map]; rfl
theorem nth_inner {l : List Nat} {m0 m5 : M} {w : List Nat} {h : Nat} (hh : h ≤ l.length) (hw : w.length < 900) : ∀ (cs : List Nat) (k : Nat) (m7 m8 : M), (∀ c ∈ cs, c ∈ mt (l.drop h)) → k < ((cs.map (cand (l.drop h))).flatten).length → Shy m7 → Shy m8 →
    ∃ (c k' : Nat) (m7' m8' : M), forGo tg2 b_law_nth_1 (cs.map fun c => pD (c, h + (sg c).length)) [m0, .sh (.list ((manyL l 0).map .int)), .sh (.int (k : Int)), .sh (.str (sS w)), .sh (.int (h : Int)), m5, .sh (.int (h : Int)), m7, m8] = some (.nx, [m0, .sh (.list ((manyL l 0).map .int)), .sh (.int (k' : Int)), .sh (.str (sS (w ++ [c]))), .sh (.int ((h + (sg c).length : Nat) : Int)), m5, .sh (.int (h : Int)), m7', m8']) ∧
      Shy m7' ∧ Shy m8' ∧ c ∈ mt (l.drop h) ∧ k' < cnt ((l.drop h).drop (sg c).length) ∧ ((cs.map (cand (l.drop h))).flatten)[k]? = ((R' ((l.drop h).drop (sg c).length))[k']?).map (c :: ·)
  | [], k, m7, m8, _, hk, _, _ => by simp at hk
  | c :: cs, k, m7, m8, hc, hk, h7, h8 => by
    have hcm := hc c List.mem_cons_self
    have hl := mt_len hcm
    have e := nth_turn (m0 := m0) (m5 := m5) (w := w) (a := h) (num := (k : Int)) hcm hh (by omega) h7 h8
    rw [if_pos rfl] at e
    rw [List.map_cons, List.flatten_cons, List.length_append, cand_len] at hk
    by_cases hlt : k < cnt ((l.drop h).drop (sg c).length)
    · rw [if_pos (by omega)] at e
      obtain ⟨x7, x8, e2, k7, k8⟩ := nth_skip (l := l) (m0 := m0) (m5 := m5) (w := w ++ [c]) (a := h + (sg c).length) (h := h) (num := (k : Int)) hh (by rw [List.length_append, List.length_singleton]; omega) (by omega) cs (.sh (strC c)) (.sh (.int ((h + (sg c).length : Nat) : Int))) (fun x hx => hc x (List.mem_cons_of_mem _ hx)) (.sh _) (.sh _)
      refine ⟨c, k, x7, x8, by rw [List.map_cons, for_step e, e2], k7, k8, hcm, hlt, ?_⟩
      rw [List.map_cons, List.flatten_cons, List.getElem?_append_left (by rw [cand_len]; exact hlt)]
      unfold cand
      rw [List.getElem?_map]
    · rw [if_neg (by omega)] at e
      rw [show (k : Int) - (cnt ((l.drop h).drop (sg c).length) : Int) = ((k - cnt ((l.drop h).drop (sg c).length) : Nat) : Int) by omega] at e
      obtain ⟨d, k', x7, x8, e2, k7, k8, hd, hk', e3⟩ := nth_inner (m0 := m0) (m5 := m5) hh hw cs (k - cnt ((l.drop h).drop (sg c).length)) (.sh (strC c)) (.sh (.int ((h + (sg c).length : Nat) : Int))) (fun x hx => hc x (List.mem_cons_of_mem _ hx)) (by omega) (.sh _) (.sh _)
      refine ⟨d, k', x7, x8, by rw [List.map_cons, for_step e, e2], k7, k8, hd, hk', ?_⟩
      rw [List.map_cons, List.flatten_cons, List.getElem?_append_right (by rw [cand_len]; omega), cand_len]
      exact e3
theorem drop_ne {l : List Nat} {a : Nat} (ha : a < l.length) : l.drop a ≠ [] := by
  intro e
  have := congrArg List.length e
  rw [List.length_drop] at this
  simp at this
  omega
theorem rows_at {l : List Nat} {a : Nat} (ha : a < l.length) : atI (rowsD l) (a : Int) = some (.list ((fitL l a).map pD)) := by
  rw [atI_nat']
  unfold rowsD
  rw [List.getElem?_map, List.getElem?_range ha]
  rfl
theorem rows_len (l : List Nat) : (rowsD l).length = l.length := by unfold rowsD; simp
theorem fitL_map (l : List Nat) (a : Nat) : (fitL l a).map pD = (mt (l.drop a)).map fun c => pD (c, a + (sg c).length) := by
  unfold fitL
  rw [List.map_map]
  rfl
theorem nth_step {l : List Nat} {m5 m6 m7 m8 : M} {w : List Nat} {a k : Nat} (d : D) (ha : a < l.length) (hw : w.length < 900) (hk : k < cnt (l.drop a)) (h5 : Shy m5) (h6 : Shy m6) (h7 : Shy m7) (h8 : Shy m8) :
    ∃ (c k' : Nat) (m7' m8' : M), bnd (gNm 5 d [.sh (.list (rowsD l)), .sh (.list ((manyL l 0).map .int)), .sh (.int (k : Int)), .sh (.str (sS w)), .sh (.int (a : Int)), m5, m6, m7, m8]) b_law_nth_2 = some (.nx, [.sh (.list (rowsD l)), .sh (.list ((manyL l 0).map .int)), .sh (.int (k' : Int)), .sh (.str (sS (w ++ [c]))), .sh (.int ((a + (sg c).length : Nat) : Int)), .sh d, .sh (.int (a : Int)), m7', m8']) ∧
      Shy m7' ∧ Shy m8' ∧ c ∈ mt (l.drop a) ∧ k' < cnt (l.drop (a + (sg c).length)) ∧ (R' (l.drop a))[k]? = ((R' (l.drop (a + (sg c).length)))[k']?).map (c :: ·) := by
  have hR := R_cons (drop_ne ha)
  obtain ⟨c, k', x7, x8, e, k7, k8, hc, hk', e3⟩ := nth_inner (l := l) (m0 := .sh (.list (rowsD l))) (m5 := .sh d) (w := w) (h := a) (by omega) hw (mt (l.drop a)) k m7 m8 (fun c h => h) (by
    have : cnt (l.drop a) = (((mt (l.drop a)).map (cand (l.drop a))).flatten).length := by
      unfold cnt
      rw [hR]
      rfl
    omega) h7 h8
  rw [← fitL_map] at e
  have er := rows_at ha
  have hrl := rows_len l
  rw [List.drop_drop] at hk' e3
  refine ⟨c, k', x7, x8, ?_, k7, k8, hc, hk', ?_⟩
  · unfold tg2 at e
    unfold b_law_nth_2
    generalize rowsD l = rr at *
    have hlt : (a : Int) < (l.length : Int) := by omega
    simp [shy_free h5, shy_free h6, hrl, er, hlt, e]
  · rw [hR]
    exact e3
theorem nth_loop {l : List Nat} : ∀ (t : Nat) (ds : List D) (w : List Nat) (a k : Nat) (m5 m6 m7 m8 : M), ds.length = t → a ≤ l.length → l.length ≤ a + t → w.length + (l.length - a) < 900 → k < cnt (l.drop a) → Shy m5 → Shy m6 → Shy m7 → Shy m8 →
    ∃ (u : List Nat) (ρ' : En), forGo (gNm 5) b_law_nth_2 ds [.sh (.list (rowsD l)), .sh (.list ((manyL l 0).map .int)), .sh (.int (k : Int)), .sh (.str (sS w)), .sh (.int (a : Int)), m5, m6, m7, m8] = some (.nx, ρ') ∧ ρ'[3]? = some (.sh (.str (sS (w ++ u)))) ∧ ρ'.length = 9 ∧ (R' (l.drop a))[k]? = some u
  | 0, ds, w, a, k, m5, m6, m7, m8, hd, h1, h2, _, hk, _, _, _, _ => by
    have : ds = [] := List.eq_nil_of_length_eq_zero hd
    subst this
    have : a = l.length := by omega
    subst this
    rw [List.drop_length] at hk ⊢
    rw [cnt_nil] at hk
    have : k = 0 := by omega
    subst this
    exact ⟨[], _, rfl, by simp, rfl, rfl⟩
  | t + 1, [], _, _, _, _, _, _, _, hd, _, _, _, _, _, _, _, _ => by simp at hd
  | t + 1, d :: ds, w, a, k, m5, m6, m7, m8, hd, h1, h2, hw, hk, h5, h6, h7, h8 => by
    by_cases ha : a < l.length
    · obtain ⟨c, k', x7, x8, e, k7, k8, hc, hk', e3⟩ := nth_step (l := l) (w := w) (a := a) (k := k) d ha (by omega) hk h5 h6 h7 h8
      have hl := mt_len hc
      rw [List.length_drop] at hl
      obtain ⟨u, ρ', e4, q3, q9, e5⟩ := nth_loop t ds (w ++ [c]) (a + (sg c).length) k' (.sh d) (.sh (.int (a : Int))) x7 x8 (by simpa using hd) (by omega) (by omega) (by rw [List.length_append, List.length_singleton]; omega) hk' (.sh _) (.sh _) k7 k8
      refine ⟨c :: u, ρ', by rw [for_step e, e4], by rw [q3, List.append_assoc]; rfl, q9, ?_⟩
      rw [e3, e5]
      rfl
    · have hae : a = l.length := by omega
      have e : bnd (gNm 5 d [.sh (.list (rowsD l)), .sh (.list ((manyL l 0).map .int)), .sh (.int (k : Int)), .sh (.str (sS w)), .sh (.int (a : Int)), m5, m6, m7, m8]) b_law_nth_2 = some (.nx, [.sh (.list (rowsD l)), .sh (.list ((manyL l 0).map .int)), .sh (.int (k : Int)), .sh (.str (sS w)), .sh (.int (a : Int)), .sh d, m6, m7, m8]) := by
        have hrl := rows_len l
        have hlt : ¬ (a : Int) < (l.length : Int) := by omega
        unfold b_law_nth_2
        simp [shy_free h5, hrl, hlt]
      obtain ⟨u, ρ', e4, q3, q9, e5⟩ := nth_loop t ds w a k (.sh d) m6 m7 m8 (by simpa using hd) h1 (by omega) hw hk (.sh _) h6 h7 h8
      exact ⟨u, ρ', by rw [for_step e, e4], q3, q9, e5⟩
theorem slots9 {ρ : En} (h : ρ.length = 9) : ∃ a0 a1 a2 a3 a4 a5 a6 a7 a8, ρ = [a0, a1, a2, a3, a4, a5, a6, a7, a8] := by
  match ρ, h with
  | [a0, a1, a2, a3, a4, a5, a6, a7, a8], _ => exact ⟨_, _, _, _, _, _, _, _, _, rfl⟩
theorem nth_ok {l : List Nat} {k : Nat} (hl : l.length < 900) (hk : k < cnt l) : ∃ u, (R' l)[k]? = some u ∧ phi_law_nth [.list (rowsD l), .list ((manyL l 0).map .int), .int (k : Int)] = some (.sh (.str (sS u))) := by
  obtain ⟨u, ρ', e, q3, q9, e5⟩ := nth_loop (l := l) l.length (rangeD 0 (l.length : Int)) [] 0 k .no .no .no .no (by rw [rangeD_len]; omega) (Nat.zero_le _) (by omega) (by simp; omega) (by simpa using hk) .no .no .no .no
  obtain ⟨a0, a1, a2, a3, a4, a5, a6, a7, a8, rfl⟩ := slots9 q9
  have q3 : a3 = .sh (.str (sS u)) := by simpa using q3
  subst q3
  refine ⟨u, by simpa using e5, ?_⟩
  have hrl := rows_len l
  have zi : i62 (l.length : Int) = true := i62_of (by omega) (by omega)
  have z2 : 2 ≤ lim := lim_of (by decide)
  unfold phi_law_nth
  rw [runN_eq (by rfl)]
  unfold m_law_nth
  rw [join_empty]
  simp at e
  simp [hrl, zi, z2, e]
end Law
/-! k57: the shortest word, by the law and by the program -/
namespace Law
open PySem PySem.Spec PyProof.Rows L2 Mi
open PySem.W (alike alikeAll dataLt AlikeAll minD maxD dataLt_pair dataLt_int dataLt_str)
set_option maxRecDepth 100000
set_option maxHeartbeats 1000000
/-- the first letter that leads to a shortest word -/
theorem short_find {m : List Nat} (hd : Dots m) (hm : m ≠ []) : ∃ c, c ∈ mt m ∧ (mt m).find? (fun c => (bw (m.drop (sg c).length)).length + 1 == (bw m).length) = some c ∧ bw m = c :: bw (m.drop (sg c).length) := by
  obtain ⟨x, r, e⟩ := List.exists_cons_of_ne_nil (mt_ne hd hm)
  have hb := bw_cons hm
  have hf := fmin_find (r.map fun c => c :: bw (m.drop (sg c).length)) (x :: bw (m.drop (sg x).length))
  rw [e] at hb ⊢
  rw [List.map_cons] at hb
  have hb2 : bw m = fmin (x :: bw (m.drop (sg x).length)) (r.map fun c => c :: bw (m.drop (sg c).length)) := hb
  rw [← hb2, ← List.map_cons (f := fun c => c :: bw (m.drop (sg c).length)), List.find?_map] at hf
  obtain ⟨c, h1, h2⟩ := opt_map hf
  have h1' : (x :: r).find? (fun c => (bw (m.drop (sg c).length)).length + 1 == (bw m).length) = some c := h1
  exact ⟨c, List.mem_of_find?_eq_some h1', h1', h2.symm⟩
def tShort (l : List Nat) (a : Nat) : D → Option D
  | .tuple [x, .int e] => if ((bw (l.drop e.toNat)).length : Int) = (bw (l.drop a)).length - 1 then some (.tuple [x, .int e]) else none
  | _ => none
theorem shortest_list {m0 m2 m4 m5 m6 : M} {l : List Nat} {a : Nat} (ha : a ≤ l.length) (h5 : Shy m5) (h6 : Shy m6) :
    lcGo (gTp 2 (gCons' (gNm 5) (gCons' (gNm 6) gNil'))) t_law_shortest_1 l_law_shortest_1 [5, 6] ((fitL l a).map pD) [m0, .sh (.list ((fewL l 0).map .int)), m2, .sh (.int (a : Int)), m4, m5, m6] [] = some (((mt (l.drop a)).filter fun c => (bw ((l.drop a).drop (sg c).length)).length + 1 == (bw (l.drop a)).length).map fun c => pD (c, a + (sg c).length), [m0, .sh (.list ((fewL l 0).map .int)), m2, .sh (.int (a : Int)), m4, m5, m6]) := by
  have z2 : 2 ≤ lim := lim_of (by decide)
  have ha' := fewL_at (l := l) (a := 0) (i := a) (by omega)
  rw [Nat.zero_add] at ha'
  have e := lc_pure (gg := gTp 2 (gCons' (gNm 5) (gCons' (gNm 6) gNil'))) (t := t_law_shortest_1) (el := l_law_shortest_1) (vs := [5, 6]) (ds := (fitL l a).map pD) (ρ := [m0, .sh (.list ((fewL l 0).map .int)), m2, .sh (.int (a : Int)), m4, m5, m6]) (tShort l a) (fun d hd => by
    obtain ⟨p, hp, rfl⟩ := List.mem_map.mp hd
    unfold fitL at hp
    obtain ⟨c, hc, rfl⟩ := List.mem_map.mp hp
    have hl := mt_len hc
    rw [List.length_drop] at hl
    have he := fewL_at (l := l) (a := 0) (i := a + (sg c).length) (by omega)
    rw [Nat.zero_add] at he
    have ht : ((a + (sg c).length : Nat) : Int).toNat = a + (sg c).length := by omega
    unfold t_law_shortest_1 l_law_shortest_1 pD tShort strC
    dsimp only
    rw [ht]
    generalize ((a + (sg c).length : Nat) : Int) = y at he ⊢
    generalize fewL l 0 = fl at *
    by_cases h : ((bw (l.drop (a + (sg c).length))).length : Int) = (bw (l.drop a)).length - 1
    · simp [ha', he, h, z2]
    · simp [ha', he, h]) [] (by
      rw [List.length_map]
      have := fit_len l a
      show _ ≤ 1000000
      simp
      omega)
  rw [List.nil_append] at e
  rw [e]
  congr 2
  rw [fitL_map, List.filterMap_map]
  have key : ∀ cs : List Nat, cs.filterMap (tShort l a ∘ fun c => pD (c, a + (sg c).length)) = (cs.filter fun c => (bw ((l.drop a).drop (sg c).length)).length + 1 == (bw (l.drop a)).length).map fun c => pD (c, a + (sg c).length) := by
    intro cs
    induction cs with
    | nil => rfl
    | cons c r ih =>
      rw [List.filterMap_cons, List.filter_cons, ih]
      have et : (tShort l a ∘ fun c => pD (c, a + (sg c).length)) c = if ((bw (l.drop (a + (sg c).length))).length : Int) = (bw (l.drop a)).length - 1 then some (pD (c, a + (sg c).length)) else none := by
        show (if ((bw (l.drop ((a + (sg c).length : Nat) : Int).toNat)).length : Int) = (bw (l.drop a)).length - 1 then _ else _) = _
        rw [Int.toNat_natCast]
        rfl
      rw [et, List.drop_drop]
      by_cases h : ((bw (l.drop (a + (sg c).length))).length : Int) = (bw (l.drop a)).length - 1
      · have h2 : ((bw (l.drop (a + (sg c).length))).length + 1 == (bw (l.drop a)).length) = true := beq_iff_eq.mpr (by omega)
        rw [if_pos h, if_pos h2]
        rfl
      · have h2 : ¬ ((bw (l.drop (a + (sg c).length))).length + 1 == (bw (l.drop a)).length) = true := fun e => h (by have := eq_of_beq e; omega)
        rw [if_neg h, if_neg h2]
  exact key _
theorem filter_head {α : Type} (p : α → Bool) : ∀ xs : List α, (xs.filter p)[0]? = xs.find? p
  | [] => rfl
  | x :: r => by
    rw [List.filter_cons, List.find?_cons]
    by_cases h : p x = true
    · rw [if_pos h, h]; rfl
    · rw [if_neg h, Bool.eq_false_iff.mpr h]; exact filter_head p r
theorem short_step {l : List Nat} {m4 m5 m6 : M} {w : List Nat} {a : Nat} (d : D) (hd : Dots l) (ha : a < l.length) (hw : w.length < 900) (h4 : Shy m4) (h5 : Shy m5) (h6 : Shy m6) :
    ∃ (c : Nat), bnd (gNm 4 d [.sh (.list (rowsD l)), .sh (.list ((fewL l 0).map .int)), .sh (.str (sS w)), .sh (.int (a : Int)), m4, m5, m6]) b_law_shortest_1 = some (.nx, [.sh (.list (rowsD l)), .sh (.list ((fewL l 0).map .int)), .sh (.str (sS (w ++ [c]))), .sh (.int ((a + (sg c).length : Nat) : Int)), .sh d, .sh (strC c), .sh (.int ((a + (sg c).length : Nat) : Int))]) ∧ c ∈ mt (l.drop a) ∧ bw (l.drop a) = c :: bw (l.drop (a + (sg c).length)) := by
  obtain ⟨c, hc, hf, hb⟩ := short_find (hd.drop a) (drop_ne ha)
  have e := shortest_list (m0 := .sh (.list (rowsD l))) (m2 := .sh (.str (sS w))) (m4 := .sh d) (l := l) (a := a) (by omega) h5 h6
  have e0 : (((mt (l.drop a)).filter fun c => (bw ((l.drop a).drop (sg c).length)).length + 1 == (bw (l.drop a)).length).map fun c => pD (c, a + (sg c).length))[0]? = some (pD (c, a + (sg c).length)) := by
    rw [List.getElem?_map, filter_head, hf]
    rfl
  have er := rows_at ha
  have hrl := rows_len l
  rw [List.drop_drop] at hb
  refine ⟨c, ?_, hc, hb⟩
  have hlt : (a : Int) < (l.length : Int) := by omega
  have ok5 : okM (some m5) = true := by cases h5 <;> rfl
  have ok6 : okM (some m6) = true := by cases h6 <;> rfl
  have z2 : 2 ≤ lim := lim_of (by decide)
  have z1 : w.length + 1 ≤ lim := lim_of (by omega)
  generalize (((mt (l.drop a)).filter fun c => (bw ((l.drop a).drop (sg c).length)).length + 1 == (bw (l.drop a)).length).map fun c => pD (c, a + (sg c).length)) = fs at e e0
  generalize rowsD l = rr at *
  unfold pD at e0
  dsimp only at e0
  unfold strC at e0 ⊢
  generalize ((a + (sg c).length : Nat) : Int) = y at e0 ⊢
  unfold b_law_shortest_1
  simp [shy_free h4, shy_free h5, shy_free h6, ok5, ok6, hrl, er, hlt, e, e0, z1, z2]
theorem short_loop {l : List Nat} (hd : Dots l) : ∀ (t : Nat) (ds : List D) (w : List Nat) (a : Nat) (m4 m5 m6 : M), ds.length = t → a ≤ l.length → l.length ≤ a + t → w.length + (l.length - a) < 900 → Shy m4 → Shy m5 → Shy m6 →
    ∃ (a' : Nat) (m4' m5' m6' : M), forGo (gNm 4) b_law_shortest_1 ds [.sh (.list (rowsD l)), .sh (.list ((fewL l 0).map .int)), .sh (.str (sS w)), .sh (.int (a : Int)), m4, m5, m6] = some (.nx, [.sh (.list (rowsD l)), .sh (.list ((fewL l 0).map .int)), .sh (.str (sS (w ++ bw (l.drop a)))), .sh (.int (a' : Int)), m4', m5', m6'])
  | 0, ds, w, a, m4, m5, m6, h0, h1, h2, _, _, _, _ => by
    have : ds = [] := List.eq_nil_of_length_eq_zero h0
    subst this
    have : a = l.length := by omega
    subst this
    rw [List.drop_length, bw_nil, List.append_nil]
    exact ⟨_, _, _, _, rfl⟩
  | t + 1, [], _, _, _, _, _, h0, _, _, _, _, _, _ => by simp at h0
  | t + 1, d :: ds, w, a, m4, m5, m6, h0, h1, h2, hw, h4, h5, h6 => by
    by_cases ha : a < l.length
    · obtain ⟨c, e, hc, hb⟩ := short_step (l := l) (w := w) (a := a) d hd ha (by omega) h4 h5 h6
      have hl := mt_len hc
      rw [List.length_drop] at hl
      obtain ⟨a', x4, x5, x6, e2⟩ := short_loop hd t ds (w ++ [c]) (a + (sg c).length) (.sh d) (.sh (strC c)) (.sh (.int ((a + (sg c).length : Nat) : Int))) (by simpa using h0) (by omega) (by omega) (by rw [List.length_append, List.length_singleton]; omega) (.sh _) (.sh _) (.sh _)
      refine ⟨a', x4, x5, x6, ?_⟩
      rw [for_step e, e2, hb, List.append_assoc]
      rfl
    · have hae : a = l.length := by omega
      have e : bnd (gNm 4 d [.sh (.list (rowsD l)), .sh (.list ((fewL l 0).map .int)), .sh (.str (sS w)), .sh (.int (a : Int)), m4, m5, m6]) b_law_shortest_1 = some (.nx, [.sh (.list (rowsD l)), .sh (.list ((fewL l 0).map .int)), .sh (.str (sS w)), .sh (.int (a : Int)), .sh d, m5, m6]) := by
        have hrl := rows_len l
        have hlt : ¬ (a : Int) < (l.length : Int) := by omega
        unfold b_law_shortest_1
        simp [shy_free h4, hrl, hlt]
      obtain ⟨a', x4, x5, x6, e2⟩ := short_loop hd t ds w a (.sh d) m5 m6 (by simpa using h0) h1 (by omega) hw (.sh _) h5 h6
      exact ⟨a', x4, x5, x6, by rw [for_step e, e2]⟩
theorem shortest_ok {l : List Nat} (hd : Dots l) (hl : l.length < 900) : phi_law_shortest [.list (rowsD l), .list ((fewL l 0).map .int)] = some (.sh (.str (sS (bw l)))) := by
  obtain ⟨a', x4, x5, x6, e⟩ := short_loop hd l.length (rangeD 0 (l.length : Int)) [] 0 .no .no .no (by rw [rangeD_len]; omega) (Nat.zero_le _) (by omega) (by simp; omega) .no .no .no
  have hrl := rows_len l
  have zi : i62 (l.length : Int) = true := i62_of (by omega) (by omega)
  have z2 : 2 ≤ lim := lim_of (by decide)
  unfold phi_law_shortest
  rw [runN_eq (by rfl)]
  unfold m_law_shortest
  rw [join_empty]
  simp at e
  simp [hrl, zi, z2, e]
/-! the program's -/
def cwD (w : List Nat) : D := .tuple [.int (w.length : Int), .str (sS w)]
theorem lt_cw (x y : List Nat) : dataLt (cwD x) (cwD y) = decide (x.length < y.length ∨ (x.length = y.length ∧ x < y)) := by
  unfold cwD
  rw [dataLt_pair (by simp [alike]) (by simp [alike]), dataLt_int, dataLt_str]
  simp only [PyData.eqv, beq_iff_eq]
  rw [sS_list, sS_list]
  by_cases h1 : x.length = y.length
  · by_cases h2 : x = y
    · subst h2; simp [List.lt_irrefl]
    · have : ¬ sS x = sS y := fun e => h2 (sS_inj.mp e)
      simp [h1, this]
  · have : ¬ (x.length : Int) = (y.length : Int) := by omega
    simp [h1, this]
/-- the least is the one below all others -/
theorem minD_of {x : D} : ∀ {ds : List D} {a : D}, x ∈ a :: ds → (∀ y ∈ a :: ds, y = x ∨ (dataLt x y = true ∧ dataLt y x = false)) → (dataLt x x = false) → minD a ds = x := by
  intro ds
  induction ds with
  | nil =>
    intro a hm _ _
    have : x = a := by simpa using hm
    rw [this]
    rfl
  | cons b r ih =>
    intro a hm h hxx
    show minD (if dataLt b a then b else a) r = x
    by_cases hb : dataLt b a = true
    · rw [if_pos hb]
      refine ih ?_ (fun y hy => ?_) hxx
      · rcases List.mem_cons.mp hm with e | hm
        · subst e
          rcases h b (List.mem_cons_of_mem _ List.mem_cons_self) with e | e
          · rw [e]; exact List.mem_cons_self
          · rw [e.2] at hb; cases hb
        · exact hm
      · exact h y (List.mem_cons_of_mem _ hy)
    · rw [if_neg hb]
      refine ih ?_ (fun y hy => ?_) hxx
      · rcases List.mem_cons.mp hm with e | hm
        · rw [e]; exact List.mem_cons_self
        · rcases List.mem_cons.mp hm with e | hm
          · subst e
            rcases h a List.mem_cons_self with e | e
            · rw [e]; exact List.mem_cons_self
            · exact absurd e.1 hb
          · exact List.mem_cons_of_mem _ hm
      · rcases List.mem_cons.mp hy with e | hy
        · rw [e]; exact h a List.mem_cons_self
        · exact h y (List.mem_cons_of_mem _ (List.mem_cons_of_mem _ hy))
theorem best_cw (ws : List (List Nat)) : bestOk (ws.map cwD) = true := by
  have h : ∀ d ∈ ws.map cwD, ∃ i, d = cwD i := fun d hd => by
    obtain ⟨i, _, rfl⟩ := List.mem_map.mp hd
    exact ⟨i, rfl⟩
  refine bestOk_of (fun d hd => ?_) (fun d hd e he => ?_) (fun d hd => ?_) (fun d hd => ?_)
  · obtain ⟨i, rfl⟩ := h d hd; rfl
  · obtain ⟨i, rfl⟩ := h d hd; obtain ⟨j, rfl⟩ := h e he; rfl
  · obtain ⟨i, rfl⟩ := h d hd; rfl
  · obtain ⟨i, rfl⟩ := h d hd; exact (by decide : 1 ≤ 60)
theorem minLD_cw {x : List Nat} {ws : List (List Nat)} (hm : x ∈ ws) (h : ∀ y ∈ ws, y = x ∨ (x.length < y.length ∨ (x.length = y.length ∧ x < y))) : minLD (.list (ws.map cwD)) = some (.sh (cwD x)) := by
  obtain ⟨a, r, rfl⟩ := List.exists_cons_of_ne_nil (List.ne_nil_of_mem hm)
  rw [List.map_cons]
  show (if bestOk (cwD a :: r.map cwD) = true then some (R.sh (minD (cwD a) (r.map cwD))) else none) = _
  rw [if_pos (show bestOk (cwD a :: r.map cwD) = true from best_cw (a :: r))]
  congr 2
  refine minD_of (by rw [← List.map_cons]; exact List.mem_map_of_mem hm) (fun d hd => ?_) (by rw [lt_cw]; simp [List.lt_irrefl])
  rw [← List.map_cons] at hd
  obtain ⟨y, hy, rfl⟩ := List.mem_map.mp hd
  rcases h y hy with e | e
  · exact .inl (by rw [e])
  · refine .inr ⟨by rw [lt_cw]; exact decide_eq_true e, ?_⟩
    rw [lt_cw]
    apply decide_eq_false
    intro e2
    rcases e with e | ⟨e, e'⟩
    · omega
    · rcases e2 with e2 | ⟨_, e2'⟩
      · omega
      · exact List.lt_irrefl x (List.lt_trans e' e2')
end Law
/-! k57: the program's shortest word -/
namespace Law
open PySem PySem.Spec PyProof.Rows L2 Mi
set_option maxRecDepth 100000
set_option maxHeartbeats 1000000
theorem al_sorted : al.Pairwise (· < ·) := by decide +kernel
theorem lto_some {x : List Nat} {c : Nat} (h : lto x = some c) : c ∈ al ∧ sg c = x := ⟨List.mem_of_find?_eq_some h, eq_of_beq (by simpa using List.find?_some h)⟩
theorem lto_sg {c : Nat} (h : c ∈ al) : lto (sg c) = some c := by
  cases e : lto (sg c) with
  | none =>
    have := List.find?_eq_none.mp e c h
    simp at this
  | some d =>
    obtain ⟨h1, h2⟩ := lto_some e
    rw [sg_inj d h1 c h h2]
/-- the letter of the next s signs -/
def nx (m : List Nat) (s : Nat) : List Nat := if s ≤ m.length then (match lto (m.take s) with | some c => [c] | none => []) else []
theorem nx_mem {m : List Nat} {s c : Nat} (h : c ∈ nx m s) : c ∈ mt m ∧ (sg c).length = s := by
  unfold nx at h
  by_cases hs : s ≤ m.length
  · rw [if_pos hs] at h
    cases e : lto (m.take s) with
    | none => rw [e] at h; cases h
    | some d =>
      rw [e] at h
      have : c = d := by simpa using h
      subst this
      obtain ⟨h1, h2⟩ := lto_some e
      have hl : (sg c).length = s := by rw [h2, List.length_take]; omega
      refine ⟨List.mem_filter.mpr ⟨h1, List.isPrefixOf_iff_prefix.mpr ?_⟩, hl⟩
      rw [List.prefix_iff_eq_take, hl, h2]
  · rw [if_neg hs] at h
    cases h
theorem mem_nx {m : List Nat} {c : Nat} (h : c ∈ mt m) : c ∈ nx m (sg c).length := by
  have hl := mt_len h
  unfold nx
  rw [if_pos hl.2.2, ← List.prefix_iff_eq_take.mp (mt_pre h), lto_sg (mt_al h)]
  exact List.mem_singleton_self _
def nxs (m : List Nat) : List Nat := nx m 1 ++ (nx m 2 ++ (nx m 3 ++ nx m 4))
theorem mem_nxs {m : List Nat} {c : Nat} : c ∈ nxs m ↔ c ∈ mt m := by
  unfold nxs
  constructor
  · intro h
    rcases List.mem_append.mp h with h | h
    · exact (nx_mem h).1
    · rcases List.mem_append.mp h with h | h
      · exact (nx_mem h).1
      · rcases List.mem_append.mp h with h | h
        · exact (nx_mem h).1
        · exact (nx_mem h).1
  · intro h
    have hl := mt_len h
    have hn := mem_nx h
    have : (sg c).length = 1 ∨ (sg c).length = 2 ∨ (sg c).length = 3 ∨ (sg c).length = 4 := by omega
    rcases this with e | e | e | e <;> rw [e] at hn <;> simp [hn]
theorem best_least {m : List Nat} (hd : Dots m) (hm : m ≠ []) : minLD (.list (((nxs m).map fun c => c :: bw (m.drop (sg c).length)).map cwD)) = some (.sh (cwD (bw m))) := by
  obtain ⟨c0, hc0, hf, hb⟩ := short_find hd hm
  refine minLD_cw ?_ (fun y hy => ?_)
  · rw [hb]
    exact List.mem_map.mpr ⟨c0, mem_nxs.mpr hc0, rfl⟩
  · obtain ⟨c, hc, rfl⟩ := List.mem_map.mp hy
    have hcm := mem_nxs.mp hc
    -- no shorter
    have hle : (bw m).length ≤ (bw (m.drop (sg c).length)).length + 1 := by
      have e := bw_cons hm
      obtain ⟨x, r, ex⟩ := List.exists_cons_of_ne_nil (List.ne_nil_of_mem hcm)
      rw [ex, List.map_cons] at e
      have h := fmin_le (r.map fun c => c :: bw (m.drop (sg c).length)) (x :: bw (m.drop (sg x).length))
      have e' : bw m = fmin (x :: bw (m.drop (sg x).length)) (r.map fun c => c :: bw (m.drop (sg c).length)) := e
      rw [← e'] at h
      rw [ex] at hcm
      rcases List.mem_cons.mp hcm with rfl | hr
      · simpa using h.1
      · simpa using h.2 _ (List.mem_map.mpr ⟨c, hr, rfl⟩)
    by_cases h1 : (bw m).length < (bw (m.drop (sg c).length)).length + 1
    · exact .inr (.inl (by simpa using h1))
    · by_cases hcc : c = c0
      · left
        rw [hcc, ← hb]
      · right
        right
        have hlen : (bw m).length = (bw (m.drop (sg c).length)).length + 1 := by omega
        refine ⟨by simpa using hlen, ?_⟩
        rw [hb]
        refine List.cons_lt_cons_iff.mpr (.inl ?_)
        -- c0 comes first in the alphabet
        have hs : (mt m).Pairwise (· < ·) := al_sorted.filter _
        rw [List.find?_eq_some_iff_append] at hf
        obtain ⟨_, as, bs, e, hno⟩ := hf
        rw [e] at hcm hs
        rcases List.mem_append.mp hcm with h | h
        · have := hno c h
          rw [hlen] at this
          simp at this
        · rcases List.mem_cons.mp h with h | h
          · exact absurd h hcc
          · have := (List.pairwise_append.mp hs).2.1
            exact (List.pairwise_cons.mp this).1 c h
def bestL (l : List Nat) (a : Nat) : List (List Nat) := (List.range (l.length + 1 - a)).map fun k => bw (l.drop (l.length - k))
theorem bestL_snoc {l : List Nat} {a : Nat} (h : a < l.length) : bestL l a = bestL l (a + 1) ++ [bw (l.drop a)] := by
  unfold bestL
  rw [show l.length + 1 - a = (l.length + 1 - (a + 1)) + 1 by omega, List.range_succ, List.map_append]
  congr 1
  show [bw (l.drop (l.length - (l.length + 1 - (a + 1))))] = _
  congr 3
  omega
theorem bestL_at {l : List Nat} {a e : Nat} (h : a ≤ e) (he : e ≤ l.length) : atI ((bestL l a).map cwD) ((l.length - e : Nat) : Int) = some (cwD (bw (l.drop e))) := by
  rw [atI_nat']
  unfold bestL
  rw [List.getElem?_map, List.getElem?_map, List.getElem?_range (by omega)]
  show some (cwD (bw (l.drop (l.length - (l.length - e))))) = _
  rw [show l.length - (l.length - e) = e by omega]
theorem bw_len : ∀ (n : Nat) (l : List Nat), l.length ≤ n → (bw l).length ≤ l.length
  | _, [], _ => by rw [bw_nil]; simp
  | 0, x :: l, h => by simp at h
  | n + 1, x :: l, h => by
    rw [bw_cons (by simp)]
    cases e : mt (x :: l) with
    | nil => show ([] : List Nat).length ≤ _; simp
    | cons c r =>
      have hm := fmin_mem (r.map fun c => c :: bw ((x :: l).drop (sg c).length)) (c :: bw ((x :: l).drop (sg c).length))
      rw [← List.map_cons (f := fun c => c :: bw ((x :: l).drop (sg c).length)), ← e] at hm
      obtain ⟨d, hd, e2⟩ := List.mem_map.mp hm
      have e3 : fminL ((mt (x :: l)).map fun c => c :: bw ((x :: l).drop (sg c).length)) = d :: bw ((x :: l).drop (sg d).length) := by
        rw [e]
        exact e2.symm
      rw [← e, e3]
      have hl := mt_len hd
      have := bw_len n ((x :: l).drop (sg d).length) (by rw [List.length_drop]; omega)
      rw [List.length_drop] at this
      rw [List.length_cons]
      omega
theorem size_turn {l : List Nat} {m4 m5 m6 m7 : M} {a s : Nat} {rows : List (List Nat)} (ha : a < l.length) (hl : l.length ≤ 900) (hs : 1 ≤ s) (hr : rows.length ≤ 900) (h4 : Shy m4) (h5 : Shy m5) (h6 : Shy m6) (h7 : Shy m7) :
    ∃ m5' m6' m7', bnd (gNm 4 (.int (s : Int)) [.sh (.str (sS l)), .own ((bestL l (a + 1)).map cwD), .sh (.int ((a + 1 : Nat) : Int)), .own (rows.map cwD), m4, m5, m6, m7]) b_shortest_word_1 = some (.nx, [.sh (.str (sS l)), .own ((bestL l (a + 1)).map cwD), .sh (.int ((a + 1 : Nat) : Int)), .own ((rows ++ (nx (l.drop a) s).map fun c => c :: bw ((l.drop a).drop (sg c).length)).map cwD), .sh (.int (s : Int)), m5', m6', m7']) ∧ Shy m5' ∧ Shy m6' ∧ Shy m7' := by
  have hL := lim_of (n := l.length) (by omega)
  have e1 : ((a + 1 : Nat) : Int) - 1 = (a : Int) := by omega
  have e2 : Mi.cutD l (some (a : Int)) (some ((a : Int) + (s : Int))) = (l.drop a).take s := by
    rw [cut_both _ (by omega) (by omega)]
    rw [show ((a : Int) + (s : Int)).toNat = a + s by omega, Int.toNat_natCast, List.drop_take]
    congr 1
    omega
  have e3 := letter_ok ((l.drop a).take s)
  have z2 : 2 ≤ lim := lim_of (by decide)
  have hrl : rows.length < lim := lim_lt' (by omega)
  generalize ((a + 1 : Nat) : Int) = y at e1 ⊢
  unfold b_shortest_word_1
  by_cases hle : s ≤ (l.drop a).length
  · have hle2 : a + s ≤ l.length := by rw [List.length_drop] at hle; omega
    have hlt : (a : Int) + (s : Int) ≤ (l.length : Int) := by omega
    unfold nx
    rw [if_pos hle]
    unfold ltD at e3
    cases q : lto ((l.drop a).take s) with
    | none =>
      rw [q] at e3
      dsimp only at e3
      simp [shy_free h4, shy_free h5, hL, e1, e2, e3, hlt, isND]
      exact ⟨_, _, _, ⟨rfl, rfl, rfl⟩, .sh _, h6, h7⟩
    | some c =>
      rw [q] at e3
      dsimp only at e3
      have hs2 : (sg c).length = s := by
        rw [(lto_some q).2, List.length_take]
        omega
      have e4 := bestL_at (l := l) (a := a + 1) (e := a + s) (by omega) hle2
      rw [show ((l.length - (a + s) : Nat) : Int) = (l.length : Int) - ((a : Int) + (s : Int)) by omega] at e4
      have hb := bw_len l.length (l.drop (a + s)) (by rw [List.length_drop]; omega)
      rw [List.length_drop] at hb
      have z1 : 1 + (bw (l.drop (a + s))).length ≤ lim := lim_of (by omega)
      have e5 : (l.drop a).drop (sg c).length = l.drop (a + s) := by rw [hs2, List.drop_drop]
      dsimp only
      rw [List.map_singleton, e5]
      generalize (bestL l (a + 1)).map cwD = bl at e4 ⊢
      generalize bw (l.drop (a + s)) = ww at e4 z1 ⊢
      unfold cwD strC at *
      simp [shy_free h4, shy_free h5, shy_free h6, shy_free h7, hL, e1, e2, e3, hlt, isND, e4, z1, z2, hrl]
      exact ⟨_, _, _, ⟨rfl, rfl, rfl⟩, .sh _, .sh _, .sh _⟩
  · have hlt : ¬ (a : Int) + (s : Int) ≤ (l.length : Int) := by rw [List.length_drop] at hle; omega
    unfold nx
    rw [if_neg hle]
    simp [shy_free h4, shy_free h5, hL, e1, e2, e3, hlt]
    exact ⟨_, _, _, ⟨rfl, rfl, rfl⟩, .sh _, h6, h7⟩
theorem end_turn {l : List Nat} {m2 m3 m4 m5 m6 m7 : M} {a : Nat} (hd : Dots l) (ha : a < l.length) (hl : l.length ≤ 900) (h2 : Shy m2) (h3 : freeM (some m3) = true) (h4 : Shy m4) (h5 : Shy m5) (h6 : Shy m6) (h7 : Shy m7) :
    ∃ m3' m4' m5' m6' m7', bnd (gNm 2 (.int ((a + 1 : Nat) : Int)) [.sh (.str (sS l)), .own ((bestL l (a + 1)).map cwD), m2, m3, m4, m5, m6, m7]) b_shortest_word_2 = some (.nx, [.sh (.str (sS l)), .own ((bestL l a).map cwD), .sh (.int ((a + 1 : Nat) : Int)), m3', m4', m5', m6', m7']) ∧ freeM (some m3') = true ∧ Shy m4' ∧ Shy m5' ∧ Shy m6' ∧ Shy m7' := by
  have hn : ∀ s, (nx (l.drop a) s).length ≤ 1 := fun s => by
    unfold nx
    split
    · split <;> simp
    · simp
  obtain ⟨x5, x6, x7, e1, k5, k6, k7⟩ := size_turn (l := l) (a := a) (s := 1) (rows := []) ha hl (by omega) (by simp) h4 h5 h6 h7
  obtain ⟨y5, y6, y7, e2, p5, p6, p7⟩ := size_turn (l := l) (a := a) (s := 2) (rows := [] ++ (nx (l.drop a) 1).map fun c => c :: bw ((l.drop a).drop (sg c).length)) ha hl (by omega) (by have := hn 1; simp; omega) (.sh (.int ((1 : Nat) : Int))) k5 k6 k7
  obtain ⟨u5, u6, u7, e3, q5, q6, q7⟩ := size_turn (l := l) (a := a) (s := 3) (rows := [] ++ (nx (l.drop a) 1).map (fun c => c :: bw ((l.drop a).drop (sg c).length)) ++ (nx (l.drop a) 2).map fun c => c :: bw ((l.drop a).drop (sg c).length)) ha hl (by omega) (by have := hn 1; have := hn 2; simp; omega) (.sh (.int ((2 : Nat) : Int))) p5 p6 p7
  obtain ⟨v5, v6, v7, e4, r5, r6, r7⟩ := size_turn (l := l) (a := a) (s := 4) (rows := [] ++ (nx (l.drop a) 1).map (fun c => c :: bw ((l.drop a).drop (sg c).length)) ++ (nx (l.drop a) 2).map (fun c => c :: bw ((l.drop a).drop (sg c).length)) ++ (nx (l.drop a) 3).map fun c => c :: bw ((l.drop a).drop (sg c).length)) ha hl (by omega) (by have := hn 1; have := hn 2; have := hn 3; simp; omega) (.sh (.int ((3 : Nat) : Int))) q5 q6 q7
  have er : rangeD 1 5 = [.int ((1 : Nat) : Int), .int ((2 : Nat) : Int), .int ((3 : Nat) : Int), .int ((4 : Nat) : Int)] := rfl
  have ef : ∃ m4', forGo (gNm 4) b_shortest_word_1 (rangeD 1 5) [.sh (.str (sS l)), .own ((bestL l (a + 1)).map cwD), .sh (.int ((a + 1 : Nat) : Int)), .own [], m4, m5, m6, m7] = some (.nx, [.sh (.str (sS l)), .own ((bestL l (a + 1)).map cwD), .sh (.int ((a + 1 : Nat) : Int)), .own (((nxs (l.drop a)).map fun c => c :: bw ((l.drop a).drop (sg c).length)).map cwD), m4', v5, v6, v7]) ∧ Shy m4' := by
    refine ⟨.sh (.int ((4 : Nat) : Int)), ?_, .sh _⟩
    rw [List.map_nil] at e1
    rw [er, for_step e1, for_step e2, for_step e3, for_step e4, forGo_nil]
    unfold nxs
    simp
  obtain ⟨m4', ef, s4⟩ := ef
  have em := best_least (hd.drop a) (drop_ne ha)
  have hs := bestL_snoc ha
  have hbl : ((bestL l (a + 1)).map cwD).length < lim := lim_lt' (by unfold bestL; simp; omega)
  have z1 : i62 1 = true := by decide
  have z5 : i62 5 = true := by decide
  have z0 : (0 : Nat) ≤ lim := Nat.zero_le _
  rw [hs, List.map_append, List.map_singleton]
  generalize (((nxs (l.drop a)).map fun c => c :: bw ((l.drop a).drop (sg c).length)).map cwD) = rr at ef em
  generalize (bestL l (a + 1)).map cwD = bb at ef hbl ⊢
  generalize cwD (bw (l.drop a)) = cw at em ⊢
  generalize ((a + 1 : Nat) : Int) = y at ef ⊢
  unfold b_shortest_word_2
  simp [shy_free h2, h3, ef, em, hbl, z1, z5]
  exact ⟨_, _, _, _, _, ⟨rfl, rfl, rfl, rfl, rfl⟩, rfl, s4, r5, r6, r7⟩
theorem shortw_ok {l : List Nat} (hd : Dots l) (hl : l.length ≤ 900) : phi_shortest_word [.str (sS l)] = some (.sh (.str (sS (bw l)))) := by
  have hstep : ∀ (k : Nat) (m2 m3 m4 m5 m6 m7 : M), k ≤ l.length → Shy m2 → freeM (some m3) = true → Shy m4 → Shy m5 → Shy m6 → Shy m7 →
      ∃ ρ', forGo (gNm 2) b_shortest_word_2 (stepD (k : Int) (-1) k) [.sh (.str (sS l)), .own ((bestL l k).map cwD), m2, m3, m4, m5, m6, m7] = some (.nx, ρ') ∧ ρ'.length = 8 ∧ ρ'[1]? = some (.own ((bestL l 0).map cwD)) := by
    intro k
    induction k with
    | zero => intro m2 m3 m4 m5 m6 m7 _ _ _ _ _ _ _; exact ⟨_, rfl, rfl, rfl⟩
    | succ k ih =>
      intro m2 m3 m4 m5 m6 m7 hk h2 h3 h4 h5 h6 h7
      obtain ⟨x3, x4, x5, x6, x7, e, k3, k4, k5, k6, k7⟩ := end_turn (a := k) hd (by omega) hl h2 h3 h4 h5 h6 h7
      obtain ⟨ρ', e2, q1, q2⟩ := ih (.sh (.int ((k + 1 : Nat) : Int))) x3 x4 x5 x6 x7 (by omega) (.sh _) k3 k4 k5 k6 k7
      refine ⟨ρ', ?_, q1, q2⟩
      rw [stepD_succ, for_step e, ← e2]
      congr 2
      omega
  have q1 : (bestL l l.length).map cwD = [.tuple [.int 0, .str (sS [])]] := by
    unfold bestL
    rw [show l.length + 1 - l.length = 1 by omega]
    show [cwD (bw (l.drop (l.length - 0)))] = _
    rw [Nat.sub_zero, List.drop_length]
    rfl
  obtain ⟨ρ', e, p1, p2⟩ := hstep l.length .no .no .no .no .no .no (Nat.le_refl _) .no rfl .no .no .no .no
  rw [q1] at e
  have hlast : atI ((bestL l 0).map cwD) (-1) = some (cwD (bw l)) := by
    rw [atI_last?]
    unfold bestL
    rw [show l.length + 1 - 0 = l.length + 1 by omega, List.range_succ, List.map_append, List.map_append]
    show (_ ++ [cwD (bw (l.drop (l.length - l.length)))]).getLast? = _
    rw [Nat.sub_self, List.drop_zero]
    simp
  match ρ', p1, p2 with
  | [a0, a1, a2, a3, a4, a5, a6, a7], _, p2 =>
    have p2 : a1 = .own ((bestL l 0).map cwD) := by simpa using p2
    subst p2
    have hL := lim_of (n := l.length) (by omega)
    have zi : i62 (l.length : Int) = true := i62_of (by omega) (by omega)
    have z0 : i62 0 = true := by decide
    have z1 : 1 ≤ lim := lim_of (by decide)
    have z2 : 2 ≤ lim := lim_of (by decide)
    unfold phi_shortest_word
    rw [runN_eq (by rfl)]
    unfold m_shortest_word
    rw [join_empty]
    generalize (bestL l 0).map cwD = bb at *
    unfold cwD at hlast
    simp [hL, zi, z0, z1, z2, e, hlast]
end Law
/-! k57: how many readings, by beginnings -/
namespace Law
open PySem PySem.Spec PyProof.Rows L2 Mi
set_option maxRecDepth 100000
set_option maxHeartbeats 1000000
theorem al_one : ∀ c ∈ al, al.filter (fun d => sg d == sg c) = [c] := by decide +kernel
theorem nx_eq (m : List Nat) (k : Nat) : (mt m).filter (fun c => (sg c).length == k) = nx m k := by
  unfold nx mt
  rw [List.filter_filter]
  by_cases hk : k ≤ m.length
  · rw [if_pos hk]
    have e : al.filter (fun c => (sg c).length == k && (sg c).isPrefixOf m) = al.filter (fun c => sg c == m.take k) := by
      apply List.filter_congr
      intro c _
      by_cases h : sg c = m.take k
      · have hl : (sg c).length = k := by rw [h, List.length_take]; omega
        have hp : (sg c).isPrefixOf m = true := List.isPrefixOf_iff_prefix.mpr (by rw [List.prefix_iff_eq_take, hl]; exact h)
        rw [hp, hl, h]
        simp
      · have hb : (sg c == m.take k) = false := Bool.eq_false_iff.mpr fun e => h (eq_of_beq e)
        rw [hb]
        by_cases hl : (sg c).length = k
        · have hp : (sg c).isPrefixOf m = false := Bool.eq_false_iff.mpr fun e => h (by
            have := List.prefix_iff_eq_take.mp (List.isPrefixOf_iff_prefix.mp e)
            rw [hl] at this
            exact this)
          rw [hp, Bool.and_false]
        · have : ((sg c).length == k) = false := Bool.eq_false_iff.mpr fun e => hl (eq_of_beq e)
          rw [this, Bool.false_and]
    rw [e]
    cases q : lto (m.take k) with
    | none =>
      rw [List.filter_eq_nil_iff]
      intro c hc
      exact List.find?_eq_none.mp q c hc
    | some c =>
      obtain ⟨h1, h2⟩ := lto_some q
      rw [← h2]
      exact al_one c h1
  · rw [if_neg hk, List.filter_eq_nil_iff]
    intro c _ h
    obtain ⟨h1, h2⟩ := Bool.and_eq_true_iff.mp h
    have := (List.isPrefixOf_iff_prefix.mp h2).length_le
    have := eq_of_beq h1
    omega
def sums (f : Nat → Nat) (l : List Nat) : Nat := (l.map f).sum
theorem sums_cons (f : Nat → Nat) (x : Nat) (l : List Nat) : sums f (x :: l) = f x + sums f l := rfl
theorem sums_app (f : Nat → Nat) (a b : List Nat) : sums f (a ++ b) = sums f a + sums f b := by
  unfold sums
  rw [List.map_append, List.sum_append]
theorem sums_congr {f g : Nat → Nat} {l : List Nat} (h : ∀ x ∈ l, f x = g x) : sums f l = sums g l := by
  unfold sums
  rw [List.map_congr_left h]
theorem sums_split (f : Nat → Nat) (p q r : Nat → Bool) (h : ∀ c, p c = (q c || r c)) (h2 : ∀ c, ¬ (q c = true ∧ r c = true)) : ∀ l : List Nat, sums f (l.filter p) = sums f (l.filter q) + sums f (l.filter r)
  | [] => rfl
  | c :: l => by
    have ih := sums_split f p q r h h2 l
    have hc := h c
    have hc2 := h2 c
    rw [List.filter_cons, List.filter_cons, List.filter_cons]
    cases hq : q c with
    | true =>
      cases hr : r c with
      | true => exact absurd ⟨hq, hr⟩ hc2
      | false =>
        rw [hq, hr] at hc
        rw [hc]
        simp only [Bool.or_false, if_true, Bool.false_eq_true, if_false]
        rw [sums_cons, sums_cons, ih]
        omega
    | false =>
      cases hr : r c with
      | true =>
        rw [hq, hr] at hc
        rw [hc]
        simp only [Bool.false_or, if_true, Bool.false_eq_true, if_false]
        rw [sums_cons, sums_cons, ih]
        omega
      | false =>
        rw [hq, hr] at hc
        rw [hc]
        simp only [Bool.or_self, Bool.false_eq_true, if_false]
        exact ih
theorem sums_add (f g : Nat → Nat) : ∀ l : List Nat, sums (fun x => f x + g x) l = sums f l + sums g l
  | [] => rfl
  | x :: l => by
    rw [sums_cons, sums_cons, sums_cons, sums_add f g l]
    omega
theorem sums_mul (f : Nat → Nat) (k : Nat) : ∀ l : List Nat, sums (fun x => f x * k) l = sums f l * k
  | [] => by show 0 = 0 * k; simp
  | x :: l => by rw [sums_cons, sums_cons, sums_mul f k l, Nat.add_mul]
theorem sums_if (f : Nat → Nat) (p : Nat → Bool) : ∀ l : List Nat, sums (fun x => if p x = true then f x else 0) l = sums f (l.filter p)
  | [] => rfl
  | x :: l => by
    rw [sums_cons, sums_if f p l, List.filter_cons]
    cases h : p x with
    | true => rw [if_pos rfl, if_pos rfl, sums_cons]
    | false => rw [if_neg Bool.false_ne_true, if_neg Bool.false_ne_true, Nat.zero_add]
/-- the signs from s to e are one letter's -/
def Wb (l : List Nat) (s e : Nat) : Bool := (lto ((l.take e).drop s)).isSome
def Xs (l : List Nat) (s e : Nat) : Nat := sums (fun c => cnt (l.drop (s + (sg c).length))) ((mt (l.drop s)).filter fun c => decide (e ≤ s + (sg c).length))
theorem Xs_step {l : List Nat} {s e : Nat} (hs : s < e) (he : e ≤ l.length) : Xs l s e = (if Wb l s e = true then cnt (l.drop e) else 0) + Xs l s (e + 1) := by
  unfold Xs
  rw [sums_split _ _ (fun c => (sg c).length == e - s) (fun c => decide (e + 1 ≤ s + (sg c).length)) (fun c => by
    by_cases h : (sg c).length = e - s
    · rw [decide_eq_true (by omega), h]; simp
    · have : ((sg c).length == e - s) = false := Bool.eq_false_iff.mpr fun z => h (eq_of_beq z)
      rw [this, Bool.false_or]
      exact decide_eq_decide.mpr (by omega)) (fun c h => by
    have h1 := eq_of_beq h.1
    have h2 := of_decide_eq_true h.2
    omega), nx_eq]
  congr 1
  unfold nx Wb
  rw [if_pos (by rw [List.length_drop]; omega), List.drop_take]
  cases q : lto ((l.drop s).take (e - s)) with
  | none => rfl
  | some c =>
    rw [if_pos (show (some c).isSome = true from rfl)]
    show cnt (l.drop (s + (sg c).length)) + 0 = _
    have : (sg c).length = e - s := by
      rw [(lto_some q).2, List.length_take, List.length_drop]
      omega
    rw [this, Nat.add_zero, show s + (e - s) = e by omega]
theorem Xs_whole {l : List Nat} {e : Nat} (he : e < l.length) : Xs l e (e + 1) = cnt (l.drop e) := by
  rw [cnt_cons (drop_ne he)]
  unfold Xs
  have : (mt (l.drop e)).filter (fun c => decide (e + 1 ≤ e + (sg c).length)) = mt (l.drop e) := List.filter_eq_self.mpr fun c hc => decide_eq_true (by have := mt_len hc; omega)
  rw [this]
  unfold sums
  congr 1
  apply List.map_congr_left
  intro c _
  rw [List.drop_drop]
theorem Xs_none {l : List Nat} {s : Nat} (hs : s < l.length) : Xs l s (l.length + 1) = 0 := by
  unfold Xs
  have : (mt (l.drop s)).filter (fun c => decide (l.length + 1 ≤ s + (sg c).length)) = [] := List.filter_eq_nil_iff.mpr fun c hc h => by
    have := mt_len hc
    rw [List.length_drop] at this
    have := of_decide_eq_true h
    omega
  rw [this]
  rfl
/-- readings counted from the beginnings -/
theorem prefix_count {l : List Nat} (p : Nat → Nat) (h0 : p 0 = 1) (hp : ∀ j, 1 ≤ j → j ≤ l.length → p j = sums p ((List.range j).filter fun s => Wb l s j)) : p l.length = cnt l := by
  by_cases hl : l = []
  · subst hl; exact h0
  have hn : 1 ≤ l.length := by
    cases l with
    | nil => exact absurd rfl hl
    | cons x r => simp
  have F1 : sums (fun s => p s * Xs l s 1) (List.range 1) = cnt l := by
    show p 0 * Xs l 0 1 + 0 = _
    rw [h0, Xs_whole (by omega), List.drop_zero]
    omega
  have part : ∀ e, 1 ≤ e → e ≤ l.length → sums (fun s => p s * Xs l s e) (List.range e) = p e * cnt (l.drop e) + sums (fun s => p s * Xs l s (e + 1)) (List.range e) := by
    intro e h1 h2
    rw [sums_congr (g := fun s => (if Wb l s e = true then p s else 0) * cnt (l.drop e) + p s * Xs l s (e + 1)) (fun s hs => by
      rw [Xs_step (List.mem_range.mp hs) h2, Nat.mul_add]
      congr 1
      split
      · rfl
      · rw [Nat.mul_zero, Nat.zero_mul]), sums_add, sums_mul, sums_if, ← hp e h1 h2]
  have step : ∀ k, k + 1 ≤ l.length → sums (fun s => p s * Xs l s (k + 1)) (List.range (k + 1)) = cnt l := by
    intro k
    induction k with
    | zero => intro _; exact F1
    | succ k ih =>
      intro hk
      have hi := ih (by omega)
      rw [part (k + 1) (by omega) (by omega)] at hi
      rw [List.range_succ, sums_app]
      show _ + (p (k + 1) * Xs l (k + 1) (k + 2) + 0) = _
      rw [Xs_whole (by omega), ← hi]
      omega
  have fin := step (l.length - 1) (by omega)
  rw [show l.length - 1 + 1 = l.length by omega, part l.length hn (Nat.le_refl _), List.drop_length, cnt_nil] at fin
  have z : sums (fun s => p s * Xs l s (l.length + 1)) (List.range l.length) = sums (fun _ => 0) (List.range l.length) := sums_congr fun s hs => by
    rw [Xs_none (List.mem_range.mp hs), Nat.mul_zero]
  have z0 : ∀ xs : List Nat, sums (fun _ => 0) xs = 0 := fun xs => by
    induction xs with
    | nil => rfl
    | cons x r ih => rw [sums_cons, ih]
  rw [z, z0] at fin
  omega
/-! the loop -/
theorem starts_all {l : List Nat} {e : Nat} (he : e ≤ l.length) : (List.range e).filter (fun s => Wb l s e) = ((List.range (e - (e - 4))).map fun i => e - 4 + i).filter fun s => Wb l s e := by
  have hr : List.range e = List.range (e - 4) ++ (List.range (e - (e - 4))).map fun i => e - 4 + i := by
    rw [← List.range_add, show e - 4 + (e - (e - 4)) = e by omega]
  rw [hr, List.filter_append]
  have : (List.range (e - 4)).filter (fun s => Wb l s e) = [] := List.filter_eq_nil_iff.mpr fun s hs h => by
    have hs := List.mem_range.mp hs
    unfold Wb at h
    cases q : lto ((l.take e).drop s) with
    | none => rw [q] at h; cases h
    | some c =>
      obtain ⟨h1, h2⟩ := lto_some q
      have h3 := (sg_pos c h1).2
      rw [h2, List.length_drop, List.length_take] at h3
      omega
  rw [this, List.nil_append]
def tSt (l : List Nat) (e : Nat) : D → Option D
  | .int s => if Wb l s.toNat e = true then some (.int s) else none
  | _ => none
theorem count_end {l : List Nat} {m2 m3 m4 : M} {ps : List Nat} {e : Nat} (hl : l.length ≤ 900) (h1 : 1 ≤ e) (he : e ≤ l.length) (hps : ps.length = e) (h2 : Shy m2) (h3 : freeM (some m3) = true) (h4 : Shy m4) :
    ∃ m3', bnd (gNm 2 (.int (e : Int)) [.sh (.str (sS l)), .own (ps.map fun n : Nat => .int (n : Int)), m2, m3, m4]) b_reading_count_1 = some (.nx, [.sh (.str (sS l)), .own ((ps ++ [sums (fun s => ps.getD s 0) ((List.range e).filter fun s => Wb l s e)]).map fun n : Nat => .int (n : Int)), .sh (.int (e : Int)), m3', m4]) ∧ freeM (some m3') = true := by
  have hL := lim_of (n := l.length) (by omega)
  have okm : okM (some m4) = true := by cases h4 <;> rfl
  have hrange : rangeD ((e - 4 : Nat) : Int) (e : Int) = ((List.range (e - (e - 4))).map fun i => e - 4 + i).map fun s : Nat => .int (s : Int) := by
    rw [rangeD_eq, List.map_map, show ((e : Int) - ((e - 4 : Nat) : Int)).toNat = e - (e - 4) by omega]
    apply List.map_congr_left
    intro i _
    show PyData.int (((e - 4 : Nat) : Int) + (i : Int)) = PyData.int ((e - 4 + i : Nat) : Int)
    congr 1
  have e1 := lc_pure (gg := gNm 4) (t := t_reading_count_1) (el := l_reading_count_2) (vs := [4]) (ds := rangeD ((e - 4 : Nat) : Int) (e : Int)) (ρ := [.sh (.str (sS l)), .own (ps.map fun n : Nat => .int (n : Int)), .sh (.int (e : Int)), m3, m4]) (tSt l e) (fun d hd => by
    rw [hrange] at hd
    obtain ⟨s, hs, rfl⟩ := List.mem_map.mp hd
    obtain ⟨i, hi, rfl⟩ := List.mem_map.mp hs
    have hlt := List.mem_range.mp hi
    have hw := letter_ok ((l.take e).drop (e - 4 + i))
    have hc : Mi.cutD l (some ((e - 4 + i : Nat) : Int)) (some (e : Int)) = (l.take e).drop (e - 4 + i) := by
      rw [cut_both _ (by omega) (by omega), Int.toNat_natCast, Int.toNat_natCast]
    unfold tSt Wb
    dsimp only
    rw [Int.toNat_natCast]
    generalize ((e - 4 + i : Nat) : Int) = y at hc ⊢
    unfold t_reading_count_1 l_reading_count_2
    unfold ltD at hw
    cases q : lto ((l.take e).drop (e - 4 + i)) with
    | none =>
      rw [q] at hw
      simp [hL, hc, hw, isND]
    | some c =>
      rw [q] at hw
      dsimp only at hw
      unfold strC at hw
      simp [hL, hc, hw, isND]) [] (by
      rw [rangeD_len]
      show _ ≤ 1000000
      simp
      omega)
  have e2 : (rangeD ((e - 4 : Nat) : Int) (e : Int)).filterMap (tSt l e) = ((List.range e).filter fun s => Wb l s e).map fun s : Nat => .int (s : Int) := by
    rw [hrange, starts_all he, List.filterMap_map]
    generalize (List.range (e - (e - 4))).map (fun i => e - 4 + i) = ss
    induction ss with
    | nil => rfl
    | cons s r ih =>
      rw [List.filterMap_cons, List.filter_cons, ih]
      have : (tSt l e ∘ fun s : Nat => PyData.int (s : Int)) s = if Wb l s e = true then some (.int (s : Int)) else none := by
        show (if Wb l ((s : Int)).toNat e = true then _ else _) = _
        rw [Int.toNat_natCast]
      rw [this]
      by_cases h : Wb l s e = true
      · rw [if_pos h, if_pos h]; rfl
      · rw [if_neg h, if_neg h]
  rw [List.nil_append, e2] at e1
  have hss : ∀ s ∈ (List.range e).filter (fun s => Wb l s e), s < e := fun s hs => List.mem_range.mp (List.mem_filter.mp hs).1
  have hsl : ((List.range e).filter fun s => Wb l s e).length ≤ e := Nat.le_trans (List.length_filter_le _ _) (by rw [List.length_range]; exact Nat.le_refl _)
  generalize ((List.range e).filter fun s => Wb l s e) = ss at e1 hss hsl ⊢
  have e3 := lc_pure (gg := gNm 4) (t := mYes) (el := l_reading_count_1) (vs := [4]) (ds := ss.map fun s : Nat => .int (s : Int)) (ρ := [.sh (.str (sS l)), .own (ps.map fun n : Nat => .int (n : Int)), .sh (.int (e : Int)), .sh (.list (ss.map fun s : Nat => .int (s : Int))), m4]) (fun d => some (.int ((ps.getD (intD' d).toNat 0 : Nat) : Int))) (fun d hd => by
    obtain ⟨s, hs, rfl⟩ := List.mem_map.mp hd
    have hlt := hss s hs
    have ha : atI (ps.map fun n : Nat => PyData.int (n : Int)) (s : Int) = some (.int ((ps.getD s 0 : Nat) : Int)) := by
      rw [atI_nat', List.getElem?_map, List.getElem?_eq_getElem (by omega), List.getD_eq_getElem?_getD, List.getElem?_eq_getElem (by omega)]
      rfl
    have hi : (intD' (.int (s : Int))).toNat = s := Int.toNat_natCast s
    rw [hi]
    generalize ((s : Nat) : Int) = y at ha ⊢
    unfold l_reading_count_1
    simp [ha]) [] (by
      rw [List.length_map]
      show _ ≤ 1000000
      simp
      omega)
  rw [List.nil_append, filterMap_all, List.map_map] at e3
  have e4 : ss.map ((fun d => PyData.int ((ps.getD (intD' d).toNat 0 : Nat) : Int)) ∘ fun s : Nat => PyData.int (s : Int)) = (ss.map fun s => ((ps.getD s 0 : Nat) : Int)).map .int := by
    rw [List.map_map]
    apply List.map_congr_left
    intro s _
    show PyData.int ((ps.getD ((s : Int)).toNat 0 : Nat) : Int) = _
    rw [Int.toNat_natCast]
    rfl
  rw [e4] at e3
  have e5 : sumD (.list ((ss.map fun s => ((ps.getD s 0 : Nat) : Int)).map .int)) = some (.sh (.int ((sums (fun s => ps.getD s 0) ss : Nat) : Int))) := by
    rw [sumD_l, sum_cast]
    rfl
  have hmax : (if (e : Int) - 4 > 0 then (e : Int) - 4 else 0) = ((e - 4 : Nat) : Int) := by split <;> omega
  have z1 : i62 ((e - 4 : Nat) : Int) = true := i62_of (by omega) (by omega)
  have z2 : i62 (e : Int) = true := i62_of (by omega) (by omega)
  have z3 : (ps.map fun n : Nat => PyData.int (n : Int)).length < lim := lim_lt' (by rw [List.length_map]; omega)
  rw [List.map_append, List.map_singleton]
  refine ⟨.sh (.list (ss.map fun s : Nat => .int (s : Int))), ?_, rfl⟩
  generalize ((ss.map fun s => ((ps.getD s 0 : Nat) : Int)).map PyData.int) = qs at e3 e5
  generalize (ss.map fun s : Nat => PyData.int (s : Int)) = sd at e1 e3 ⊢
  generalize (ps.map fun n : Nat => PyData.int (n : Int)) = pd at e1 e3 z3 ⊢
  generalize ((sums (fun s => ps.getD s 0) ss : Nat) : Int) = sm at e5 ⊢
  generalize ((e - 4 : Nat) : Int) = lo at e1 hmax z1
  unfold b_reading_count_1
  simp at hmax
  simp [shy_free h2, h3, okm, hmax, z1, z2, z3, e1, e3, e5]
theorem getD_snoc {ps : List Nat} {x s : Nat} (h : s < ps.length) : (ps ++ [x]).getD s 0 = ps.getD s 0 := by
  rw [List.getD_eq_getElem?_getD, List.getD_eq_getElem?_getD, List.getElem?_append_left h]
theorem count_loop {l : List Nat} (hl : l.length ≤ 900) : ∀ (k e : Nat) (ps : List Nat) (m2 m3 m4 : M), 1 ≤ e → e + k = l.length + 1 → ps.length = e → (ps.getD 0 0 = 1) → (∀ j, 1 ≤ j → j < e → ps.getD j 0 = sums (fun s => ps.getD s 0) ((List.range j).filter fun s => Wb l s j)) → Shy m2 → freeM (some m3) = true → Shy m4 →
    ∃ (ps' : List Nat) (m2' m3' m4' : M), forGo (gNm 2) b_reading_count_1 ((List.range k).map fun i => .int ((e + i : Nat) : Int)) [.sh (.str (sS l)), .own (ps.map fun n : Nat => .int (n : Int)), m2, m3, m4] = some (.nx, [.sh (.str (sS l)), .own (ps'.map fun n : Nat => .int (n : Int)), m2', m3', m4']) ∧ ps'.length = l.length + 1 ∧ ps'.getD 0 0 = 1 ∧ (∀ j, 1 ≤ j → j ≤ l.length → ps'.getD j 0 = sums (fun s => ps'.getD s 0) ((List.range j).filter fun s => Wb l s j))
  | 0, e, ps, m2, m3, m4, h1, h2, h3, h4, h5, _, _, _ => ⟨ps, m2, m3, m4, rfl, by omega, h4, fun j a b => h5 j a (by omega)⟩
  | k + 1, e, ps, m2, m3, m4, h1, h2, h3, h4, h5, s2, s3, s4 => by
    obtain ⟨m3', e1, f3⟩ := count_end (l := l) (ps := ps) (e := e) hl h1 (by omega) h3 s2 s3 s4
    have hcong : ∀ j, j ≤ e → sums (fun s => (ps ++ [sums (fun s => ps.getD s 0) ((List.range e).filter fun s => Wb l s e)]).getD s 0) ((List.range j).filter fun s => Wb l s j) = sums (fun s => ps.getD s 0) ((List.range j).filter fun s => Wb l s j) := fun j hj => sums_congr fun s hs => by
      have := List.mem_range.mp (List.mem_filter.mp hs).1
      exact getD_snoc (by omega)
    obtain ⟨ps', x2, x3, x4, e2, q1, q2, q3⟩ := count_loop hl k (e + 1) (ps ++ [sums (fun s => ps.getD s 0) ((List.range e).filter fun s => Wb l s e)]) (.sh (.int (e : Int))) m3' m4 (by omega) (by omega) (by rw [List.length_append, List.length_singleton, h3]) (by rw [getD_snoc (by omega), h4]) (fun j a b => by
      by_cases hj : j = e
      · subst hj
        rw [hcong j (Nat.le_refl _)]
        rw [List.getD_eq_getElem?_getD, List.getElem?_append_right (by omega), h3, Nat.sub_self]
        rfl
      · rw [hcong j (by omega), getD_snoc (by omega)]
        exact h5 j a (by omega)) (.sh _) f3 s4
    refine ⟨ps', x2, x3, x4, ?_, q1, q2, q3⟩
    rw [List.range_succ_eq_map, List.map_cons, List.map_map, Nat.add_zero, for_step e1, ← e2]
    congr 1
    apply List.map_congr_left
    intro i _
    show PyData.int ((e + (i + 1) : Nat) : Int) = PyData.int ((e + 1 + i : Nat) : Int)
    congr 2
    omega
theorem rcount_ok {l : List Nat} (hl : l.length ≤ 900) : phi_reading_count [.str (sS l)] = some (.sh (.int (cnt l : Int))) := by
  obtain ⟨ps', x2, x3, x4, e, q1, q2, q3⟩ := count_loop hl l.length 1 [1] .no .no .no (Nat.le_refl _) (by omega) rfl rfl (fun j a b => by omega) .no rfl .no
  have hp := prefix_count (l := l) (fun s => ps'.getD s 0) q2 q3
  have hL := lim_of (n := l.length) (by omega)
  have zi : i62 ((l.length : Int) + 1) = true := i62_of (by omega) (by omega)
  have z1 : i62 1 = true := by decide
  have z2 : 1 ≤ lim := lim_of (by decide)
  have hr : rangeD 1 ((l.length : Int) + 1) = (List.range l.length).map fun i => .int ((1 + i : Nat) : Int) := by
    rw [rangeD_eq, show ((l.length : Int) + 1 - 1).toNat = l.length by omega]
    apply List.map_congr_left
    intro i _
    show PyData.int (1 + (i : Int)) = _
    congr 1
  rw [← hr] at e
  have hlast : atI (ps'.map fun n : Nat => PyData.int (n : Int)) (-1) = some (.int (cnt l : Int)) := by
    rw [atI_last?, List.getLast?_eq_getElem?, List.length_map, q1, List.getElem?_map, show l.length + 1 - 1 = l.length by omega]
    rw [← hp]
    show Option.map _ ps'[l.length]? = some (PyData.int ((ps'.getD l.length 0 : Nat) : Int))
    rw [List.getD_eq_getElem?_getD, List.getElem?_eq_getElem (by omega)]
    rfl
  have e' : forGo (gNm 2) b_reading_count_1 (rangeD 1 ((l.length : Int) + 1)) [.sh (.str (sS l)), .own [.int 1], .no, .no, .no] = some (.nx, [.sh (.str (sS l)), .own (ps'.map fun n : Nat => .int (n : Int)), x2, x3, x4]) := e
  generalize (ps'.map fun n : Nat => PyData.int (n : Int)) = pd at e' hlast
  unfold phi_reading_count
  rw [runN_eq (by rfl)]
  unfold m_reading_count
  simp [hL, zi, z1, z2, e', hlast]
end Law
/-! k57: the readings, one by one -/
namespace Law
open PySem PySem.Spec PyProof.Rows L2 Mi
set_option maxRecDepth 100000
set_option maxHeartbeats 1000000
theorem starts3 {l y : List Nat} {a : Nat} (ha : a ≤ l.length) : Txt.startswith3 (sS l) (sS y) (a : Int) = y.isPrefixOf (l.drop a) := by
  unfold Txt.startswith3
  have hf : fromIndex (sS l).length (a : Int) = a := by
    unfold fromIndex
    rw [if_neg (by omega)]
    omega
  rw [hf, StrLaws.subAt_eq, sS_len, sS_len, sS_list, sS_list, pre_take]
  by_cases h : y.isPrefixOf (l.drop a) = true
  · have := (List.isPrefixOf_iff_prefix.mp h).length_le
    rw [List.length_drop] at this
    by_cases hy : y.length = 0
    · rw [h, decide_eq_true (by omega)]; rfl
    · rw [h, decide_eq_true (by omega)]; rfl
  · rw [Bool.eq_false_iff.mpr h, Bool.and_false]
def wD (p : List Nat × Nat) : D := .tuple [.str (sS p.1), .int (p.2 : Int)]
def kids (l : List Nat) (p : List Nat × Nat) : List (List Nat × Nat) := (mt (l.drop p.2)).map fun c => (p.1 ++ [c], p.2 + (sg c).length)
def szF : Nat → List Nat → Nat
  | 0, _ => 1
  | n + 1, l => 1 + sums (fun c => szF n (l.drop (sg c).length)) (mt l)
def sz (l : List Nat) : Nat := szF l.length l
theorem mt_nil : mt [] = [] := by decide +kernel
theorem szF_same : ∀ (n m : Nat) (l : List Nat), l.length ≤ n → l.length ≤ m → szF n l = szF m l
  | 0, 0, _, _, _ => rfl
  | 0, m + 1, l, h, _ => by
    have : l = [] := List.eq_nil_of_length_eq_zero (by omega)
    subst this
    unfold szF
    rw [mt_nil]
    rfl
  | n + 1, 0, l, _, h => by
    have : l = [] := List.eq_nil_of_length_eq_zero (by omega)
    subst this
    unfold szF
    rw [mt_nil]
    rfl
  | n + 1, m + 1, l, h1, h2 => by
    unfold szF
    rw [sums_congr fun c hc => by
      have := mt_len hc
      exact szF_same n m (l.drop (sg c).length) (by rw [List.length_drop]; omega) (by rw [List.length_drop]; omega)]
theorem sz_eq (l : List Nat) : sz l = 1 + sums (fun c => sz (l.drop (sg c).length)) (mt l) := by
  unfold sz
  rw [szF_same l.length (l.length + 1) l (Nat.le_refl _) (by omega)]
  conv => lhs; unfold szF
  rw [sums_congr fun c hc => by
    have := mt_len hc
    exact szF_same l.length _ (l.drop (sg c).length) (by rw [List.length_drop]; omega) (Nat.le_refl _)]
def stSz (l : List Nat) (S : List (List Nat × Nat)) : Nat := (S.map fun p => sz (l.drop p.2)).sum
theorem stSz_cons (l : List Nat) (p : List Nat × Nat) (S : List (List Nat × Nat)) : stSz l (p :: S) = sz (l.drop p.2) + stSz l S := rfl
theorem stSz_app (l : List Nat) (S T : List (List Nat × Nat)) : stSz l (S ++ T) = stSz l S + stSz l T := by
  unfold stSz
  rw [List.map_append, List.sum_append]
theorem stSz_kids (l : List Nat) (p : List Nat × Nat) : sz (l.drop p.2) = 1 + stSz l (kids l p) := by
  rw [sz_eq]
  unfold stSz kids sums
  rw [List.map_map]
  congr 2
  apply List.map_congr_left
  intro c _
  show sz ((l.drop p.2).drop _) = sz (l.drop (p.2 + _))
  rw [List.drop_drop]
theorem stSz_len (l : List Nat) : ∀ S : List (List Nat × Nat), S.length ≤ stSz l S
  | [] => Nat.zero_le _
  | p :: S => by
    rw [stSz_cons, List.length_cons, sz_eq]
    have := stSz_len l S
    omega
/-- at most one letter of each length -/
theorem sums_mt (f : Nat → Nat) (m : List Nat) : sums (fun c => f (sg c).length) (mt m) ≤ (if 1 ≤ m.length then f 1 else 0) + (if 2 ≤ m.length then f 2 else 0) + (if 3 ≤ m.length then f 3 else 0) + (if 4 ≤ m.length then f 4 else 0) := by
  have one : ∀ k, sums (fun c => f (sg c).length) ((mt m).filter fun c => (sg c).length == k) ≤ (if k ≤ m.length then f k else 0) := by
    intro k
    by_cases hk : k ≤ m.length
    · rw [if_pos hk, nx_eq]
      unfold nx
      rw [if_pos hk]
      cases q : lto (m.take k) with
      | none => exact Nat.zero_le _
      | some c =>
        have : (sg c).length = k := by rw [(lto_some q).2, List.length_take]; omega
        show f (sg c).length + 0 ≤ _
        rw [this]
        exact Nat.le_refl _
    · rw [if_neg hk, nx_eq]
      unfold nx
      rw [if_neg hk]
      exact Nat.le_refl _
  have spl : ∀ cs : List Nat, (∀ c ∈ cs, 1 ≤ (sg c).length ∧ (sg c).length ≤ 4) → sums (fun c => f (sg c).length) cs = sums (fun c => f (sg c).length) (cs.filter fun c => (sg c).length == 1) + sums (fun c => f (sg c).length) (cs.filter fun c => (sg c).length == 2) + sums (fun c => f (sg c).length) (cs.filter fun c => (sg c).length == 3) + sums (fun c => f (sg c).length) (cs.filter fun c => (sg c).length == 4) := by
    intro cs
    induction cs with
    | nil => intro _; rfl
    | cons c r ih =>
      intro h
      have hc := h c List.mem_cons_self
      rw [sums_cons, ih fun x hx => h x (List.mem_cons_of_mem _ hx)]
      have : (sg c).length = 1 ∨ (sg c).length = 2 ∨ (sg c).length = 3 ∨ (sg c).length = 4 := by omega
      simp only [List.filter_cons]
      rcases this with e | e | e | e <;> rw [e] <;> simp only [Nat.reduceBEq, beq_self_eq_true, if_true, Bool.false_eq_true, if_false] <;> rw [sums_cons, e] <;> omega
  rw [spl (mt m) fun c hc => ⟨(mt_len hc).1, (mt_len hc).2.1⟩]
  have := one 1
  have := one 2
  have := one 3
  have := one 4
  omega
theorem sz_le : ∀ (n : Nat) (m : List Nat), m.length = n → sz m + 1 ≤ 2 ^ (n + 1) := by
  intro n
  induction n using Nat.strongRecOn with
  | ind n ih =>
    intro m hm
    rw [sz_eq]
    have h1 : sums (fun c => sz (m.drop (sg c).length)) (mt m) ≤ sums (fun c => (fun k => 2 ^ (n - k + 1) - 1) (sg c).length) (mt m) := by
      have mono : ∀ cs : List Nat, (∀ c ∈ cs, c ∈ mt m) → sums (fun c => sz (m.drop (sg c).length)) cs ≤ sums (fun c => (fun k => 2 ^ (n - k + 1) - 1) (sg c).length) cs := by
        intro cs
        induction cs with
        | nil => intro _; exact Nat.le_refl _
        | cons c r ihr =>
          intro h
          have hl := mt_len (h c List.mem_cons_self)
          have := ih (n - (sg c).length) (by omega) (m.drop (sg c).length) (by rw [List.length_drop, hm])
          have := ihr fun x hx => h x (List.mem_cons_of_mem _ hx)
          rw [sums_cons, sums_cons]
          dsimp only at *
          omega
      exact mono _ fun c h => h
    have h3 := Nat.le_trans h1 (sums_mt (fun k => 2 ^ (n - k + 1) - 1) m)
    rw [hm] at h3
    clear h1 ih hm
    generalize sums (fun c => sz (m.drop (sg c).length)) (mt m) = x at h3 ⊢
    match n, h3 with
    | 0, h2 => simp at h2; omega
    | 1, h2 => simp at h2; omega
    | 2, h2 => simp at h2; omega
    | 3, h2 => simp at h2; omega
    | k + 4, h2 =>
      rw [if_pos (by omega), if_pos (by omega), if_pos (by omega), if_pos (by omega), show k + 4 - 1 + 1 = k + 4 by omega, show k + 4 - 2 + 1 = k + 3 by omega, show k + 4 - 3 + 1 = k + 2 by omega, show k + 4 - 4 + 1 = k + 1 by omega] at h2
      have e1 : 2 ^ (k + 1) = 2 * 2 ^ k := by rw [Nat.pow_succ]; omega
      have e2 : 2 ^ (k + 2) = 4 * 2 ^ k := by rw [Nat.pow_succ, e1]; omega
      have e3 : 2 ^ (k + 3) = 8 * 2 ^ k := by rw [Nat.pow_succ, e2]; omega
      have e4 : 2 ^ (k + 4) = 16 * 2 ^ k := by rw [Nat.pow_succ, e3]; omega
      have e5 : 2 ^ (k + 4 + 1) = 32 * 2 ^ k := by rw [Nat.pow_succ, e4]; omega
      have hp : 0 < 2 ^ k := Nat.pow_pos (by decide)
      rw [e5]
      rw [e1, e2, e3, e4] at h2
      omega
/-! what stands on the stack, told -/
def expd (l : List Nat) (p : List Nat × Nat) : List (List Nat) := (R' (l.drop p.2)).map (p.1 ++ ·)
theorem expd_kids {l : List Nat} {p : List Nat × Nat} (h : p.2 < l.length) : expd l p = ((kids l p).map (expd l)).flatten := by
  unfold expd kids
  rw [R_cons (drop_ne h), List.map_flatten, List.map_map, List.map_map]
  congr 1
  apply List.map_congr_left
  intro c _
  show ((R' ((l.drop p.2).drop _)).map (c :: ·)).map (p.1 ++ ·) = (R' (l.drop (p.2 + _))).map (p.1 ++ [c] ++ ·)
  rw [List.map_map, List.drop_drop]
  apply List.map_congr_left
  intro u _
  show p.1 ++ c :: u = p.1 ++ [c] ++ u
  rw [List.append_assoc]
  rfl
theorem expd_end {l : List Nat} {w : List Nat} : expd l (w, l.length) = [w] := by
  unfold expd
  show (R' (l.drop l.length)).map (w ++ ·) = [w]
  rw [List.drop_length, R_nil]
  simp
theorem kids_end {l : List Nat} {w : List Nat} : kids l (w, l.length) = [] := by
  unfold kids
  show (mt (l.drop l.length)).map _ = []
  rw [List.drop_length, mt_nil]
  rfl
def strsL (ws : List (List Nat)) : List D := ws.map fun w => .str (sS w)
/-- one letter tried -/
def kid1 (l : List Nat) (p : List Nat × Nat) (c : Nat) : List (List Nat × Nat) := if (sg c).isPrefixOf (l.drop p.2) = true then [(p.1 ++ [c], p.2 + (sg c).length)] else []
theorem kids_all (l : List Nat) (p : List Nat × Nat) : (al.map (kid1 l p)).flatten = kids l p := by
  unfold kids mt kid1
  generalize al = cs
  induction cs with
  | nil => rfl
  | cons c r ih =>
    rw [List.map_cons, List.flatten_cons, ih, List.filter_cons]
    split <;> simp
theorem letter_turn {l : List Nat} {m1 m2 m3 m7 : M} {p : List Nat × Nat} {c : Nat} {rows : List (List Nat × Nat)} (hc : c ∈ al) (hp : p.2 ≤ l.length) (hw : p.1.length ≤ 900) (hr : rows.length ≤ 900) (h7 : Shy m7) :
    bnd (gNm 7 (.str (sS [c])) [.sh (.str (sS l)), m1, m2, m3, .sh (.str (sS p.1)), .sh (.int (p.2 : Int)), .own (rows.map wD), m7]) b_readings_1 = some (.nx, [.sh (.str (sS l)), m1, m2, m3, .sh (.str (sS p.1)), .sh (.int (p.2 : Int)), .own ((rows ++ kid1 l p c).map wD), .sh (.str (sS [c]))]) := by
  have e1 := kd_al c hc
  have e2 := starts3 (l := l) (y := sg c) hp
  have z1 : p.1.length + 1 ≤ lim := lim_of (by omega)
  have z2 : 2 ≤ lim := lim_of (by decide)
  have z3 : (rows.map wD).length < lim := lim_lt' (by rw [List.length_map]; omega)
  have z4 : (sg c).length ≤ lim := lim_of (by have := (sg_pos c hc).2; omega)
  unfold kid1
  obtain ⟨w, a⟩ := p
  dsimp only at *
  by_cases h : (sg c).isPrefixOf (l.drop a) = true
  · rw [if_pos h, List.map_append, List.map_singleton]
    rw [h] at e2
    generalize rows.map wD = rd at *
    unfold wD
    unfold b_readings_1
    simp [shy_free h7, e1, e2, z1, z2, z3, z4]
  · rw [if_neg h, List.append_nil]
    rw [Bool.eq_false_iff.mpr h] at e2
    unfold b_readings_1
    simp [shy_free h7, e1, e2]
theorem letters_all {l : List Nat} {m1 m2 m3 m7 : M} {p : List Nat × Nat} (hp : p.2 ≤ l.length) (hw : p.1.length ≤ 900) (h7 : Shy m7) :
    ∃ m7', forGo (gNm 7) b_readings_1 (charsD (sS al)) [.sh (.str (sS l)), m1, m2, m3, .sh (.str (sS p.1)), .sh (.int (p.2 : Int)), .own [], m7] = some (.nx, [.sh (.str (sS l)), m1, m2, m3, .sh (.str (sS p.1)), .sh (.int (p.2 : Int)), .own ((kids l p).map wD), m7']) ∧ Shy m7' := by
  have hstep : ∀ (cs : List Nat) (rows : List (List Nat × Nat)) (m7 : M), (∀ c ∈ cs, c ∈ al) → rows.length + cs.length ≤ 900 → Shy m7 →
      ∃ m7', forGo (gNm 7) b_readings_1 (cs.map fun c => .str (sS [c])) [.sh (.str (sS l)), m1, m2, m3, .sh (.str (sS p.1)), .sh (.int (p.2 : Int)), .own (rows.map wD), m7] = some (.nx, [.sh (.str (sS l)), m1, m2, m3, .sh (.str (sS p.1)), .sh (.int (p.2 : Int)), .own ((rows ++ (cs.map (kid1 l p)).flatten).map wD), m7']) ∧ Shy m7' := by
    intro cs
    induction cs with
    | nil => intro rows m7 _ _ h; exact ⟨m7, by simp, h⟩
    | cons c r ih =>
      intro rows m7 hc hn h
      rw [List.length_cons] at hn
      have e := letter_turn (m1 := m1) (m2 := m2) (m3 := m3) (rows := rows) (hc c List.mem_cons_self) hp hw (by omega) h
      have hk : (kid1 l p c).length ≤ 1 := by unfold kid1; split <;> simp
      obtain ⟨m7', e2, h2⟩ := ih (rows ++ kid1 l p c) (.sh (.str (sS [c]))) (fun x hx => hc x (List.mem_cons_of_mem _ hx)) (by rw [List.length_append]; omega) (.sh _)
      exact ⟨m7', by rw [List.map_cons, for_step e, e2, List.map_cons, List.flatten_cons, List.append_assoc], h2⟩
  obtain ⟨m7', e, h⟩ := hstep al [] m7 (fun c h => h) (by decide) h7
  rw [kids_all, List.nil_append] at e
  exact ⟨m7', e, h⟩
theorem read_step {l : List Nat} {m4 m5 m6 m7 : M} {most : Int} {p : List Nat × Nat} {S : List (List Nat × Nat)} {found : List (List Nat)} (hl : l.length ≤ 900) (hp : p.2 ≤ l.length) (hw : p.1.length ≤ 900) (hS : S.length + 30 ≤ 1000000) (hf : found.length ≤ 900) (h4 : Shy m4) (h5 : Shy m5) (h6 : freeM (some m6) = true) (h7 : Shy m7) :
    ∃ m6' m7', b_readings_2 [.sh (.str (sS l)), .sh (.int most), .own ((p :: S).reverse.map wD), .own (strsL found), m4, m5, m6, m7] = some (.nx, [.sh (.str (sS l)), .sh (.int most), .own ((kids l p ++ S).reverse.map wD), .own (strsL (if p.2 = l.length then found ++ [p.1] else found)), .sh (.str (sS p.1)), .sh (.int (p.2 : Int)), m6', m7']) ∧ freeM (some m6') = true ∧ Shy m7' := by
  have hL := lim_of (n := l.length) (by omega)
  have hpop : ((p :: S).reverse.map wD)[((p :: S).reverse.map wD).length - 1]? = some (wD p) := by
    rw [List.reverse_cons, List.map_append, List.map_singleton, List.length_append, List.length_singleton]
    simp
  have hdl : ((p :: S).reverse.map wD).dropLast = S.reverse.map wD := by
    rw [List.reverse_cons, List.map_append, List.map_singleton]
    simp
  have hkl : (kids l p).length ≤ 26 := by
    unfold kids mt
    rw [List.length_map]
    exact Nat.le_trans (List.length_filter_le _ _) (by decide)
  have zz : (S.reverse.map wD).length + ((kids l p).map wD).reverse.length ≤ lim := by
    rw [List.length_map, List.length_reverse, List.length_reverse, List.length_map]
    show _ ≤ 1000000
    omega
  have hext : S.reverse.map wD ++ ((kids l p).map wD).reverse = (kids l p ++ S).reverse.map wD := by
    rw [List.reverse_append, List.map_append, List.map_reverse (l := kids l p)]
  have zf : (strsL found).length < lim := lim_lt' (by unfold strsL; rw [List.length_map]; omega)
  have z0 : (0 : Nat) ≤ lim := Nat.zero_le _
  have ff : strsL (found ++ [p.1]) = strsL found ++ [.str (sS p.1)] := by unfold strsL; rw [List.map_append]; rfl
  obtain ⟨w, a⟩ := p
  dsimp only at *
  have hpop : (((w, a) :: S).reverse.map wD)[(((w, a) :: S).reverse.map wD).length - 1]? = some (.tuple [.str (sS w), .int (a : Int)]) := hpop
  rw [← hext]
  by_cases ha : a = l.length
  · rw [if_pos ha, ff]
    obtain ⟨m7', e, k7⟩ := letters_all (l := l) (m1 := .sh (.int most)) (m2 := .own (S.reverse.map wD)) (m3 := .own (strsL found ++ [.str (sS w)])) (p := (w, a)) hp hw h7
    dsimp only at e
    refine ⟨.own ((kids l (w, a)).map wD), m7', ?_, rfl, k7⟩
    generalize (((w, a) :: S).reverse.map wD) = st at *
    generalize S.reverse.map wD = sr at *
    generalize (kids l (w, a)).map wD = kd at *
    generalize strsL found = fd at *
    unfold b_readings_2
    rw [show Str.ofString "abcdefghijklmnopqrstuvwxyz" = sS al from abc_is]
    subst ha
    rw [List.length_reverse] at zz
    simp [hL, hpop, hdl, shy_free h4, shy_free h5, h6, zf, e, zz]
  · rw [if_neg ha]
    obtain ⟨m7', e, k7⟩ := letters_all (l := l) (m1 := .sh (.int most)) (m2 := .own (S.reverse.map wD)) (m3 := .own (strsL found)) (p := (w, a)) hp hw h7
    dsimp only at e
    refine ⟨.own ((kids l (w, a)).map wD), m7', ?_, rfl, k7⟩
    have ha' : ¬ (a : Int) = (l.length : Int) := by omega
    generalize (((w, a) :: S).reverse.map wD) = st at *
    generalize S.reverse.map wD = sr at *
    generalize (kids l (w, a)).map wD = kd at *
    generalize strsL found = fd at *
    unfold b_readings_2
    rw [show Str.ofString "abcdefghijklmnopqrstuvwxyz" = sS al from abc_is]
    rw [List.length_reverse] at zz
    simp [hL, hpop, hdl, shy_free h4, shy_free h5, h6, ha', zf, e, zz]
end Law
/-! k57: the readings -/
namespace Law
open PySem PySem.Spec PyProof.Rows L2 Mi
set_option maxRecDepth 100000
set_option maxHeartbeats 1000000
theorem read_loop {l : List Nat} {most : Int} (hl : l.length ≤ 14) (hm : most ≤ 900) : ∀ (f : Nat) (S : List (List Nat × Nat)) (found : List (List Nat)) (m4 m5 m6 m7 : M), stSz l S < f → stSz l S ≤ 40000 → (∀ p ∈ S, p.2 ≤ l.length ∧ p.1.length ≤ p.2) → (found.length : Int) ≤ most → Shy m4 → Shy m5 → freeM (some m6) = true → Shy m7 →
    ∃ ρ', whGo c_readings_1 b_readings_2 f [.sh (.str (sS l)), .sh (.int most), .own (S.reverse.map wD), .own (strsL found), m4, m5, m6, m7] = some (.nx, ρ') ∧ ρ'.length = 8 ∧ ρ'[3]? = some (.own (strsL ((found ++ (S.map (expd l)).flatten).take most.toNat)))
  | 0, S, found, m4, m5, m6, m7, h, _, _, _, _, _, _, _ => absurd h (Nat.not_lt_zero _)
  | f + 1, S, found, m4, m5, m6, m7, h, h40, hS, hf, h4, h5, h6, h7 => by
    rw [whGo_eq]
    have hsl : (S.reverse.map wD).length = S.length := by rw [List.length_map, List.length_reverse]
    have hfl : (strsL found).length = found.length := by unfold strsL; rw [List.length_map]
    have cond : c_readings_1 [.sh (.str (sS l)), .sh (.int most), .own (S.reverse.map wD), .own (strsL found), m4, m5, m6, m7] = some (decide (0 < S.length) && decide ((found.length : Int) < most), [.sh (.str (sS l)), .sh (.int most), .own (S.reverse.map wD), .own (strsL found), m4, m5, m6, m7]) := by
      unfold c_readings_1
      generalize S.reverse.map wD = sr at *
      generalize strsL found = fd at *
      by_cases h0 : 0 < S.length
      · simp [hsl, hfl, h0]
      · simp [hsl, hfl, h0]
    rw [cond, bnd_some]
    cases S with
    | nil =>
      refine ⟨_, rfl, rfl, ?_⟩
      show some (M.own (strsL found)) = _
      rw [List.map_nil, List.flatten_nil, List.append_nil, List.take_of_length_le (by omega)]
    | cons p S =>
      by_cases hlt : (found.length : Int) < most
      · have hc : (decide (0 < (p :: S).length) && decide ((found.length : Int) < most)) = true := by
          rw [decide_eq_true hlt, List.length_cons, decide_eq_true (by omega)]
          rfl
        rw [if_pos hc]
        obtain ⟨hp1, hp2⟩ := hS p List.mem_cons_self
        rw [stSz_cons, stSz_kids] at h h40
        have hlS := stSz_len l S
        obtain ⟨m6', m7', e, k6, k7⟩ := read_step (l := l) (most := most) (p := p) (S := S) (found := found) (m4 := m4) (m5 := m5) (m6 := m6) (m7 := m7) (by omega) hp1 (by omega) (by omega) (by omega) h4 h5 h6 h7
        rw [e, bnd_some, whO_nx]
        obtain ⟨ρ', e2, q1, q2⟩ := read_loop hl hm f (kids l p ++ S) (if p.2 = l.length then found ++ [p.1] else found) (.sh (.str (sS p.1))) (.sh (.int (p.2 : Int))) m6' m7' (by rw [stSz_app]; omega) (by rw [stSz_app]; omega) (fun q hq => by
          rcases List.mem_append.mp hq with hq | hq
          · unfold kids at hq
            obtain ⟨c, hc, rfl⟩ := List.mem_map.mp hq
            have := mt_len hc
            rw [List.length_drop] at this
            refine ⟨by show p.2 + (sg c).length ≤ l.length; omega, ?_⟩
            show (p.1 ++ [c]).length ≤ p.2 + (sg c).length
            rw [List.length_append, List.length_singleton]
            omega
          · exact hS q (List.mem_cons_of_mem _ hq)) (by
          split
          · rw [List.length_append, List.length_singleton]; omega
          · omega) (.sh _) (.sh _) k6 k7
        refine ⟨ρ', e2, q1, ?_⟩
        rw [q2]
        congr 4
        rw [List.map_append, List.flatten_append, List.map_cons, List.flatten_cons]
        by_cases hpe : p.2 = l.length
        · obtain ⟨w, a⟩ := p
          dsimp only at hpe
          subst hpe
          rw [if_pos rfl, kids_end, expd_end]
          simp
        · rw [if_neg hpe, ← expd_kids (by omega)]
      · have hc : ¬ (decide (0 < (p :: S).length) && decide ((found.length : Int) < most)) = true := by
          rw [decide_eq_false hlt, Bool.and_false]
          exact Bool.false_ne_true
        rw [if_neg hc]
        refine ⟨_, rfl, rfl, ?_⟩
        show some (M.own (strsL found)) = _
        rw [List.take_append_of_le_length (by omega), List.take_of_length_le (by omega)]
theorem readings_ok {l : List Nat} {most : Int} (hl : l.length ≤ 14) (h0 : 0 ≤ most) (hm : most ≤ 900) : phi_readings [.str (sS l), .int most] = some (.fr (strsL ((R' l).take most.toNat))) := by
  have hsz := sz_le l.length l rfl
  have hpow : 2 ^ (l.length + 1) ≤ 2 ^ 15 := Nat.pow_le_pow_right (by decide) (by omega)
  have hst : stSz l [([], 0)] = sz l := by
    rw [stSz_cons]
    show sz (l.drop 0) + 0 = _
    rw [List.drop_zero]
    rfl
  obtain ⟨ρ', e, q1, q2⟩ := read_loop (l := l) (most := most) hl hm 100000 [([], 0)] [] .no .no .no .no (by rw [hst]; omega) (by rw [hst]; omega) (fun p hp => by
    have : p = ([], 0) := by simpa using hp
    subst this
    exact ⟨Nat.zero_le _, Nat.le_refl _⟩) (by simpa using h0) .no .no rfl .no
  have hexp : ([] ++ ([([], 0)].map (expd l)).flatten : List (List Nat)) = R' l := by
    show [] ++ (expd l ([], 0) ++ []) = R' l
    unfold expd
    show [] ++ ((R' (l.drop 0)).map ([] ++ ·) ++ []) = _
    rw [List.drop_zero]
    simp
  rw [hexp] at q2
  have e' : whGo c_readings_1 b_readings_2 100000 [.sh (.str (sS l)), .sh (.int most), .own [.tuple [.str (sS []), .int 0]], .own [], .no, .no, .no, .no] = some (.nx, ρ') := e
  match ρ', q1, q2 with
  | [a0, a1, a2, a3, a4, a5, a6, a7], _, q2 =>
    have q2 : a3 = .own (strsL ((R' l).take most.toNat)) := by simpa using q2
    subst q2
    have z1 : 1 ≤ lim := lim_of (by decide)
    have z2 : 2 ≤ lim := lim_of (by decide)
    unfold phi_readings
    rw [runN_eq (by rfl)]
    unfold m_readings
    rw [join_empty]
    simp [z1, z2, e']
theorem fm_filter {α : Type} {f : α → D} {p : α → Bool} {g : D → Option D} (h : ∀ x, g (f x) = if p x = true then some (f x) else none) : ∀ xs : List α, (xs.map f).filterMap g = (xs.filter p).map f
  | [] => rfl
  | x :: r => by
    rw [List.map_cons, List.filterMap_cons, h x, List.filter_cons, fm_filter h r]
    by_cases hp : p x = true
    · rw [if_pos hp, if_pos hp]; rfl
    · rw [if_neg hp, if_neg hp]
def sent (w : List Nat) : List Nat := (w.map sg).flatten
theorem sounds_ok {words : List (List Nat)} {w : List Nat} (hw : ∀ c ∈ w, c ∈ al) (hwl : w.length ≤ 900) (hs : ∀ x ∈ words, (∀ c ∈ x, c ∈ al) ∧ x.length ≤ 900) (hl : words.length ≤ 900) : phi_sounds_like [.list (strsL words), .str (sS w)] = some (.fr (strsL (words.filter fun x => sent x == sent w))) := by
  have e := lc_pure (gg := gNm 2) (t := t_sounds_like_1) (el := l_sounds_like_1) (vs := [2]) (ds := strsL words) (ρ := [.sh (.list (strsL words)), .sh (.str (sS w)), .no]) (fun d => match d with | .str z => if (sent z.cps.toList == sent w) = true then some (.str z) else none | _ => none) (fun d hd => by
    unfold strsL at hd
    obtain ⟨x, hx, rfl⟩ := List.mem_map.mp hd
    obtain ⟨h1, h2⟩ := hs x hx
    have e1 := sent_ok h1 (by omega)
    have e2 := sent_ok hw (by omega)
    have e3 := sS_eqb (sent x) (sent w)
    unfold sent at e3 ⊢
    dsimp only
    rw [sS_list]
    unfold t_sounds_like_1 l_sounds_like_1
    by_cases h : ((x.map sg).flatten == (w.map sg).flatten) = true
    · rw [h] at e3
      rw [if_pos h]
      simp [e1, e2, of_decide_eq_true e3]
    · rw [Bool.eq_false_iff.mpr h] at e3
      rw [if_neg h]
      simp [e1, e2, of_decide_eq_false e3]) [] (by unfold strsL; rw [List.length_map]; show _ ≤ 1000000; simp; omega)
  have e2 : (strsL words).filterMap (fun d => match d with | .str z => if (sent z.cps.toList == sent w) = true then some (.str z) else none | _ => none) = strsL (words.filter fun x => sent x == sent w) :=
    fm_filter (f := fun w => PyData.str (sS w)) (fun x => rfl) words
  rw [List.nil_append, e2] at e
  unfold phi_sounds_like
  rw [runN_eq (by rfl)]
  unfold m_sounds_like
  simp [e]
end Law
/-! what the law's own helpers give: cells, digits, draws, picks -/
namespace Law
open PySem PySem.Spec PyProof.Rows L2 Mi
set_option maxRecDepth 100000
set_option maxHeartbeats 1000000
def BoxOk (ws : List D) : Prop := ∃ (ds : List Int) (k : Int), ws = [.list (ds.map .int), .int k] ∧ 0 ≤ k
theorem draw_ok {ws : List D} {many : Int} (b : BoxOk ws) (h : 0 < many) : ∃ r ws', phi_law_draw ws [.int many] = some (.sh (.int r), ws') ∧ BoxOk ws' ∧ 0 ≤ r ∧ r < many := by
  obtain ⟨ds, k, rfl, hk⟩ := b
  unfold phi_law_draw
  rw [runIO_eq (by rfl)]
  unfold m_law_draw
  simp [h]
  by_cases hl : (ds.length : Int) < k + 1
  · simp [hl, i64]
    exact ⟨_, _, ⟨rfl, rfl⟩, ⟨ds, k + 1, rfl, by omega⟩, Int.emod_nonneg _ (by omega), Int.emod_lt_of_pos _ h⟩
  · have hkl : k.toNat < ds.length := by omega
    simp [hl, atI_pos hk, hkl, h]
    exact ⟨_, _, ⟨rfl, rfl⟩, ⟨ds, k + 1, rfl, by omega⟩, Int.emod_nonneg _ (by omega), Int.emod_lt_of_pos _ h⟩
theorem mem_atI {α : Type} {xs : List α} {i : Int} (h0 : 0 ≤ i) (h : i < xs.length) : ∃ x, atI xs i = some x ∧ x ∈ xs := by
  rw [atI_pos h0]
  have hl : i.toNat < xs.length := by omega
  exact ⟨xs[i.toNat], List.getElem?_eq_getElem hl, List.getElem_mem hl⟩
theorem pick_ok {ws row : List D} (b : BoxOk ws) (h : row ≠ []) : ∃ d ws', phi_law_pick ws [.list row] = some (.sh d, ws') ∧ BoxOk ws' ∧ d ∈ row := by
  obtain ⟨r, ws1, e1, b1, h0, h1⟩ := draw_ok (many := 1000) b (by decide)
  have hl : 0 < (row.length : Int) := by
    cases row with
    | nil => exact absurd rfl h
    | cons x r => rw [List.length_cons]; omega
  obtain ⟨x, e2, m2⟩ := mem_atI (Int.emod_nonneg r (by omega)) (Int.emod_lt_of_pos r hl)
  unfold phi_law_pick
  rw [runIO_eq (by rfl)]
  unfold m_law_pick
  have hn : 0 < row.length := by omega
  simp [e1, hn, e2]
  exact ⟨_, _, ⟨rfl, rfl⟩, b1, m2⟩
theorem picks_ok {ws : List D} {z : Str} (b : BoxOk ws) (h : z.cps.toList ≠ []) (hz : z.length ≤ lim) : ∃ c ws', phi_law_pick ws [.str z] = some (.sh (.str ⟨#[c]⟩), ws') ∧ BoxOk ws' ∧ c ∈ z.cps.toList := by
  obtain ⟨r, ws1, e1, b1, h0, h1⟩ := draw_ok (many := 1000) b (by decide)
  have hzl : z.length = z.cps.toList.length := Array.length_toList.symm
  have hl : 0 < (z.length : Int) := by
    rw [hzl]
    cases q : z.cps.toList with
    | nil => exact absurd q h
    | cons x r => rw [List.length_cons]; omega
  obtain ⟨x, e2, m2⟩ := mem_atI (xs := z.cps.toList) (i := r % (z.length : Int)) (Int.emod_nonneg r (by omega)) (by rw [← hzl]; exact Int.emod_lt_of_pos r hl)
  unfold phi_law_pick
  rw [runIO_eq (by rfl)]
  unfold m_law_pick
  have hn : 0 < z.length := by omega
  simp [e1, hn, hz, e2]
  exact ⟨_, _, ⟨rfl, rfl⟩, b1, by simpa using m2⟩
theorem cell_ok (ns : List Int) {k : Int} (hk : 0 ≤ k) : ∃ z, phi_law_cell [frzD (ns.map .int), .int k] = some (.sh (.int z)) := by
  unfold phi_law_cell
  rw [runN_eq (by rfl)]
  unfold m_law_cell
  by_cases hl : k < ns.length
  · have hkl : k.toNat < ns.length := by omega
    simp [hl, atI_pos hk, hkl]
  · simp [hl]
end Law
/-! the digits -/
namespace Law
open PySem PySem.Spec PyProof.Rows L2 Mi
set_option maxRecDepth 100000
set_option maxHeartbeats 1000000
/-- the digits as they stand: no more than n of them -/
def Dig (n : Nat) (ρ : En) : Prop := ∃ (m0 m1 m2 : M) (k c : Int) (m6 m7 : M) (ds : List Int), ρ = [m0, m1, m2, .own (ds.map .int), .sh (.int k), .sh (.int c), m6, m7] ∧ ds.length ≤ n ∧ (∃ s : List Int, m0 = .sh (frzD (s.map .int))) ∧ Shy m6 ∧ Shy m7
theorem dig1 (n : Nat) (ρ : En) (d : D) (h : Dig n ρ) (hn : n < lim) : ∃ ρ2, bnd (gNm 6 d ρ) b_law_digits_1 = some (.nx, ρ2) ∧ Dig (n + 1) ρ2 := by
  obtain ⟨m0, m1, m2, k, c, m6, m7, ds, rfl, hl, hs, y6, y7⟩ := h
  have h2 : ds.length < lim := by omega
  unfold b_law_digits_1
  by_cases hc : 0 < c
  · simp [shy_free y6, hc, h2]
    exact ⟨_, _, _, _, _, _, _, ds ++ [c % 1000], by rw [List.map_append]; rfl, by rw [List.length_append, List.length_singleton]; omega, hs, .sh _, y7⟩
  · simp [shy_free y6, hc]
    exact ⟨_, _, _, _, _, _, _, ds, rfl, by omega, hs, .sh _, y7⟩
def Dig7 (n : Nat) (ρ : En) : Prop := Dig n ρ ∧ ∃ z : Int, ρ[7]? = some (.sh (.int z))
theorem dig2 (n : Nat) (ρ : En) (d : D) (hd : ∃ t, d = .int t) (h : Dig7 n ρ) (hn : n < lim) : ∃ ρ2, bnd (gNm 6 d ρ) b_law_digits_2 = some (.nx, ρ2) ∧ Dig7 (n + 1) ρ2 := by
  obtain ⟨t, rfl⟩ := hd
  obtain ⟨⟨m0, m1, m2, k, c, m6, m7, ds, rfl, hl, hs, y6, y7⟩, z, hz⟩ := h
  have hz : m7 = .sh (.int z) := by simpa using hz
  subst hz
  have h2 : ds.length < lim := by omega
  unfold b_law_digits_2
  simp [shy_free y6, h2, i64]
  exact ⟨⟨_, _, _, _, _, _, _, ds ++ [(z * 16807 + 7 * t + 1) % 2147483647 / 997 % 1000], by rw [List.map_append]; rfl, by rw [List.length_append, List.length_singleton]; omega, hs, .sh _, .sh _⟩, _, rfl⟩
def Dig0 (n : Nat) (ρ : En) : Prop := ∃ (m0 m1 m2 m4 m5 m6 m7 : M) (ds : List Int), ρ = [m0, m1, m2, .own (ds.map .int), m4, m5, m6, m7] ∧ ds.length ≤ n * 60 ∧ (∃ s : List Int, m0 = .sh (frzD (s.map .int))) ∧ Shy m4 ∧ Shy m5 ∧ Shy m6 ∧ Shy m7
theorem dig3 (n : Nat) (ρ : En) (d : D) (hd : ∃ k, d = .int k ∧ 0 ≤ k) (h : Dig0 n ρ) (hn : n < 1000) : ∃ ρ2, bnd (gNm 4 d ρ) b_law_digits_3 = some (.nx, ρ2) ∧ Dig0 (n + 1) ρ2 := by
  obtain ⟨k, rfl, hk⟩ := hd
  obtain ⟨m0, m1, m2, m4, m5, m6, m7, ds, rfl, hl, ⟨s, rfl⟩, y4, y5, y6, y7⟩ := h
  obtain ⟨z, ez⟩ := cell_ok s hk
  -- the loops, at any cell
  have big : ∀ c : Int, ∃ ρ', forGo (gNm 6) b_law_digits_1 (rangeD 0 60) [.sh (frzD (s.map .int)), m1, m2, .own (ds.map .int), .sh (.int k), .sh (.int c), m6, m7] = some (.nx, ρ') ∧ Dig0 (n + 1) ρ' := fun c => by
    obtain ⟨ρ', e, m0, q1, q2, k', c', q6, q7, xs, rfl, hx, hs, w6, w7⟩ := turns (S := Dig) (ok := fun _ => True) lim (fun n ρ d _ h hn => dig1 n ρ d h hn) (n := n * 60) (ρ := [.sh (frzD (s.map .int)), m1, m2, .own (ds.map .int), .sh (.int k), .sh (.int c), m6, m7]) (ds := rangeD 0 60) (fun _ _ => trivial)
      ⟨_, _, _, _, _, _, _, ds, rfl, hl, ⟨s, rfl⟩, y6, y7⟩ (by rw [rangeD_len]; show _ ≤ 1000000; simp; omega)
    exact ⟨_, e, _, _, _, _, _, _, _, xs, rfl, by rw [rangeD_len] at hx; simp at hx; omega, hs, .sh _, .sh _, w6, w7⟩
  have few : ∀ c z : Int, ∃ ρ', forGo (gNm 6) b_law_digits_2 (rangeD 0 12) [.sh (frzD (s.map .int)), m1, m2, .own (ds.map .int), .sh (.int k), .sh (.int c), m6, .sh (.int z)] = some (.nx, ρ') ∧ Dig0 (n + 1) ρ' := fun c z => by
    obtain ⟨ρ', e, ⟨m0, q1, q2, k', c', q6, q7, xs, rfl, hx, hs, w6, w7⟩, _⟩ := turns (S := Dig7) (ok := fun d => ∃ t, d = .int t) lim dig2 (n := n * 60) (ρ := [.sh (frzD (s.map .int)), m1, m2, .own (ds.map .int), .sh (.int k), .sh (.int c), m6, .sh (.int z)]) (ds := rangeD 0 12) (fun d hd => (rangeD_mem hd).elim fun t h => ⟨t, h.1⟩)
      ⟨⟨_, _, _, _, _, _, _, ds, rfl, hl, ⟨s, rfl⟩, y6, .sh _⟩, z, rfl⟩ (by rw [rangeD_len]; show _ ≤ 1000000; simp; omega)
    exact ⟨_, e, _, _, _, _, _, _, _, xs, rfl, by rw [rangeD_len] at hx; simp at hx; omega, hs, .sh _, .sh _, w6, w7⟩
  unfold b_law_digits_3
  by_cases hz : z < 0
  · by_cases hc : (1000000000000000000 : Int) ≤ 1 - 2 * z
    · obtain ⟨ρ', e, h⟩ := big (1 - 2 * z)
      simp [shy_free y4, shy_free y5, ez, hz, hc, e, i64, i62]
      exact h
    · obtain ⟨ρ', e, h⟩ := few (1 - 2 * z) (((1 - 2 * z) * 48271 + k * 69621 + 11) % 2147483647)
      simp [shy_free y4, shy_free y5, shy_free y7, ez, hz, hc, e, i64, i62]
      exact h
  · by_cases hc : (1000000000000000000 : Int) ≤ z
    · obtain ⟨ρ', e, h⟩ := big z
      simp [shy_free y4, shy_free y5, ez, hz, hc, e, i64, i62]
      exact h
    · obtain ⟨ρ', e, h⟩ := few z ((z * 48271 + k * 69621 + 11) % 2147483647)
      simp [shy_free y4, shy_free y5, shy_free y7, ez, hz, hc, e, i64, i62]
      exact h
theorem digits_ok (ns : List Int) {b : Int} (hb : 0 ≤ b) (h1 : b ≤ 100) : ∃ ds : List Int, phi_law_digits [frzD (ns.map .int), .int 0, .int b] = some (.fr (ds.map .int)) := by
  obtain ⟨ρ', e, m0, m1, m2, m4, m5, m6, m7, ds, rfl, _⟩ := turns (S := Dig0) (ok := fun d => ∃ k, d = .int k ∧ 0 ≤ k) 1000 dig3 (n := 0) (ρ := [.sh (frzD (ns.map .int)), .sh (.int 0), .sh (.int b), .own [], .no, .no, .no, .no]) (ds := rangeD 0 b) (fun d hd => (rangeD_mem hd).elim fun t h => ⟨t, h.1, h.2.1⟩)
      ⟨_, _, _, _, _, _, _, [], rfl, Nat.zero_le _, ⟨ns, rfl⟩, .no, .no, .no, .no⟩ (by rw [rangeD_len]; omega)
  have z2 : i62 b = true := i62_of (by omega) (by omega)
  have z0 : i62 0 = true := by decide
  refine ⟨ds, ?_⟩
  unfold phi_law_digits
  rw [runN_eq (by rfl)]
  unfold m_law_digits
  simp [z0, z2, e]
/-- a box as the law makes it -/
theorem box_ok (ds : List Int) : BoxOk [.list (ds.map .int), .int 0] := ⟨ds, 0, rfl, Int.le_refl 0⟩
end Law
/-! two alike things are the same -/
namespace Law
open PySem PySem.Spec PyProof.Rows L2 Mi
set_option maxRecDepth 100000
set_option maxHeartbeats 1000000
/-- data that the law may ask for, no deeper than n -/
def okD : Nat → D → Prop
  | _, .none => True
  | _, .bool _ => True
  | _, .int i => i64 i = true
  | _, .str x => (reprText x).length ≤ lim
  | 0, _ => False
  | n + 1, .list ds => ds.length ≤ lim ∧ plainDs ds = true ∧ ∀ d ∈ ds, okD n d
  | n + 1, .tuple ds => ds.length ≤ lim ∧ plainDs ds = true ∧ ∀ d ∈ ds, okD n d
  | _, .dict _ => False
theorem same_loop {φ : List D → Option R} {d : D} {get : Int → Option D} (hg : ∀ k, ixD d (.int k) = (get k).map .sh) : ∀ (ks : List D) (m : M), Shy m → (∀ k ∈ ks, ∃ z e, k = .int z ∧ get z = some e ∧ φ [e, e] = some (.sh (.bool true))) →
    ∃ m', forGo (gNm 2) (b_law_same_1 φ) ks [.sh d, .sh d, m] = some (.nx, [.sh d, .sh d, m'])
  | [], m, _, _ => ⟨_, rfl⟩
  | k :: ks, m, hm, h => by
    obtain ⟨z, e, rfl, he, hφ⟩ := h k List.mem_cons_self
    obtain ⟨ρ', e'⟩ := same_loop hg ks (.sh (.int z)) (.sh _) fun k hk => h k (List.mem_cons_of_mem _ hk)
    refine ⟨ρ', ?_⟩
    rw [forGo_cons]
    unfold b_law_same_1
    simp [shy_free hm, hg, he, hφ]
    exact e'
theorem same_ok : ∀ (n : Nat) (d : D), okD n d → phi_law_same (n + 1) [d, d] = some (.sh (.bool true)) := by
  intro n
  induction n with
  | zero =>
    intro d h
    unfold phi_law_same
    rw [runN_eq (by rfl)]
    unfold m_law_same
    cases d with
    | none => simp
    | bool b => cases b <;> simp
    | int i => simp [reprD_i h]
    | str x => simp [reprD_s h]
    | list ds => exact False.elim h
    | tuple ds => exact False.elim h
    | dict ds => exact False.elim h
  | succ n ih =>
    intro d h
    unfold phi_law_same
    rw [runN_eq (by rfl)]
    unfold m_law_same
    cases d with
    | none => simp
    | bool b => cases b <;> simp
    | int i => simp [reprD_i h]
    | str x => simp [reprD_s h]
    | list ds =>
      obtain ⟨hl, hp, hd⟩ := h
      have hl' : ds.length ≤ 1000000 := hl
      have z : i62 (ds.length : Int) = true := i62_of (by omega) (by omega)
      obtain ⟨ρ', e⟩ := same_loop (φ := phi_law_same (n + 1)) (d := .list ds) (get := fun k => atI ds k) (fun k => rfl) (rangeD 0 ds.length) .no .no fun k hk => by
        obtain ⟨k, rfl, h0, h1⟩ := rangeD_mem hk
        obtain ⟨x, e, hx⟩ := mem_atI h0 h1
        exact ⟨k, x, rfl, e, ih x (hd x hx)⟩
      simp [hp, z, e]
    | tuple ds =>
      obtain ⟨hl, hp, hd⟩ := h
      have hl' : ds.length ≤ 1000000 := hl
      have z : i62 (ds.length : Int) = true := i62_of (by omega) (by omega)
      obtain ⟨ρ', e⟩ := same_loop (φ := phi_law_same (n + 1)) (d := .tuple ds) (get := fun k => atI ds k) (fun k => rfl) (rangeD 0 ds.length) .no .no fun k hk => by
        obtain ⟨k, rfl, h0, h1⟩ := rangeD_mem hk
        obtain ⟨x, e, hx⟩ := mem_atI h0 h1
        exact ⟨k, x, rfl, e, ih x (hd x hx)⟩
      simp [hp, z, e]
    | dict ds => exact False.elim h
end Law
/-! mixing keeps what is there -/
namespace Law
open PySem PySem.Spec PyProof.Rows L2 Mi
set_option maxRecDepth 100000
set_option maxHeartbeats 1000000
theorem era_perm {α : Type} : ∀ (l : List α) (i : Nat) (h : i < l.length), (l[i] :: l.eraseIdx i).Perm l
  | x :: r, 0, _ => List.Perm.refl _
  | x :: r, i + 1, h => by
    have ih := era_perm r i (by simpa using h)
    exact (List.Perm.swap x _ _).trans (ih.cons x)
theorem pop_at {ds : List D} {r : Int} (h0 : 0 ≤ r) (h1 : r < ds.length) : ∃ d, seqIndex? r ds.length = some r.toNat ∧ ds[r.toNat]? = some d ∧ (d :: ds.eraseIdx r.toNat).Perm ds := by
  have hl : r.toNat < ds.length := by omega
  refine ⟨ds[r.toNat], ?_, List.getElem?_eq_getElem hl, ?_⟩
  · rw [seqIndex_of h0 (by omega)]
  · exact era_perm ds r.toNat hl
theorem mix_turn {ws row left found : List D} {m4 : M} (d : D) (b : BoxOk ws) (hl : left ≠ []) (hn : left.length ≤ 900) (hf : found.length ≤ 900) (h4 : Shy m4) :
    ∃ ws' x left', bnd (gNm 4 d [.io ws, .sh (.list row), .own left, .own found, m4]) b_law_mixed_1 = some (.nx, [.io ws', .sh (.list row), .own left', .own (found ++ [x]), .sh d]) ∧ BoxOk ws' ∧ (x :: left').Perm left ∧ left'.length + 1 = left.length := by
  have hp : 0 < (left.length : Int) := by
    cases left with
    | nil => exact absurd rfl hl
    | cons x r => rw [List.length_cons]; omega
  obtain ⟨r, w1, e1, b1, h0, h1⟩ := draw_ok b hp
  obtain ⟨x, e2, e3, pm⟩ := pop_at h0 h1
  have z : i62 r = true := i62_of (by omega) (by omega)
  have zf : found.length < lim := by show _ < 1000000; omega
  refine ⟨w1, x, left.eraseIdx r.toNat, ?_, b1, pm, by rw [List.length_eraseIdx_of_lt (by omega)]; omega⟩
  unfold b_law_mixed_1
  simp [shy_free h4, e1, e2, e3, z, zf]
theorem mixed_ok {ws row : List D} (b : BoxOk ws) (hr : row.length ≤ 900) : ∃ ys ws', phi_law_mixed ws [.list row] = some (.fr ys, ws') ∧ BoxOk ws' ∧ ys.Perm row := by
  have loop : ∀ (ds : List D) (ws left found : List D) (m4 : M), ds.length = left.length → left.length + found.length ≤ 900 → BoxOk ws → (found ++ left).Perm row → Shy m4 →
      ∃ ws' found' m4', forGo (gNm 4) b_law_mixed_1 ds [.io ws, .sh (.list row), .own left, .own found, m4] = some (.nx, [.io ws', .sh (.list row), .own [], .own found', m4']) ∧ BoxOk ws' ∧ found'.Perm row := by
    intro ds
    induction ds with
    | nil =>
      intro ws left found m4 h1 h2 b p h4
      have : left = [] := List.eq_nil_of_length_eq_zero (by simpa using h1.symm)
      subst this
      exact ⟨ws, found, m4, rfl, b, by simpa using p⟩
    | cons d r ih =>
      intro ws left found m4 h1 h2 b p h4
      rw [List.length_cons] at h1
      have hne : left ≠ [] := fun e => by rw [e] at h1; simp at h1
      obtain ⟨w1, x, left', e1, b1, pm, hl'⟩ := mix_turn (row := row) (found := found) d b hne (by omega) (by omega) h4
      obtain ⟨w2, found', m4', e2, b2, p2⟩ := ih w1 left' (found ++ [x]) (.sh d) (by omega) (by rw [List.length_append, List.length_singleton]; omega) b1 (by
        rw [List.append_assoc]
        exact (List.Perm.append_left found pm).trans p) (.sh _)
      exact ⟨w2, found', m4', by rw [for_step e1, e2], b2, p2⟩
  obtain ⟨w2, found', m4', e, b2, p2⟩ := loop (rangeD 0 (row.length : Int)) ws row [] .no (by rw [rangeD_len]; omega) (by simp; omega) b (by simp) .no
  refine ⟨found', w2, ?_, b2, p2⟩
  have z : i62 (row.length : Int) = true := i62_of (by omega) (by omega)
  have z0 : (0 : Nat) ≤ lim := Nat.zero_le _
  unfold phi_law_mixed
  rw [runIO_eq (by rfl)]
  unfold m_law_mixed
  simp [z, e]
end Law
/-! k57: the law -/
namespace Law
open PySem PySem.Spec PyProof.Rows L2 Mi
set_option maxRecDepth 100000
set_option maxHeartbeats 1000000
def OkT (l : List Nat) : Prop := l.length ≤ 900 ∧ ∀ c ∈ l, c < 1114112
theorem okT_D {n : Nat} {l : List Nat} (h : OkT l) : okD n (.str (sS l)) := by
  have e : (reprText (sS l)).length ≤ lim := by
    show _ ≤ 1000000
    have := repr_len l h.2
    have := h.1
    omega
  cases n <;> exact e
theorem same_text {l : List Nat} (h : OkT l) : phi_law_same 12 [.str (sS l), .str (sS l)] = some (.sh (.bool true)) := same_ok 11 _ (okT_D h)
theorem same_int {i : Int} (h : i64 i = true) : phi_law_same 12 [.int i, .int i] = some (.sh (.bool true)) := same_ok 11 _ h
theorem same_strs {ws : List (List Nat)} (hl : ws.length ≤ 900) (h : ∀ w ∈ ws, OkT w) : phi_law_same 12 [.list (strsL ws), .list (strsL ws)] = some (.sh (.bool true)) := same_ok 11 _ ⟨by
  unfold strsL
  rw [List.length_map]
  exact lim_of (by omega), plain_all fun d hd => by
    unfold strsL at hd
    obtain ⟨w, _, rfl⟩ := List.mem_map.mp hd
    rfl, fun d hd => by
    unfold strsL at hd
    obtain ⟨w, hw, rfl⟩ := List.mem_map.mp hd
    exact okT_D (h w hw)⟩
theorem al_ok {c : Nat} (h : c ∈ al) : c < 1114112 := by
  have : ∀ c ∈ al, c < 1114112 := by decide +kernel
  exact this c h
theorem dots_ok {l : List Nat} (h : Dots l) (hl : l.length ≤ 900) : OkT l := ⟨hl, fun c hc => by rcases h c hc with rfl | rfl <;> omega⟩
theorem sent_dots {w : List Nat} (h : ∀ c ∈ w, c ∈ al) : Dots (sent w) := fun s hs => by
  unfold sent at hs
  obtain ⟨l, hl, hsl⟩ := List.mem_flatten.mp hs
  obtain ⟨c, hc, rfl⟩ := List.mem_map.mp hl
  exact sg_dots c (h c hc) s hsl
theorem sent_len : ∀ {w : List Nat}, (∀ c ∈ w, c ∈ al) → w.length ≤ (sent w).length ∧ (sent w).length ≤ 4 * w.length
  | [], _ => ⟨Nat.le_refl _, Nat.le_refl _⟩
  | c :: w, h => by
    have ih := sent_len (w := w) fun x hx => h x (List.mem_cons_of_mem _ hx)
    have hc := sg_pos c (h c List.mem_cons_self)
    have e : sent (c :: w) = sg c ++ sent w := rfl
    rw [e, List.length_append, List.length_cons]
    omega
/-- every reading is sent as the message -/
theorem R_sent : ∀ (n : Nat) (l : List Nat), l.length ≤ n → ∀ u ∈ R' l, (∀ c ∈ u, c ∈ al) ∧ sent u = l
  | _, [], _, u, hu => by
    have : u = [] := by rw [R_nil] at hu; simpa using hu
    subst this
    exact ⟨fun c h => (by cases h), rfl⟩
  | 0, x :: l, h, _, _ => by simp at h
  | n + 1, x :: l, h, u, hu => by
    rw [R_cons (by simp)] at hu
    obtain ⟨ls, hls, hu⟩ := List.mem_flatten.mp hu
    obtain ⟨c, hc, rfl⟩ := List.mem_map.mp hls
    obtain ⟨v, hv, rfl⟩ := List.mem_map.mp hu
    have hl := mt_len hc
    obtain ⟨h1, h2⟩ := R_sent n ((x :: l).drop (sg c).length) (by rw [List.length_drop]; omega) v hv
    refine ⟨fun d hd => ?_, ?_⟩
    · rcases List.mem_cons.mp hd with rfl | hd
      · exact mt_al hc
      · exact h1 d hd
    · show sg c ++ sent v = _
      rw [h2]
      conv => lhs; lhs; rw [List.prefix_iff_eq_take.mp (mt_pre hc)]
      exact List.take_append_drop _ _
theorem R_ok {l u : List Nat} (hl : l.length ≤ 900) (hu : u ∈ R' l) : (∀ c ∈ u, c ∈ al) ∧ sent u = l ∧ u.length ≤ l.length ∧ OkT u := by
  obtain ⟨h1, h2⟩ := R_sent l.length l (Nat.le_refl _) u hu
  have := (sent_len h1).1
  rw [h2] at this
  exact ⟨h1, h2, this, by omega, fun c hc => al_ok (h1 c hc)⟩
theorem fmin_in {x : List Nat} : ∀ {xs : List (List Nat)}, xs ≠ [] → fminL xs ∈ xs
  | [], h => absurd rfl h
  | x :: xs, _ => fmin_mem xs x
theorem bw_R : ∀ (n : Nat) (l : List Nat), l.length ≤ n → Dots l → bw l ∈ R' l
  | _, [], _, _ => by rw [bw_nil, R_nil]; exact List.mem_singleton_self _
  | 0, x :: l, h, _ => by simp at h
  | n + 1, x :: l, h, hd => by
    have hne : mt (x :: l) ≠ [] := mt_ne hd (by simp)
    have hm := fmin_in (x := []) (xs := (mt (x :: l)).map fun c => c :: bw ((x :: l).drop (sg c).length)) (by
      intro e
      exact hne (List.map_eq_nil_iff.mp e))
    rw [← bw_cons (by simp)] at hm
    obtain ⟨c, hc, e⟩ := List.mem_map.mp hm
    have hl := mt_len hc
    have ih := bw_R n ((x :: l).drop (sg c).length) (by rw [List.length_drop]; omega) (hd.drop _)
    rw [← e, R_cons (by simp)]
    exact List.mem_flatten.mpr ⟨_, List.mem_map.mpr ⟨c, hc, rfl⟩, List.mem_map.mpr ⟨_, ih, rfl⟩⟩
/-! the message -/
theorem chars_of {P : Nat → Prop} : ∀ {ys : List D}, (∀ y ∈ ys, ∃ c, y = .str (sS [c]) ∧ P c) → ∃ cs : List Nat, ys = cs.map (fun c => .str (sS [c])) ∧ ∀ c ∈ cs, P c
  | [], _ => ⟨[], rfl, by simp⟩
  | y :: ys, h => by
    obtain ⟨c, rfl, hc⟩ := h y List.mem_cons_self
    obtain ⟨cs, rfl, hcs⟩ := chars_of fun y hy => h y (List.mem_cons_of_mem _ hy)
    exact ⟨c :: cs, rfl, fun x hx => by
      rcases List.mem_cons.mp hx with rfl | hx
      · exact hc
      · exact hcs x hx⟩
theorem join_chars {cs : List Nat} (h : cs.length ≤ 1000) : joinD (.str (Str.ofString "")) (.list (cs.map fun c => .str (sS [c]))) = some (.sh (.str (sS cs))) := by
  have e : (cs.map fun c => PyData.str (sS [c])) = (cs.map fun c => [c]).map fun l => .str (sS l) := by rw [List.map_map]; rfl
  have hf : (cs.map fun c => [c]).flatten = cs := by
    clear e h
    induction cs with
    | nil => rfl
    | cons c r ih => rw [List.map_cons, List.flatten_cons, ih]; rfl
  rw [e, join_all (by rw [hf]; omega), hf]
/-- signs drawn from a text -/
theorem draws_ok {g : MG} {el : MR} {v : Nat} {S : List D → En} {z : List Nat} {k : Int} (hz : z ≠ []) (hzl : z.length ≤ 900)
    (hel : ∀ (ws ws' : List D) (d : D) (c : Nat), phi_law_pick ws [.str (sS z)] = some (.sh (.str (sS [c])), ws') → lcTurn g mYes el [v] d (S ws) = some (some (.str (sS [c])), S ws')) {ws : List D} (b : BoxOk ws) (hk : k ≤ 100) :
    ∃ (cs : List Nat) (ws' : List D), lcGo g mYes el [v] (rangeD 0 k) (S ws) [] = some (cs.map fun c => .str (sS [c]), S ws') ∧ BoxOk ws' ∧ cs.length = k.toNat ∧ ∀ c ∈ cs, c ∈ z := by
  obtain ⟨ys, ρ1, e2, ⟨w2, rfl, b2⟩, hy, hn⟩ := lc_invA (gg := g) (t := mYes) (el := el) (vs := [v]) (ds := rangeD 0 k) (ρ := S ws) (fun ρ => ∃ ws, ρ = S ws ∧ BoxOk ws) (fun d => ∃ c, d = .str (sS [c]) ∧ c ∈ z)
    (fun d _ ρ h => by
      obtain ⟨ws, rfl, b⟩ := h
      obtain ⟨c, w1, e1, b1, hc⟩ := picks_ok (z := sS z) b (by simpa using hz) (by rw [sS_len]; exact lim_of (by omega))
      exact ⟨.str (sS [c]), S w1, hel ws w1 d c e1, ⟨w1, rfl, b1⟩, c, rfl, by simpa using hc⟩) ⟨ws, rfl, b⟩ [] (by rw [rangeD_len]; show _ ≤ 1000000; simp; omega)
  obtain ⟨cs, rfl, hc⟩ := chars_of hy
  rw [List.length_map, rangeD_len] at hn
  exact ⟨cs, w2, e2, b2, by omega, hc⟩
theorem dd_is : Str.ofString ".-" = sS [46, 45] := by decide +kernel
theorem dd_mem {c : Nat} (h : c ∈ [46, 45]) : c = 46 ∨ c = 45 := by simpa using h
theorem message_ok {ws : List D} (b : BoxOk ws) : ∃ (l : List Nat) (ws' : List D), phi_law_message ws [] = some (.sh (.str (sS l)), ws') ∧ BoxOk ws' ∧ Dots l ∧ l.length ≤ 14 := by
  obtain ⟨r1, w1, e1, b1, h10, h11⟩ := draw_ok (many := 4) b (by decide)
  obtain ⟨x, w2, e2, b2, hx⟩ := pick_ok (row := [.int 14, .int 13, .int 10, .int 7, .int 5, .int 3, .int 1, .int 0, .int 12]) b1 (by simp)
  have hz : ∃ z : Int, x = .int z ∧ 0 ≤ z ∧ z ≤ 14 := by
    simp at hx
    rcases hx with rfl | rfl | rfl | rfl | rfl | rfl | rfl | rfl | rfl <;> exact ⟨_, rfl, by omega, by omega⟩
  obtain ⟨size, rfl, hs0, hs1⟩ := hz
  have z9 : 9 ≤ lim := lim_of (by decide)
  have zs : i62 size = true := i62_of (by omega) (by omega)
  by_cases h1 : r1 = 0
  · subst h1
    obtain ⟨r3, w3, e3, b3, h30, h31⟩ := draw_ok (many := 6) b2 (by decide)
    obtain ⟨cs, w4, e4, b4, hcl, hcm⟩ := draws_ok (g := gNm 4) (el := l_law_message_2) (v := 4) (S := fun ws => [.io ws, .sh (.int 0), .sh (.int size), .no, .no]) (z := al) (k := 1 + r3) (by decide) (by decide) (fun ws ws' d c e => by
      unfold l_law_message_2
      rw [show Str.ofString "abcdefghijklmnopqrstuvwxyz" = sS al from abc_is]
      simp [e]) b3 (by omega)
    have e5 := join_chars (cs := cs) (by omega)
    have e6 := spelt_ok (w := cs) hcm (by omega)
    have e7 := join_all (ls := cs.map sg) (by have := (sent_len hcm).2; unfold sent at this; omega)
    rw [List.map_map] at e7
    have hsl := sent_len hcm
    have zr : i62 (1 + r3) = true := i62_of (by omega) (by omega)
    refine ⟨(sent cs).take 14, w4, ?_, b4, fun c hc => sent_dots hcm c (List.mem_of_mem_take hc), by rw [List.length_take]; omega⟩
    have e7' : joinD (.str (Str.ofString "")) (.list (cs.map fun c => .str (sS (sg c)))) = some (.sh (.str (sS (sent cs)))) := e7
    have hc14 : Mi.cutD (sent cs) none (some 14) = (sent cs).take 14 := cut_to _ (by decide)
    have zl : (sent cs).length ≤ lim := lim_of (by omega)
    generalize (cs.map fun c => PyData.str (sS (sg c))) = q1 at *
    generalize (cs.map fun c => PyData.str (sS [c])) = q2 at *
    generalize sent cs = sc at *
    unfold phi_law_message
    rw [runIO_eq (by rfl)]
    unfold m_law_message
    simp [e1, e2, e3, e4, e5, e6, e7', z9, zs, zr, zl, hc14]
  · by_cases h2 : r1 = 1
    · subst h2
      obtain ⟨c, w3, e3, b3, hc⟩ := picks_ok (z := sS [46, 45]) b2 (by simp) (by rw [sS_len]; exact lim_of (by decide))
      have hc' : c ∈ [46, 45] := by simpa using hc
      have e3' : phi_law_pick w2 [.str (sS [46, 45])] = some (.sh (.str (sS [c])), w3) := e3
      refine ⟨List.replicate size.toNat c, w3, ?_, b3, fun x hx => by rw [List.eq_of_mem_replicate hx]; exact dd_mem hc', by rw [List.length_replicate]; omega⟩
      have hrep : (List.replicate size.toNat [c]).flatten = List.replicate size.toNat c := by
        generalize size.toNat = n
        induction n with
        | zero => rfl
        | succ n ih => rw [List.replicate_succ, List.flatten_cons, ih]; rfl
      have zz : 0 ≤ size ∧ size ≤ 1000000 ∧ size.toNat ≤ lim := ⟨hs0, by omega, lim_of (by omega)⟩
      unfold phi_law_message
      rw [runIO_eq (by rfl)]
      unfold m_law_message
      rw [dd_is]
      simp [e1, e2, e3', z9, zz, timesS_sS, hrep]
    · obtain ⟨cs, w4, e4, b4, hcl, hcm⟩ := draws_ok (g := gNm 4) (el := l_law_message_1) (v := 4) (S := fun ws => [.io ws, .sh (.int r1), .sh (.int size), .no, .no]) (z := [46, 45]) (k := size) (by decide) (by decide) (fun ws ws' d c e => by
        unfold l_law_message_1
        rw [dd_is]
        simp [e]) b2 (by omega)
      have e5 := join_chars (cs := cs) (by omega)
      refine ⟨cs, w4, ?_, b4, fun c hc => dd_mem (hcm c hc), by omega⟩
      generalize (cs.map fun c => PyData.str (sS [c])) = q2 at *
      unfold phi_law_message
      rw [runIO_eq (by rfl)]
      unfold m_law_message
      simp [e1, e2, e4, e5, z9, zs, h1, h2]
end Law
/-! k57: a message looked at -/
namespace Law
open PySem PySem.Spec PyProof.Rows L2 Mi
set_option maxRecDepth 100000
set_option maxHeartbeats 1000000
theorem range_take {α : Type} (xs : List α) : ∀ n : Nat, (List.range n).filterMap (fun i => xs[i]?) = xs.take n
  | 0 => rfl
  | n + 1 => by
    rw [List.range_succ, List.filterMap_append, range_take xs n, List.take_succ]
    congr 1
def nthD (l : List Nat) : D → Option D
  | .int k => ((R' l)[k.toNat]?).map fun u => .str (sS u)
  | _ => none
theorem due_list {l : List Nat} {m0 m1 m4 m5 m6 m7 m8 m9 : M} {n : Nat} (hl : l.length < 900) (hn : n ≤ cnt l) (hn2 : n ≤ 900) (h9 : Shy m9) :
    lcGo (gNm 9) mYes l_law_looked_1 [9] (rangeD 0 (n : Int)) [m0, m1, .sh (.list (rowsD l)), .sh (.list ((manyL l 0).map .int)), m4, m5, m6, m7, m8, m9] [] = some (strsL ((R' l).take n), [m0, m1, .sh (.list (rowsD l)), .sh (.list ((manyL l 0).map .int)), m4, m5, m6, m7, m8, m9]) := by
  have e := lc_pure (gg := gNm 9) (t := mYes) (el := l_law_looked_1) (vs := [9]) (ds := rangeD 0 (n : Int)) (ρ := [m0, m1, .sh (.list (rowsD l)), .sh (.list ((manyL l 0).map .int)), m4, m5, m6, m7, m8, m9]) (nthD l) (fun d hd => by
    rw [rangeD_0] at hd
    obtain ⟨k, hk, rfl⟩ := List.mem_map.mp hd
    have hk := List.mem_range.mp hk
    obtain ⟨u, h1, h2⟩ := nth_ok (l := l) (k := k) hl (by omega)
    unfold nthD
    dsimp only
    rw [Int.toNat_natCast, h1]
    generalize (k : Int) = y at h2 ⊢
    unfold l_law_looked_1
    generalize rowsD l = rr at *
    generalize (manyL l 0).map PyData.int = mm at *
    simp [h2]) [] (by rw [rangeD_len]; show _ ≤ 1000000; simp; omega)
  rw [List.nil_append, rangeD_0, List.filterMap_map] at e
  have e2 : (List.range n).filterMap (nthD l ∘ fun i : Nat => .int (i : Int)) = strsL ((R' l).take n) := by
    rw [← range_take]
    unfold strsL
    rw [List.map_filterMap]
    congr 1
  rw [e2] at e
  rw [rangeD_0]
  exact e
theorem told_loop {l : List Nat} {m0 m2 m3 m4 m5 m6 m7 m9 : M} (hd : Dots l) (hl : l.length ≤ 900) : ∀ (ws : List (List Nat)) (m8 : M), (∀ w ∈ ws, w ∈ R' l) → Shy m8 →
    ∃ m8', forGo (gNm 8) b_law_looked_1 (strsL ws) [m0, .sh (.str (sS l)), m2, m3, m4, m5, m6, m7, m8, m9] = some (.nx, [m0, .sh (.str (sS l)), m2, m3, m4, m5, m6, m7, m8', m9]) ∧ Shy m8'
  | [], m8, _, h8 => ⟨m8, rfl, h8⟩
  | w :: ws, m8, hw, h8 => by
    obtain ⟨h1, h2, h3, h4⟩ := R_ok hl (hw w List.mem_cons_self)
    have e1 := sent_ok h1 (by omega)
    have e1' : phi_sent [.str (sS w)] = some (.sh (.str (sS l))) := by rw [e1]; unfold sent at h2; rw [h2]
    have e2 := same_text (dots_ok hd hl)
    have e : bnd (gNm 8 (.str (sS w)) [m0, .sh (.str (sS l)), m2, m3, m4, m5, m6, m7, m8, m9]) b_law_looked_1 = some (.nx, [m0, .sh (.str (sS l)), m2, m3, m4, m5, m6, m7, .sh (.str (sS w)), m9]) := by
      unfold b_law_looked_1
      simp [shy_free h8, e1', e2]
    obtain ⟨m8', e3, k8⟩ := told_loop (m0 := m0) (m2 := m2) (m3 := m3) (m4 := m4) (m5 := m5) (m6 := m6) (m7 := m7) (m9 := m9) hd hl ws (.sh (.str (sS w))) (fun x hx => hw x (List.mem_cons_of_mem _ hx)) (.sh _)
    exact ⟨m8', by show forGo _ _ (_ :: strsL ws) _ = _; rw [for_step e, e3], k8⟩
theorem most_turn {l : List Nat} {m0 m4 m5 m6 m7 m8 m9 : M} {m : Int} (hd : Dots l) (hl : l.length ≤ 14) (h0 : 0 ≤ m) (h1 : m ≤ 900) (h5 : Shy m5) (h6 : freeM (some m6) = true) (h7 : freeM (some m7) = true) (h8 : Shy m8) (h9 : Shy m9) :
    ∃ m6' m7' m8', bnd (gNm 5 (.int m) [m0, .sh (.str (sS l)), .sh (.list (rowsD l)), .sh (.list ((manyL l 0).map .int)), m4, m5, m6, m7, m8, m9]) b_law_looked_2 = some (.nx, [m0, .sh (.str (sS l)), .sh (.list (rowsD l)), .sh (.list ((manyL l 0).map .int)), m4, .sh (.int m), m6', m7', m8', m9]) ∧ freeM (some m6') = true ∧ freeM (some m7') = true ∧ Shy m8' := by
  have hn : (min m.toNat (cnt l) : Nat) ≤ cnt l := by omega
  have e1 := due_list (l := l) (m0 := m0) (m1 := .sh (.str (sS l))) (m4 := m4) (m5 := .sh (.int m)) (m6 := m6) (m7 := m7) (m8 := m8) (n := min m.toNat (cnt l)) (by omega) hn (by omega) h9
  have e2 := readings_ok (l := l) (most := m) hl h0 h1
  have ht : (R' l).take (min m.toNat (cnt l)) = (R' l).take m.toNat := by
    unfold cnt
    rw [List.take_eq_take_iff]
    omega
  rw [ht] at e1
  have hmin : (if (cnt l : Int) < m then (cnt l : Int) else m) = ((min m.toNat (cnt l) : Nat) : Int) := by split <;> omega
  have hin : ∀ w ∈ (R' l).take m.toNat, w ∈ R' l := fun w hw => List.mem_of_mem_take hw
  have hlen : ((R' l).take m.toNat).length ≤ 900 := by rw [List.length_take]; omega
  have e3 := same_strs (ws := (R' l).take m.toNat) hlen fun w hw => (R_ok (by omega) (hin w hw)).2.2.2
  obtain ⟨m8', e4, k8⟩ := told_loop (l := l) (m0 := m0) (m2 := .sh (.list (rowsD l))) (m3 := .sh (.list ((manyL l 0).map .int))) (m4 := m4) (m5 := .sh (.int m)) (m6 := .own (strsL ((R' l).take m.toNat))) (m7 := .sh (.list (strsL ((R' l).take m.toNat)))) (m9 := m9) hd (by omega) ((R' l).take m.toNat) m8 hin h8
  have e5 : ((manyL l 0).map PyData.int)[0]? = some (.int (cnt l : Int)) := by
    rw [manyL_cons (Nat.zero_le _), List.drop_zero]
    rfl
  have z : i62 ((min m.toNat (cnt l) : Nat) : Int) = true := i62_of (by omega) (by omega)
  have okm : okM (some m9) = true := by cases h9 <;> rfl
  refine ⟨.own (strsL ((R' l).take m.toNat)), .sh (.list (strsL ((R' l).take m.toNat))), m8', ?_, rfl, rfl, k8⟩
  generalize strsL ((R' l).take m.toNat) = tt at *
  generalize (manyL l 0).map PyData.int = mm at *
  generalize rowsD l = rr at *
  generalize ((min m.toNat (cnt l) : Nat) : Int) = y at *
  generalize (cnt l : Int) = cc at *
  unfold b_law_looked_2
  simp [shy_free h5, h6, h7, e5, hmin, z, okm, e1, e2, e3, e4]
theorem looked_ok {ws : List D} {l : List Nat} (b : BoxOk ws) (hd : Dots l) (hl : l.length ≤ 14) : ∃ ws', phi_law_looked ws [.str (sS l)] = some (.sh (.bool true), ws') ∧ BoxOk ws' := by
  have e1 := fits_ok (l := l) (by omega)
  have e2 := counts_ok hd (by omega)
  have e3 := rcount_ok (l := l) (by omega)
  have e4 := shortw_ok hd (by omega)
  have e5 := shortest_ok hd (by omega)
  have hb := R_ok (l := l) (by omega) (bw_R l.length l (Nat.le_refl _) hd)
  have e6 := same_text hb.2.2.2
  have hcl : cnt l ≤ 2 ^ 15 := by
    have hc : ∀ (n : Nat) (l : List Nat), l.length ≤ n → cnt l ≤ sz l := by
      intro n
      induction n with
      | zero =>
        intro l h
        have : l = [] := List.eq_nil_of_length_eq_zero (by omega)
        subst this
        rw [cnt_nil, sz_eq]
        omega
      | succ n ih =>
        intro l h
        by_cases hne : l = []
        · subst hne
          rw [cnt_nil, sz_eq]
          omega
        · rw [cnt_cons hne, sz_eq]
          have : ∀ cs : List Nat, (∀ c ∈ cs, c ∈ mt l) → (cs.map fun c => cnt (l.drop (sg c).length)).sum ≤ sums (fun c => sz (l.drop (sg c).length)) cs := by
            intro cs
            induction cs with
            | nil => intro _; exact Nat.le_refl _
            | cons c r ihr =>
              intro hc
              have hm := mt_len (hc c List.mem_cons_self)
              have := ih (l.drop (sg c).length) (by rw [List.length_drop]; omega)
              have := ihr fun x hx => hc x (List.mem_cons_of_mem _ hx)
              rw [List.map_cons, List.sum_cons, sums_cons]
              omega
          have := this (mt l) fun c h => h
          omega
    have h1 := hc l.length l (Nat.le_refl _)
    have h2 := sz_le l.length l rfl
    have h3 : 2 ^ (l.length + 1) ≤ 2 ^ 15 := Nat.pow_le_pow_right (by decide) (by omega)
    omega
  have e7 := same_int (i := (cnt l : Int)) (i64_of (by omega) (by omega))
  have e8 : ((manyL l 0).map PyData.int)[0]? = some (.int (cnt l : Int)) := by
    rw [manyL_cons (Nat.zero_le _), List.drop_zero]
    rfl
  obtain ⟨r1, w1, d1, b1, h10, h11⟩ := draw_ok (many := 7) b (by decide)
  have z3 : 3 ≤ lim := lim_of (by decide)
  have z2 : 2 ≤ lim := lim_of (by decide)
  obtain ⟨x, w2, d2, b2, hx⟩ := pick_ok (row := [.int 3, .int 1, .int (if (cnt l : Int) < 12 then (cnt l : Int) else 2)]) b1 (by simp)
  have hz : ∃ z : Int, x = .int z ∧ 0 ≤ z ∧ z ≤ 12 := by
    simp at hx
    rcases hx with rfl | rfl | rfl
    · exact ⟨_, rfl, by omega, by omega⟩
    · exact ⟨_, rfl, by omega, by omega⟩
    · refine ⟨_, rfl, ?_, ?_⟩ <;> split <;> omega
  obtain ⟨z, rfl, hz0, hz1⟩ := hz
  obtain ⟨a6, a7, a8, t1, k6, k7, k8⟩ := most_turn (l := l) (m0 := .io w2) (m4 := .sh (.list ((fewL l 0).map .int))) (m5 := .no) (m6 := .no) (m7 := .no) (m8 := .no) (m9 := .no) (m := r1) hd hl h10 (by omega) .no rfl rfl .no .no
  obtain ⟨c6, c7, c8, t2, p6, p7, p8⟩ := most_turn (l := l) (m0 := .io w2) (m4 := .sh (.list ((fewL l 0).map .int))) (m5 := .sh (.int r1)) (m6 := a6) (m7 := a7) (m8 := a8) (m9 := .no) (m := z) hd hl hz0 (by omega) (.sh _) k6 k7 k8 .no
  have t3 : forGo (gNm 5) b_law_looked_2 [.int r1, .int z] [.io w2, .sh (.str (sS l)), .sh (.list (rowsD l)), .sh (.list ((manyL l 0).map .int)), .sh (.list ((fewL l 0).map .int)), .no, .no, .no, .no, .no] = some (.nx, [.io w2, .sh (.str (sS l)), .sh (.list (rowsD l)), .sh (.list ((manyL l 0).map .int)), .sh (.list ((fewL l 0).map .int)), .sh (.int z), c6, c7, c8, .no]) := by
    rw [for_step t1, for_step t2, forGo_nil]
  refine ⟨w2, ?_, b2⟩
  generalize (manyL l 0).map PyData.int = mm at *
  generalize (fewL l 0).map PyData.int = ff at *
  generalize rowsD l = rr at *
  generalize (cnt l : Int) = cc at *
  unfold phi_law_looked
  rw [runIO_eq (by rfl)]
  unfold m_law_looked
  by_cases hc : cc < 12
  · rw [if_pos hc] at d2
    simp [-forGo_cons, e1, e2, e3, e4, e5, e6, e7, e8, d1, d2, z2, z3, hc, t3]
  · rw [if_neg hc] at d2
    simp [-forGo_cons, e1, e2, e3, e4, e5, e6, e7, e8, d1, d2, z2, z3, hc, t3]
end Law
/-! k57: words that sound alike, the law -/
namespace Law
open PySem PySem.Spec PyProof.Rows L2 Mi
set_option maxRecDepth 100000
set_option maxHeartbeats 1000000
def Wok (d : D) : Prop := ∃ u : List Nat, d = .str (sS u) ∧ (∀ c ∈ u, c ∈ al) ∧ u.length ≤ 20
theorem words_of : ∀ {ds : List D}, (∀ d ∈ ds, Wok d) → ∃ us : List (List Nat), ds = strsL us ∧ ∀ u ∈ us, (∀ c ∈ u, c ∈ al) ∧ u.length ≤ 20
  | [], _ => ⟨[], rfl, fun u h => (by cases h)⟩
  | d :: ds, h => by
    obtain ⟨u, rfl, hu⟩ := h d List.mem_cons_self
    obtain ⟨us, rfl, hus⟩ := words_of fun d hd => h d (List.mem_cons_of_mem _ hd)
    exact ⟨u :: us, rfl, fun x hx => by
      rcases List.mem_cons.mp hx with rfl | hx
      · exact hu
      · exact hus x hx⟩
theorem strOk_sS {l : List Nat} (h : OkT l) : (PyData.str (sS l)).canLay0 = true := by
  show l.toArray.all (fun c => decide (c < 0x110000)) = true
  rw [← Array.all_toList]
  exact List.all_eq_true.mpr fun c hc => decide_eq_true (h.2 c hc)
theorem shaped_strs (us : List (List Nat)) (hu : ∀ u ∈ us, OkT u) : SeqAt.shaped (.list (strsL us)) = true := by
  have h : ∀ d ∈ strsL us, ∃ u, d = .str (sS u) ∧ OkT u := fun d hd => by
    unfold strsL at hd
    obtain ⟨u, hum, rfl⟩ := List.mem_map.mp hd
    exact ⟨u, rfl, hu u hum⟩
  exact shaped_of (canLay_all fun d hd => by obtain ⟨u, rfl, ok⟩ := h d hd; exact strOk_sS ok) (by
    have : PyData.depthAll (strsL us) ≤ 0 := depth_le (k := 0) fun d hd => by
      obtain ⟨u, rfl, _⟩ := h d hd
      exact Nat.zero_le _
    show PyData.depthAll (strsL us) + 1 ≤ 64
    omega)
theorem eq_nil {ds : List D} (h : SeqAt.shaped (.list ds) = true) : eqD (.list ds) (.list []) = some ds.isEmpty := by
  have h0 : SeqAt.shaped (.list []) = true := by decide
  show (if SeqAt.shaped (.list ds) = true ∧ SeqAt.shaped (.list []) = true then some (PyData.eqv (.list ds) (.list [])) else none) = _
  rw [if_pos ⟨h, h0⟩]
  cases ds <;> simp [PyData.eqv, PyData.eqvAll]
/-- the words of four numbers drawn -/
theorem some_words {ws : List D} {l : List Nat} {m4 : M} (b : BoxOk ws) (hd : Dots l) (hl : l.length ≤ 14) :
    ∃ (us : List (List Nat)) (ws' : List D), lcGo (gNm 10) mYes l_law_alike_6 [10] (rangeD 0 4) [.io ws, .sh (.str (sS l)), .sh (.list (rowsD l)), .sh (.list ((manyL l 0).map .int)), m4, .no, .no, .no, .no, .no, .no, .no] [] = some (strsL us, [.io ws', .sh (.str (sS l)), .sh (.list (rowsD l)), .sh (.list ((manyL l 0).map .int)), m4, .no, .no, .no, .no, .no, .no, .no]) ∧ BoxOk ws' ∧ us.length = 4 ∧ ∀ u ∈ us, (∀ c ∈ u, c ∈ al) ∧ u.length ≤ 20 := by
  have e8 : ((manyL l 0).map PyData.int)[0]? = some (.int (cnt l : Int)) := by
    rw [manyL_cons (Nat.zero_le _), List.drop_zero]
    rfl
  have hcp := cnt_pos l.length (Nat.le_refl _) hd
  obtain ⟨ys, ρ1, e2, ⟨w2, rfl, b2⟩, hy, hn⟩ := lc_invA (gg := gNm 10) (t := mYes) (el := l_law_alike_6) (vs := [10]) (ds := rangeD 0 4) (ρ := [.io ws, .sh (.str (sS l)), .sh (.list (rowsD l)), .sh (.list ((manyL l 0).map .int)), m4, .no, .no, .no, .no, .no, .no, .no])
    (fun ρ => ∃ ws, ρ = [.io ws, .sh (.str (sS l)), .sh (.list (rowsD l)), .sh (.list ((manyL l 0).map .int)), m4, .no, .no, .no, .no, .no, .no, .no] ∧ BoxOk ws) Wok
    (fun d hdm ρ h => by
      obtain ⟨ws, rfl, b⟩ := h
      obtain ⟨k, rfl, hk0, hk1⟩ := rangeD_mem hdm
      obtain ⟨r1, w1, e1, b1, h10, h11⟩ := draw_ok (many := 1000) b (by decide)
      have h0 := Int.emod_nonneg (r1 * 31 + k) (b := (cnt l : Int)) (by omega)
      have h1 := Int.emod_lt_of_pos (r1 * 31 + k) (b := (cnt l : Int)) (by omega)
      obtain ⟨u, q1, q2⟩ := nth_ok (l := l) (k := ((r1 * 31 + k) % (cnt l : Int)).toNat) (by omega) (by omega)
      rw [Int.toNat_of_nonneg h0] at q2
      have hu := R_ok (l := l) (by omega) (List.mem_of_getElem? q1)
      refine ⟨.str (sS u), _, ?_, ⟨w1, rfl, b1⟩, u, rfl, hu.1, by omega⟩
      have hp : (0 : Int) < (cnt l : Int) := by omega
      have z31 : i64 31 = true := by decide
      generalize rowsD l = rr at *
      generalize (manyL l 0).map PyData.int = mm at *
      generalize (cnt l : Int) = cc at *
      unfold l_law_alike_6
      simp [e1, e8, z31, hp, q2]) ⟨ws, rfl, b⟩ [] (by rw [rangeD_len]; show _ ≤ 1000000; simp)
  obtain ⟨us, rfl, hus⟩ := words_of hy
  refine ⟨us, w2, e2, b2, ?_, hus⟩
  have : (strsL us).length = us.length := by unfold strsL; rw [List.length_map]
  rw [← this, hn, rangeD_len]
  rfl
theorem few_is : Str.ofString "eeitnamsdu" = sS [101, 101, 105, 116, 110, 97, 109, 115, 100, 117] := by decide +kernel
/-- two words more -/
theorem more_words {ws : List D} {m1 m2 m3 m4 m5 : M} (b : BoxOk ws) :
    ∃ (us : List (List Nat)) (ws' : List D), lcGo (gNm 11) mYes l_law_alike_4 [11] (rangeD 0 2) [.io ws, m1, m2, m3, m4, m5, .no, .no, .no, .no, .no, .no] [] = some (strsL us, [.io ws', m1, m2, m3, m4, m5, .no, .no, .no, .no, .no, .no]) ∧ BoxOk ws' ∧ us.length = 2 ∧ ∀ u ∈ us, (∀ c ∈ u, c ∈ al) ∧ u.length ≤ 20 := by
  obtain ⟨ys, ρ1, e2, ⟨w2, rfl, b2⟩, hy, hn⟩ := lc_invA (gg := gNm 11) (t := mYes) (el := l_law_alike_4) (vs := [11]) (ds := rangeD 0 2) (ρ := [.io ws, m1, m2, m3, m4, m5, .no, .no, .no, .no, .no, .no])
    (fun ρ => ∃ ws, ρ = [.io ws, m1, m2, m3, m4, m5, .no, .no, .no, .no, .no, .no] ∧ BoxOk ws) Wok
    (fun d hdm ρ h => by
      obtain ⟨ws, rfl, b⟩ := h
      obtain ⟨r1, w1, e1, b1, h10, h11⟩ := draw_ok (many := 6) b (by decide)
      obtain ⟨cs, w2, e4, b2, hcl, hcm⟩ := draws_ok (g := gNm 10) (el := l_law_alike_3) (v := 10) (S := fun ws => [.io ws, m1, m2, m3, m4, m5, .no, .no, .no, .no, .no, .sh d]) (z := [101, 101, 105, 116, 110, 97, 109, 115, 100, 117]) (k := r1) (by decide) (by decide) (fun ws ws' d c e => by
        unfold l_law_alike_3
        rw [few_is]
        simp [e]) b1 (by omega)
      have e5 := join_chars (cs := cs) (by omega)
      have zr : i62 r1 = true := i62_of (by omega) (by omega)
      have hal : ∀ c ∈ [101, 101, 105, 116, 110, 97, 109, 115, 100, 117], c ∈ al := by decide +kernel
      refine ⟨.str (sS cs), _, ?_, ⟨w2, rfl, b2⟩, cs, rfl, fun c hc => hal c (hcm c hc), by omega⟩
      generalize (cs.map fun c => PyData.str (sS [c])) = q2 at *
      unfold l_law_alike_4
      simp [e1, e4, e5, zr]) ⟨ws, rfl, b⟩ [] (by rw [rangeD_len]; show _ ≤ 1000000; simp)
  obtain ⟨us, rfl, hus⟩ := words_of hy
  refine ⟨us, w2, e2, b2, ?_, hus⟩
  have : (strsL us).length = us.length := by unfold strsL; rw [List.length_map]
  rw [← this, hn, rangeD_len]
  rfl
theorem strsL_app (a b : List (List Nat)) : strsL (a ++ b) = strsL a ++ strsL b := by unfold strsL; rw [List.map_append]
theorem strsL_len (a : List (List Nat)) : (strsL a).length = a.length := by unfold strsL; rw [List.length_map]
theorem keep7 {m0 m1 m2 m3 m4 m5 m7 m8 m9 m10 m11 : M} {us : List (List Nat)} (t : MB) (el : MR) (ht : t = t_law_alike_2 ∧ el = l_law_alike_2 ∨ t = t_law_alike_3 ∧ el = l_law_alike_5) (hl : us.length ≤ 900) (hu : ∀ u ∈ us, (∀ c ∈ u, c ∈ al) ∧ u.length ≤ 20) :
    lcGo (gNm 6) t el [6] (strsL us) [m0, m1, m2, m3, m4, m5, .no, m7, m8, m9, m10, m11] [] = some (strsL (us.filter fun u => decide (u.length < 7)), [m0, m1, m2, m3, m4, m5, .no, m7, m8, m9, m10, m11]) := by
  have e := lc_pure (gg := gNm 6) (t := t) (el := el) (vs := [6]) (ds := strsL us) (ρ := [m0, m1, m2, m3, m4, m5, .no, m7, m8, m9, m10, m11]) (fun d => match d with | .str z => if decide (z.cps.toList.length < 7) = true then some (.str z) else none | _ => none) (fun d hd => by
    unfold strsL at hd
    obtain ⟨u, hum, rfl⟩ := List.mem_map.mp hd
    have hz : u.length ≤ lim := lim_of (by have := (hu u hum).2; omega)
    dsimp only
    rw [sS_list]
    rcases ht with ⟨rfl, rfl⟩ | ⟨rfl, rfl⟩
    · unfold t_law_alike_2 l_law_alike_2
      by_cases h : u.length < 7
      · have h' : (u.length : Int) < 7 := by omega
        simp [hz, h, h']
      · have h' : ¬ (u.length : Int) < 7 := by omega
        simp [hz, h, h']
    · unfold t_law_alike_3 l_law_alike_5
      by_cases h : u.length < 7
      · have h' : (u.length : Int) < 7 := by omega
        simp [hz, h, h']
      · have h' : ¬ (u.length : Int) < 7 := by omega
        simp [hz, h, h']) [] (by rw [strsL_len]; show _ ≤ 1000000; simp; omega)
  rw [List.nil_append] at e
  rw [e]
  congr 2
  exact fm_filter (f := fun w => PyData.str (sS w)) (fun x => rfl) us
theorem due_alike {m0 m1 m2 m3 m4 m5 m7 m8 m9 m10 : M} {us : List (List Nat)} {w : List Nat} (hw : (∀ c ∈ w, c ∈ al) ∧ w.length ≤ 20) (hl : us.length ≤ 900) (hu : ∀ u ∈ us, (∀ c ∈ u, c ∈ al) ∧ u.length ≤ 20) :
    lcGo (gNm 11) t_law_alike_1 l_law_alike_1 [11] (strsL us) [m0, m1, m2, m3, m4, m5, .sh (.str (sS w)), m7, m8, m9, m10, .no] [] = some (strsL (us.filter fun x => sent x == sent w), [m0, m1, m2, m3, m4, m5, .sh (.str (sS w)), m7, m8, m9, m10, .no]) := by
  have joined : ∀ u : List Nat, (∀ c ∈ u, c ∈ al) ∧ u.length ≤ 20 → joinD (.str (Str.ofString "")) (.list (u.map fun c => .str (sS (sg c)))) = some (.sh (.str (sS (sent u)))) := fun u h => by
    have := join_all (ls := u.map sg) (by have := (sent_len h.1).2; unfold sent at this; omega)
    rw [List.map_map] at this
    exact this
  have e := lc_pure (gg := gNm 11) (t := t_law_alike_1) (el := l_law_alike_1) (vs := [11]) (ds := strsL us) (ρ := [m0, m1, m2, m3, m4, m5, .sh (.str (sS w)), m7, m8, m9, m10, .no]) (fun d => match d with | .str z => if (sent z.cps.toList == sent w) = true then some (.str z) else none | _ => none) (fun d hd => by
    unfold strsL at hd
    obtain ⟨u, hum, rfl⟩ := List.mem_map.mp hd
    have e1 := spelt_ok (w := u) (hu u hum).1 (by have := (hu u hum).2; omega)
    have e2 := spelt_ok (w := w) hw.1 (by omega)
    have e3 := joined u (hu u hum)
    have e4 := joined w hw
    have e5 := sS_eqb (sent u) (sent w)
    dsimp only
    rw [sS_list]
    generalize (u.map fun c => PyData.str (sS (sg c))) = q1 at *
    generalize (w.map fun c => PyData.str (sS (sg c))) = q2 at *
    unfold t_law_alike_1 l_law_alike_1
    by_cases h : (sent u == sent w) = true
    · rw [h] at e5
      rw [if_pos h]
      simp [e1, e2, e3, e4, of_decide_eq_true e5]
    · rw [Bool.eq_false_iff.mpr h] at e5
      rw [if_neg h]
      simp [e1, e2, e3, e4, of_decide_eq_false e5]) [] (by rw [strsL_len]; show _ ≤ 1000000; simp; omega)
  rw [List.nil_append] at e
  rw [e]
  congr 2
  exact fm_filter (f := fun w => PyData.str (sS w)) (fun x => rfl) us
theorem alike_ok {ws : List D} {l : List Nat} (b : BoxOk ws) (hd : Dots l) (hl : l.length ≤ 14) : ∃ ws', phi_law_alike ws [.str (sS l)] = some (.sh (.bool true), ws') ∧ BoxOk ws' := by
  have e1 := fits_ok (l := l) (by omega)
  have e2 := counts_ok hd (by omega)
  have e5 := shortest_ok hd (by omega)
  have hb := R_ok (l := l) (by omega) (bw_R l.length l (Nat.le_refl _) hd)
  obtain ⟨us, w1, f1, b1, hul, hu⟩ := some_words (m4 := .sh (.list ((fewL l 0).map .int))) b hd hl
  have f2 := keep7 (m0 := .io w1) (m1 := .sh (.str (sS l))) (m2 := .sh (.list (rowsD l))) (m3 := .sh (.list ((manyL l 0).map .int))) (m4 := .sh (.list ((fewL l 0).map .int))) (m5 := .sh (.list (strsL us))) (m7 := .no) (m8 := .no) (m9 := .no) (m10 := .no) (m11 := .no) t_law_alike_3 l_law_alike_5 (.inr ⟨rfl, rfl⟩) (by omega) hu
  have hu2 : ∀ u ∈ (us.filter fun u => decide (u.length < 7)) ++ [bw l], (∀ c ∈ u, c ∈ al) ∧ u.length ≤ 20 := fun u h => by
    rcases List.mem_append.mp h with h | h
    · exact hu u (List.mem_filter.mp h).1
    · have : u = bw l := by simpa using h
      subst this
      exact ⟨hb.1, by omega⟩
  have hl2 : ((us.filter fun u => decide (u.length < 7)) ++ [bw l]).length ≤ 5 := by
    rw [List.length_append, List.length_singleton]
    have := List.length_filter_le (fun u : List Nat => decide (u.length < 7)) us
    omega
  have q2 : strsL (us.filter fun u => decide (u.length < 7)) ++ [.str (sS (bw l))] = strsL ((us.filter fun u => decide (u.length < 7)) ++ [bw l]) := by rw [strsL_app]; rfl
  have n2 : (strsL (us.filter fun u => decide (u.length < 7))).length + 1 ≤ lim := by
    rw [strsL_len]
    rw [List.length_append, List.length_singleton] at hl2
    exact lim_of (by omega)
  generalize hv : (us.filter fun u => decide (u.length < 7)) ++ [bw l] = vs at *
  obtain ⟨us3, w2, f3, b2, hul3, hu3⟩ := more_words (m1 := .sh (.str (sS l))) (m2 := .sh (.list (rowsD l))) (m3 := .sh (.list ((manyL l 0).map .int))) (m4 := .sh (.list ((fewL l 0).map .int))) (m5 := .own (strsL vs)) b1
  have n3 : (strsL vs).length + (strsL us3).length ≤ lim := by rw [strsL_len, strsL_len]; exact lim_of (by omega)
  have q3 : strsL vs ++ strsL us3 = strsL (vs ++ us3) := (strsL_app _ _).symm
  have hxl : (vs ++ us3).length ≤ 7 := by rw [List.length_append]; omega
  have hxu : ∀ u ∈ vs ++ us3, (∀ c ∈ u, c ∈ al) ∧ u.length ≤ 20 := fun u h => by
    rcases List.mem_append.mp h with h | h
    · exact hu2 u h
    · exact hu3 u h
  generalize vs ++ us3 = xs at *
  have hc1 : Mi.cutD (strsL xs) none (some 1) = strsL (xs.take 1) := by
    rw [cut_to _ (by decide)]
    unfold strsL
    rw [List.map_take]
    rfl
  have n4 : (strsL xs).length + (strsL (xs.take 1)).length ≤ lim := by rw [strsL_len, strsL_len, List.length_take]; exact lim_of (by omega)
  have q4 : strsL xs ++ strsL (xs.take 1) = strsL (xs ++ xs.take 1) := (strsL_app _ _).symm
  obtain ⟨ys, w3, f4, b3, pm⟩ := mixed_ok (row := strsL (xs ++ xs.take 1)) b2 (by rw [strsL_len, List.length_append, List.length_take]; omega)
  have hyw : ∀ d ∈ ys, Wok d := fun d h => by
    have := pm.mem_iff.mp h
    unfold strsL at this
    obtain ⟨u, hu, rfl⟩ := List.mem_map.mp this
    refine ⟨u, rfl, ?_⟩
    rcases List.mem_append.mp hu with h | h
    · exact hxu u h
    · exact hxu u (List.mem_of_mem_take h)
  have hyl : ys.length ≤ 14 := by
    rw [pm.length_eq, strsL_len, List.length_append, List.length_take]
    omega
  obtain ⟨us5, rfl, hu5⟩ := words_of hyw
  rw [strsL_len] at hyl
  have f5 := keep7 (m0 := .io w3) (m1 := .sh (.str (sS l))) (m2 := .sh (.list (rowsD l))) (m3 := .sh (.list ((manyL l 0).map .int))) (m4 := .sh (.list ((fewL l 0).map .int))) (m5 := .own (strsL xs)) (m7 := .no) (m8 := .no) (m9 := .no) (m10 := .no) (m11 := .no) t_law_alike_2 l_law_alike_2 (.inl ⟨rfl, rfl⟩) (by omega) hu5
  have hzu : ∀ u ∈ us5.filter (fun u => decide (u.length < 7)), (∀ c ∈ u, c ∈ al) ∧ u.length ≤ 20 := fun u h => hu5 u (List.mem_filter.mp h).1
  have hzl : (us5.filter fun u => decide (u.length < 7)).length ≤ 14 := Nat.le_trans (List.length_filter_le _ _) hyl
  generalize (us5.filter fun u => decide (u.length < 7)) = zs at *
  have zok : ∀ u ∈ zs, OkT u := fun u h => ⟨by have := (hzu u h).2; omega, fun c hc => al_ok ((hzu u h).1 c hc)⟩
  have g1 := eq_nil (shaped_strs zs zok)
  have y2 : 2 ≤ lim := lim_of (by decide)
  have y4 : i62 4 = true := by decide
  have y5 : i62 2 = true := by decide
  have y1 : 1 ≤ lim := lim_of (by decide)
  have y0 : 0 ≤ lim := Nat.zero_le _
  by_cases hz : zs = []
  · subst hz
    refine ⟨w3, ?_, b3⟩
    have g1' : eqD (.list (strsL [])) (.list []) = some true := g1
    generalize strsL ([] : List (List Nat)) = s5 at *
    generalize strsL (us.filter fun u => decide (u.length < 7)) = s2 at *
    generalize strsL us = s1 at *
    generalize strsL us3 = s3 at *
    generalize strsL us5 = s6 at *
    generalize strsL (xs ++ xs.take 1) = s8 at *
    generalize strsL (xs.take 1) = s9 at *
    generalize strsL xs = s7 at *
    generalize strsL vs = s4 at *
    generalize (manyL l 0).map PyData.int = mm at *
    generalize (fewL l 0).map PyData.int = ff at *
    generalize rowsD l = rr at *
    unfold phi_law_alike
    rw [runIO_eq (by rfl)]
    unfold m_law_alike
    simp [e1, e2, e5, f1, f2, f3, f4, f5, q2, q3, q4, n2, n3, n4, hc1, g1', y0, y1, y2, y4, y5]
  · have hne : (strsL zs).isEmpty = false := by
      obtain ⟨x, r, rfl⟩ := List.exists_cons_of_ne_nil hz
      rfl
    rw [hne] at g1
    obtain ⟨x, w4, f6, b4, hx⟩ := pick_ok (row := strsL zs) b3 (by
      intro e
      apply hz
      unfold strsL at e
      exact List.map_eq_nil_iff.mp e)
    have hxw : ∃ w, x = .str (sS w) ∧ w ∈ zs := by
      unfold strsL at hx
      obtain ⟨w, hw, rfl⟩ := List.mem_map.mp hx
      exact ⟨w, rfl, hw⟩
    obtain ⟨w, rfl, hw⟩ := hxw
    have f7 := due_alike (m0 := .io w4) (m1 := .sh (.str (sS l))) (m2 := .sh (.list (rowsD l))) (m3 := .sh (.list ((manyL l 0).map .int))) (m4 := .sh (.list ((fewL l 0).map .int))) (m5 := .sh (.list (strsL zs))) (m7 := .no) (m8 := .no) (m9 := .no) (m10 := .no) (hzu w hw) (by omega) hzu
    have f8 := sounds_ok (words := zs) (w := w) (hzu w hw).1 (by have := (hzu w hw).2; omega) (fun x hx => ⟨(hzu x hx).1, by have := (hzu x hx).2; omega⟩) (by omega)
    have hfl : (zs.filter fun x => sent x == sent w).length ≤ 14 := Nat.le_trans (List.length_filter_le _ _) hzl
    have f9 := same_strs (ws := zs.filter fun x => sent x == sent w) (by omega) fun x hx => ⟨by have := (hzu x (List.mem_filter.mp hx).1).2; omega, fun c hc => al_ok ((hzu x (List.mem_filter.mp hx).1).1 c hc)⟩
    have g2 := neD_self (shaped_strs zs zok)
    have g3 : (strsL (zs.filter fun x => sent x == sent w)).length < lim := by rw [strsL_len]; exact lim_lt' (by omega)
    refine ⟨w4, ?_, b4⟩
    generalize strsL (zs.filter fun x => sent x == sent w) = s10 at *
    generalize strsL zs = s5 at *
    generalize strsL (us.filter fun u => decide (u.length < 7)) = s2 at *
    generalize strsL us = s1 at *
    generalize strsL us3 = s3 at *
    generalize strsL us5 = s6 at *
    generalize strsL (xs ++ xs.take 1) = s8 at *
    generalize strsL (xs.take 1) = s9 at *
    generalize strsL xs = s7 at *
    generalize strsL vs = s4 at *
    generalize (manyL l 0).map PyData.int = mm at *
    generalize (fewL l 0).map PyData.int = ff at *
    generalize rowsD l = rr at *
    unfold phi_law_alike
    rw [runIO_eq (by rfl)]
    unfold m_law_alike
    simp [e1, e2, e5, f1, f2, f3, f4, f5, f6, f7, f8, f9, q2, q3, q4, n2, n3, n4, hc1, g1, g2, g3, y0, y1, y2, y4, y5]
end Law
/-! k57: main -/
namespace Law
open PySem PySem.Spec PyProof.Rows L2 Mi
set_option maxRecDepth 100000
set_option maxHeartbeats 1000000
def LI (ns : List Int) (ρ : En) : Prop := ∃ (ws : List D) (m2 m3 m4 : M), ρ = [.sh (frzD (ns.map .int)), .own ws, m2, m3, m4, .no, .no, .no, .no, .no] ∧ BoxOk ws ∧ Shy m2 ∧ Shy m3 ∧ m4 = .no
theorem turn2 {ns : List Int} (ρ : En) (d : D) (h : LI ns ρ) : ∃ ρ2, bnd (gNm 2 d ρ) b_law_2 = some (.nx, ρ2) ∧ LI ns ρ2 := by
  obtain ⟨ws, m2, m3, m4, rfl, b, h2, h3, rfl⟩ := h
  obtain ⟨l, w1, e1, b1, hd, hl⟩ := message_ok b
  obtain ⟨w2, e2, b2⟩ := looked_ok b1 hd hl
  obtain ⟨w3, e3, b3⟩ := alike_ok b2 hd hl
  refine ⟨[.sh (frzD (ns.map .int)), .own w3, .sh d, .sh (.str (sS l)), .no, .no, .no, .no, .no, .no], ?_, w3, _, _, _, rfl, b3, .sh _, .sh _, rfl⟩
  generalize frzD (ns.map PyData.int) = fz at *
  unfold b_law_2
  simp [shy_free h2, shy_free h3, e1, e2, e3]
def SI (ns : List Int) (ρ : En) : Prop := ∃ (ws : List D) (m2 m3 m5 m6 m7 m8 : M), ρ = [.sh (frzD (ns.map .int)), .own ws, m2, m3, .own sgD, m5, m6, m7, m8, .no] ∧ BoxOk ws ∧ Shy m2 ∧ Shy m5 ∧ freeM (some m6) = true ∧ Shy m7 ∧ Shy m8
def tDue (l : List Nat) : D → Option D
  | .int k => if (sg (97 + k.toNat) == l) = true then some (.int k) else none
  | _ => none
theorem due26 {m0 m1 m2 m3 m6 m7 m8 : M} {l : List Nat} : lcGo (gNm 9) t_law_1 l_law_1 [9] (rangeD 0 26) [m0, m1, m2, m3, .own sgD, .sh (.str (sS l)), m6, m7, m8, .no] [] = some ((((List.range 26).filter fun k => sg (97 + k) == l).map fun k : Nat => .int (k : Int)), [m0, m1, m2, m3, .own sgD, .sh (.str (sS l)), m6, m7, m8, .no]) := by
  have e := lc_pure (gg := gNm 9) (t := t_law_1) (el := l_law_1) (vs := [9]) (ds := rangeD 0 26) (ρ := [m0, m1, m2, m3, .own sgD, .sh (.str (sS l)), m6, m7, m8, .no]) (tDue l) (fun d hd => by
    have hr : rangeD 0 26 = (List.range 26).map fun i : Nat => .int (i : Int) := rangeD_0 26
    rw [hr] at hd
    obtain ⟨k, hk, rfl⟩ := List.mem_map.mp hd
    have hk := List.mem_range.mp hk
    have hc : 97 + k ∈ al := List.mem_map.mpr ⟨k, List.mem_range.mpr hk, rfl⟩
    have h1 := sgD_at hc
    rw [show 97 + k - 97 = k by omega] at h1
    have h2 := sS_eqb (sg (97 + k)) l
    unfold tDue
    dsimp only
    rw [Int.toNat_natCast]
    generalize (k : Int) = y at h1 ⊢
    generalize sgD = sd at h1 ⊢
    unfold t_law_1 l_law_1
    by_cases h : (sg (97 + k) == l) = true
    · rw [h] at h2
      rw [if_pos h]
      simp [h1, of_decide_eq_true h2]
    · rw [Bool.eq_false_iff.mpr h] at h2
      rw [if_neg h]
      simp [h1, of_decide_eq_false h2]) [] (by rw [rangeD_len]; show _ ≤ 1000000; simp)
  rw [List.nil_append] at e
  rw [e]
  congr 2
  have hr : rangeD 0 26 = (List.range 26).map fun i : Nat => .int (i : Int) := rangeD_0 26
  rw [hr]
  exact fm_filter (f := fun k : Nat => PyData.int (k : Int)) (g := tDue l) (fun k => by unfold tDue; dsimp only; rw [Int.toNat_natCast]) _
theorem lto_range (l : List Nat) : lto l = ((List.range 26).filter fun k => sg (97 + k) == l)[0]?.map (97 + ·) := by
  rw [filter_head]
  unfold lto al
  rw [List.find?_map]
  rfl
theorem al_at {k : Nat} (h : k < 26) : atI al (k : Int) = some (97 + k) := by
  rw [atI_nat']
  unfold al
  rw [List.getElem?_map, List.getElem?_range h]
  rfl
theorem one_all {P : Nat → Prop} {c : Nat} (h : P c) : ∀ x ∈ [c], P x := fun x hx => by
  have : x = c := by simpa using hx
  rw [this]
  exact h
theorem one_len (c : Nat) : [c].length ≤ 1 := Nat.le_refl 1
theorem qz_is : Str.ofString "qzjxkvbyw" = sS [113, 122, 106, 120, 107, 118, 98, 121, 119] := by decide +kernel
theorem sig_turn {ns : List Int} (ρ : En) (d : D) (h : SI ns ρ) : ∃ ρ2, bnd (gNm 2 d ρ) b_law_1 = some (.nx, ρ2) ∧ SI ns ρ2 := by
  obtain ⟨ws, m2, m3, m5, m6, m7, m8, rfl, b, h2, h5, h6, h7, h8⟩ := h
  obtain ⟨r1, w1, e1, b1, h10, h11⟩ := draw_ok (many := 6) b (by decide)
  obtain ⟨cs, w2, e2, b2, hcl, hcm⟩ := draws_ok (g := gNm 9) (el := l_law_2) (v := 9) (S := fun ws => [.sh (frzD (ns.map .int)), .own ws, .sh d, m3, .own sgD, m5, m6, m7, m8, .no]) (z := [46, 45]) (k := r1) (by decide) (by decide) (fun ws ws' d c e => by
    unfold l_law_2
    rw [dd_is]
    generalize sgD = sd
    simp [e]) b1 (by omega)
  have e3 := join_chars (cs := cs) (by omega)
  have e4 := due26 (m0 := .sh (frzD (ns.map .int))) (m1 := .own w2) (m2 := .sh d) (m3 := m3) (m6 := m6) (m7 := m7) (m8 := m8) (l := cs)
  have e5 := letter_ok cs
  -- the told letter, by the list of places
  obtain ⟨c, w3, e6, b3, hc⟩ := picks_ok (z := sS al) b2 (by decide) (by rw [sS_len]; exact lim_of (by decide))
  have hc : c ∈ al := by simpa using hc
  have e6 : phi_law_pick w2 [.str (sS al)] = some (.sh (.str (sS [c])), w3) := e6
  obtain ⟨q, w4, e7, b4, hq⟩ := picks_ok (z := sS [113, 122, 106, 120, 107, 118, 98, 121, 119]) b3 (by decide) (by rw [sS_len]; exact lim_of (by decide))
  have hq : q ∈ [113, 122, 106, 120, 107, 118, 98, 121, 119] := by simpa using hq
  have hqa : ∀ c ∈ [113, 122, 106, 120, 107, 118, 98, 121, 119], c ∈ al := by decide +kernel
  have e7 : phi_law_pick w3 [.str (sS [113, 122, 106, 120, 107, 118, 98, 121, 119])] = some (.sh (.str (sS [q])), w4) := e7
  obtain ⟨r2, w5, e8, b5, h20, h21⟩ := draw_ok (many := 6) b4 (by decide)
  have hrep : (List.replicate r2.toNat [q]).flatten = List.replicate r2.toNat q := by
    generalize r2.toNat = n
    induction n with
    | zero => rfl
    | succ n ih => rw [List.replicate_succ, List.flatten_cons, ih]; rfl
  have hw : ∀ x ∈ c :: List.replicate r2.toNat q, x ∈ al := fun x hx => by
    rcases List.mem_cons.mp hx with rfl | hx
    · exact hc
    · rw [List.eq_of_mem_replicate hx]; exact hqa q hq
  have hwl : (c :: List.replicate r2.toNat q).length ≤ 6 := by rw [List.length_cons, List.length_replicate]; omega
  have e9 := sent_ok hw (by omega)
  have e10 := spelt_ok hw (by omega)
  have e11 := join_all (ls := (c :: List.replicate r2.toNat q).map sg) (by have := (sent_len hw).2; unfold sent at this; omega)
  rw [List.map_map] at e11
  have e11 : joinD (.str (Str.ofString "")) (.list ((c :: List.replicate r2.toNat q).map fun c => .str (sS (sg c)))) = some (.sh (.str (sS ((c :: List.replicate r2.toNat q).map sg).flatten))) := e11
  have e12 := same_text (l := ((c :: List.replicate r2.toNat q).map sg).flatten) (dots_ok (sent_dots hw) (by have := (sent_len hw).2; unfold sent at this; omega))
  have e13 := spelt_ok (w := [c]) (one_all hc) (Nat.le_trans (one_len c) (by decide))
  have e13 : phi_law_spelt [.str (sS [c])] = some (.fr [.str (sS (sg c))]) := e13
  have e14 := letter_ok (sg c)
  unfold ltD at e14
  rw [lto_sg hc] at e14
  have e14 : phi_letter_of [.str (sS (sg c))] = some (.sh (.str (sS [c]))) := e14
  have okc : OkT [c] := ⟨Nat.le_trans (one_len c) (by decide), one_all (al_ok hc)⟩
  have e15 := same_text okc
  have y0 : 0 ≤ lim := Nat.zero_le _
  have yz : 0 ≤ r2 ∧ r2 ≤ 1000000 ∧ r2.toNat ≤ lim := ⟨h20, by omega, lim_of (by omega)⟩
  have yw : 1 + r2.toNat ≤ lim := lim_of (by omega)
  have z1 : i62 r1 = true := i62_of (by omega) (by omega)
  have z26 : i62 26 = true := by decide
  have yal : al.length ≤ lim := lim_of (by decide)
  have ks := lto_range cs
  have hk26 : ∀ k ∈ (List.range 26).filter (fun k => sg (97 + k) == cs), k < 26 := fun k hk => List.mem_range.mp (List.mem_filter.mp hk).1
  have hsh : SeqAt.shaped (.list (((List.range 26).filter fun k => sg (97 + k) == cs).map fun k : Nat => .int (k : Int))) = true := by
    have := shaped_ints (((List.range 26).filter fun k => sg (97 + k) == cs).map fun k : Nat => (k : Int))
    rw [List.map_map] at this
    exact this
  have g1 := eq_nil hsh
  have hab : Str.ofString "abcdefghijklmnopqrstuvwxyz" = sS al := abc_is
  have hcw : [c] ++ List.replicate r2.toNat q = c :: List.replicate r2.toNat q := rfl
  generalize hK : ((List.range 26).filter fun k => sg (97 + k) == cs) = K at *
  generalize ((c :: List.replicate r2.toNat q).map fun c => PyData.str (sS (sg c))) = s1 at *
  generalize (cs.map fun c => PyData.str (sS [c])) = s2 at *
  generalize ((c :: List.replicate r2.toNat q).map sg).flatten = s3 at *
  refine ⟨[.sh (frzD (ns.map .int)), .own w5, .sh d, m3, .own sgD, .sh (.str (sS cs)), .own (K.map fun k : Nat => .int (k : Int)), .sh (.str (sS [c])), .sh (.str (sS (c :: List.replicate r2.toNat q))), .no], ?_, w5, _, _, _, _, _, _, rfl, b5, .sh _, .sh _, rfl, .sh _, .sh _⟩
  cases K with
  | nil =>
    have e5' : phi_letter_of [.str (sS cs)] = some (.sh .none) := by
      rw [e5]
      unfold ltD
      rw [ks]
      rfl
    have e16 : phi_law_same 12 [.none, .none] = some (.sh (.bool true)) := same_ok 11 _ trivial
    have g1 : eqD (.list []) (.list []) = some true := g1
    rw [List.map_nil] at *
    generalize sgD = sd at *
    generalize frzD (ns.map PyData.int) = fz at *
    unfold b_law_1
    rw [hab, qz_is]
    simp [shy_free h2, shy_free h5, h6, shy_free h7, shy_free h8, e1, e2, e3, e4, e5', e6, e7, e8, e9, e10, e11, e12, e13, e14, e15, e16, g1, y0, yz, yw, z1, z26, yal, timesS_sS, hrep]
  | cons k r =>
    have hk := hk26 k List.mem_cons_self
    have e5' : phi_letter_of [.str (sS cs)] = some (.sh (.str (sS [97 + k]))) := by
      rw [e5]
      unfold ltD
      rw [ks]
      rfl
    have okk : OkT [97 + k] := ⟨Nat.le_trans (one_len (97 + k)) (by decide), one_all (by omega)⟩
    have e16 := same_text okk
    have ha := al_at hk
    have g1 : eqD (.list ((k :: r).map fun k : Nat => .int (k : Int))) (.list []) = some false := g1
    rw [List.map_cons] at *
    generalize sgD = sd at *
    generalize frzD (ns.map PyData.int) = fz at *
    unfold b_law_1
    rw [hab, qz_is]
    generalize (k : Int) = y at *
    have e16 : phi_law_same 12 [.str (sS [97 + k]), .str ⟨#[97 + k]⟩] = some (.sh (.bool true)) := e16
    simp [shy_free h2, shy_free h5, h6, shy_free h7, shy_free h8, e1, e2, e3, e4, e5', e6, e7, e8, e9, e10, e11, e12, e13, e14, e15, e16, g1, y0, yz, yw, z1, z26, yal, timesS_sS, hrep, ha]
end Law
namespace Law
open PySem PySem.Spec PyProof.Rows L2 Mi
set_option maxRecDepth 100000
set_option maxHeartbeats 1000000
theorem R_e : R' [] = [[]] := rfl
theorem R_3 : R' [46, 46, 46] = [[101, 101, 101], [101, 105], [105, 101], [115]] := by decide +kernel
theorem cnt_4 : cnt [45, 45, 45, 45] = 7 := by decide +kernel
theorem main (ns : List Int) (hn : ns.length ≤ 63) : phi_law [frzD (ns.map .int)] = some (.sh (.bool true)) := by
  obtain ⟨ds, e1⟩ := digits_ok ns (b := 16) (by decide) (by decide)
  obtain ⟨ρ', e2, ws, m2, m3, m4, rfl, b, h2, h3, rfl⟩ := turns (S := fun _ => LI ns) (g := gNm 2) (b := b_law_2) (ok := fun _ => True) 2 (fun n ρ d _ h _ => turn2 ρ d h) (ds := rangeD 0 2) (n := 0)
    (ρ := [.sh (frzD (ns.map .int)), .own [.list (ds.map .int), .int 0], .no, .no, .no, .no, .no, .no, .no, .no]) (fun _ _ => trivial) ⟨_, _, _, _, rfl, box_ok ds, .no, .no, rfl⟩ (by rw [rangeD_len]; decide)
  obtain ⟨ρ', e3, ws, q2, q3, q5, q6, q7, q8, rfl, _⟩ := turns (S := fun _ => SI ns) (g := gNm 2) (b := b_law_1) (ok := fun _ => True) 6 (fun n ρ d _ h _ => sig_turn ρ d h) (ds := rangeD 0 6) (n := 0)
    (ρ := [.sh (frzD (ns.map .int)), .own ws, m2, m3, .own sgD, .no, .no, .no, .no, .no]) (fun _ _ => trivial) ⟨_, _, _, _, _, _, _, rfl, b, h2, .no, rfl, .no, .no⟩ (by rw [rangeD_len]; decide)
  have a1 := readings_ok (l := []) (most := 3) (by decide) (by decide) (by decide)
  rw [R_e] at a1
  have a1 : phi_readings [.str (sS []), .int 3] = some (.fr [.str (sS [])]) := a1
  have a2 := rcount_ok (l := []) (by decide)
  have a2 : phi_reading_count [.str (sS [])] = some (.sh (.int 1)) := a2
  have a3 := shortw_ok (l := []) (fun c h => by cases h) (by decide)
  have a3 : phi_shortest_word [.str (sS [])] = some (.sh (.str (sS []))) := a3
  have a4 := readings_ok (l := [46, 46, 46]) (most := 9) (by decide) (by decide) (by decide)
  rw [R_3] at a4
  have a4 : phi_readings [.str (sS [46, 46, 46]), .int 9] = some (.fr [.str (sS [101, 101, 101]), .str (sS [101, 105]), .str (sS [105, 101]), .str (sS [115])]) := a4
  have a5 := readings_ok (l := [46]) (most := 0) (by decide) (by decide) (by decide)
  have a5 : phi_readings [.str (sS [46]), .int 0] = some (.fr []) := a5
  have a6 := rcount_ok (l := [45, 45, 45, 45]) (by decide)
  rw [cnt_4] at a6
  have t1 : Str.ofString "..." = sS [46, 46, 46] := by decide +kernel
  have t2 : Str.ofString "." = sS [46] := by decide +kernel
  have t3 : Str.ofString "----" = sS [45, 45, 45, 45] := by decide +kernel
  have t4 : Str.ofString "eee" = sS [101, 101, 101] := by decide +kernel
  have t5 : Str.ofString "ei" = sS [101, 105] := by decide +kernel
  have t6 : Str.ofString "ie" = sS [105, 101] := by decide +kernel
  have t7 : Str.ofString "s" = sS [115] := by decide +kernel
  have c1 : phi_law_same 12 [.list [.str (sS [])], .list [.str (sS [])]] = some (.sh (.bool true)) := same_strs (ws := [[]]) (by decide) (by intro w h; exact ⟨by have : w = [] := by simpa using h
                                                                                                                                                                  rw [this]; decide, fun c hc => by have : w = [] := by simpa using h
                                                                                                                                                                                                    rw [this] at hc; cases hc⟩)
  have c2 : phi_law_same 12 [.int 1, .int 1] = some (.sh (.bool true)) := same_int (by decide)
  have c3 : phi_law_same 12 [.str (sS []), .str (sS [])] = some (.sh (.bool true)) := same_text ⟨by decide, fun c hc => by cases hc⟩
  have c4 : phi_law_same 12 [.list [.str (sS [101, 101, 101]), .str (sS [101, 105]), .str (sS [105, 101]), .str (sS [115])], .list [.str (sS [101, 101, 101]), .str (sS [101, 105]), .str (sS [105, 101]), .str (sS [115])]] = some (.sh (.bool true)) := by
    have h : ∀ w ∈ ([[101, 101, 101], [101, 105], [105, 101], [115]] : List (List Nat)), w.length ≤ 900 ∧ ∀ c ∈ w, c < 1114112 := by decide
    exact same_strs (ws := [[101, 101, 101], [101, 105], [105, 101], [115]]) (by decide) h
  have c5 : phi_law_same 12 [.int 7, .int 7] = some (.sh (.bool true)) := same_int (by decide)
  have g1 : eqD (.list []) (.list []) = some true := eq_nil (by decide)
  have y : ∀ n : Nat, n ≤ 6 → n ≤ lim := fun n h => by show _ ≤ 1000000; omega
  have y0 := y 0 (by omega)
  have y1 := y 1 (by omega)
  have y2 := y 2 (by omega)
  have y4 := y 4 (by omega)
  have z2 : i62 2 = true := by decide
  have z6 : i62 6 = true := by decide
  have s1 := signals_ok
  have a6 : phi_reading_count [.str (sS [45, 45, 45, 45])] = some (.sh (.int 7)) := a6
  generalize sgD = sd at *
  unfold phi_law
  rw [runN_eq (by rfl)]
  unfold m_law
  rw [t1, t2, t3, t4, t5, t6, t7, join_empty]
  simp [e1, e2, e3, s1, a1, a2, a3, a4, a5, a6, c1, c2, c3, c4, c5, g1, y0, y1, y2, y4, z2, z6]
end Law
/-! the walk: each def keeps its plain function (printed by gen.py) -/
namespace Law
open PySem PySem.Spec PyProof.Rows L2 Mi
set_option maxRecDepth 100000
set_option maxHeartbeats 4000000
def topS (i : Nat) : Stmt := PySem.Challenge.pw_postlands_k57_whole_words_that_signals_m.main.body.getD i (.Pass ⟨0, 0, 0, 0⟩)
abbrev s_sent : Stmt := topS 2
theorem sc_sent : FnScope ["word", "letter"] ["word"] (defScope s_sent) := ⟨rfl, rfl, rfl, by decide +kernel, rfl, by decide +kernel, by decide +kernel⟩
abbrev s_letter_of : Stmt := topS 3
theorem sc_letter_of : FnScope ["signal", "letter"] ["signal"] (defScope s_letter_of) := ⟨rfl, rfl, rfl, by decide +kernel, rfl, by decide +kernel, by decide +kernel⟩
abbrev s_reading_count : Stmt := topS 4
theorem sc_reading_count : FnScope ["message", "counts", "end", "starts", "start"] ["message"] (defScope s_reading_count) := ⟨rfl, rfl, rfl, by decide +kernel, rfl, by decide +kernel, by decide +kernel⟩
abbrev s_readings : Stmt := topS 5
theorem sc_readings : FnScope ["message", "most", "waiting", "found", "word", "at", "rows", "letter"] ["message", "most"] (defScope s_readings) := ⟨rfl, rfl, rfl, by decide +kernel, rfl, by decide +kernel, by decide +kernel⟩
abbrev s_shortest_word : Stmt := topS 6
theorem sc_shortest_word : FnScope ["message", "best", "end", "rows", "size", "letter", "many", "word"] ["message"] (defScope s_shortest_word) := ⟨rfl, rfl, rfl, by decide +kernel, rfl, by decide +kernel, by decide +kernel⟩
abbrev s_sounds_like : Stmt := topS 7
theorem sc_sounds_like : FnScope ["words", "word", "far"] ["words", "word"] (defScope s_sounds_like) := ⟨rfl, rfl, rfl, by decide +kernel, rfl, by decide +kernel, by decide +kernel⟩
abbrev s_law_cell : Stmt := topS 9
theorem sc_law_cell : FnScope ["script", "k"] ["script", "k"] (defScope s_law_cell) := ⟨rfl, rfl, rfl, by decide +kernel, rfl, by decide +kernel, by decide +kernel⟩
abbrev s_law_digits : Stmt := topS 10
theorem sc_law_digits : FnScope ["script", "first", "last", "digits", "k", "cell", "turn", "seed"] ["script", "first", "last"] (defScope s_law_digits) := ⟨rfl, rfl, rfl, by decide +kernel, rfl, by decide +kernel, by decide +kernel⟩
abbrev s_law_draw : Stmt := topS 11
theorem sc_law_draw : FnScope ["box", "many"] ["box", "many"] (defScope s_law_draw) := ⟨rfl, rfl, rfl, by decide +kernel, rfl, by decide +kernel, by decide +kernel⟩
abbrev s_law_pick : Stmt := topS 12
theorem sc_law_pick : FnScope ["box", "row"] ["box", "row"] (defScope s_law_pick) := ⟨rfl, rfl, rfl, by decide +kernel, rfl, by decide +kernel, by decide +kernel⟩
abbrev s_law_same : Stmt := topS 13
theorem sc_law_same : FnScope ["told", "due", "k"] ["told", "due"] (defScope s_law_same) := ⟨rfl, rfl, rfl, by decide +kernel, rfl, by decide +kernel, by decide +kernel⟩
abbrev s_law_mixed : Stmt := topS 14
theorem sc_law_mixed : FnScope ["box", "row", "left", "found", "k"] ["box", "row"] (defScope s_law_mixed) := ⟨rfl, rfl, rfl, by decide +kernel, rfl, by decide +kernel, by decide +kernel⟩
abbrev s_law_signals : Stmt := topS 15
theorem sc_law_signals : FnScope ["first"] [] (defScope s_law_signals) := ⟨rfl, rfl, rfl, by decide +kernel, rfl, by decide +kernel, by decide +kernel⟩
abbrev s_law_spelt : Stmt := topS 16
theorem sc_law_spelt : FnScope ["word", "sign"] ["word"] (defScope s_law_spelt) := ⟨rfl, rfl, rfl, by decide +kernel, rfl, by decide +kernel, by decide +kernel⟩
abbrev s_law_fits : Stmt := topS 17
theorem sc_law_fits : FnScope ["message", "signals", "found", "at", "row", "k"] ["message"] (defScope s_law_fits) := ⟨rfl, rfl, rfl, by decide +kernel, rfl, by decide +kernel, by decide +kernel⟩
abbrev s_law_counts : Stmt := topS 18
theorem sc_law_counts : FnScope ["rows", "many", "few", "at", "ends", "sign", "end"] ["rows"] (defScope s_law_counts) := ⟨rfl, rfl, rfl, by decide +kernel, rfl, by decide +kernel, by decide +kernel⟩
abbrev s_law_nth : Stmt := topS 19
theorem sc_law_nth : FnScope ["rows", "many", "number", "word", "at", "turn", "here", "sign", "end"] ["rows", "many", "number"] (defScope s_law_nth) := ⟨rfl, rfl, rfl, by decide +kernel, rfl, by decide +kernel, by decide +kernel⟩
abbrev s_law_shortest : Stmt := topS 20
theorem sc_law_shortest : FnScope ["rows", "few", "word", "at", "turn", "sign", "end"] ["rows", "few"] (defScope s_law_shortest) := ⟨rfl, rfl, rfl, by decide +kernel, rfl, by decide +kernel, by decide +kernel⟩
abbrev s_law_message : Stmt := topS 21
theorem sc_law_message : FnScope ["box", "kind", "size", "word", "k"] ["box"] (defScope s_law_message) := ⟨rfl, rfl, rfl, by decide +kernel, rfl, by decide +kernel, by decide +kernel⟩
abbrev s_law_looked : Stmt := topS 22
theorem sc_law_looked : FnScope ["box", "message", "rows", "many", "few", "most", "due", "told", "word", "k"] ["box", "message"] (defScope s_law_looked) := ⟨rfl, rfl, rfl, by decide +kernel, rfl, by decide +kernel, by decide +kernel⟩
abbrev s_law_alike : Stmt := topS 23
theorem sc_law_alike : FnScope ["box", "message", "rows", "many", "few", "words", "word", "due", "handed", "told", "k", "far"] ["box", "message"] (defScope s_law_alike) := ⟨rfl, rfl, rfl, by decide +kernel, rfl, by decide +kernel, by decide +kernel⟩
abbrev s_law : Stmt := topS 24
theorem sc_law : FnScope ["script", "box", "turn", "message", "signals", "signal", "due", "sign", "word", "k"] ["script"] (defScope s_law) := ⟨rfl, rfl, rfl, by decide +kernel, rfl, by decide +kernel, by decide +kernel⟩
structure Txt [KK] (w : World) (mg : Str → Option Value) : Prop where
  z_bool : mg "bool" = none
  z_int : mg "int" = none
  z_isinstance : mg "isinstance" = none
  z_len : mg "len" = none
  z_list : mg "list" = none
  z_max : mg "max" = none
  z_min : mg "min" = none
  z_range : mg "range" = none
  z_repr : mg "repr" = none
  z_reversed : mg "reversed" = none
  z_str : mg "str" = none
  z_sum : mg "sum" = none
  z_tuple : mg "tuple" = none
  k_SIGNALS : KdAt KK.K w mg "SIGNALS" kd_SIGNALS
section
variable [KK] {P : Program} {w : World} {mg : Str → Option Value} {base : Heap} {f : Addr} {fd : FuncData}
theorem ok_sent (T : Txt w mg) (F : Fun KK.K "sent" "sent" s_sent f fd) (mgf : mg "sent" = some (.ref f))  : Cl P w mg base "sent" 1 (spN phi_sent) :=
  ⟨f, fd, ["word"], fn_mk F sc_sent (fun cdv A outer s H E hr => (mss_cons (ms_ret (me_join me_str (me_lc (own := [("letter", 1)]) rfl sc_sent.nd (mi_of (me_var (pv 0))) (blkOk_by (N := ["word", "letter"]) (sc := (defScope s_sent)) (by decide +kernel)) (fun _ _ _ _ _ => (mg_name (pg_name (i := 1) sc_sent.nd rfl (.inl rfl)))) (fun _ _ _ _ _ => mts_nil) (fun _ _ _ _ _ => (me_kd T.k_SIGNALS (by rfl) (me_var (pv 1)) (fun _ _ => rfl))))))
  mss_nil)) (runN_ok rfl rfl), mgf, F.kp, F.binds (ps := ["word"]) fun _ _ _ _ _ _ us hl => match us, hl with | [_], _ => rfl⟩
theorem ok_letter_of (T : Txt w mg) (F : Fun KK.K "letter_of" "letter_of" s_letter_of f fd) (mgf : mg "letter_of" = some (.ref f))  : Cl P w mg base "letter_of" 1 (spN phi_letter_of) :=
  ⟨f, fd, ["signal"], fn_mk F sc_letter_of (fun cdv A outer s H E hr => (mss_cons (ms_for PassesOwn.never rfl (mi_of me_str) (mg_name (pg_name (i := 1) sc_letter_of.nd rfl (.inl rfl)))
  (mss_cons (ms_if (mt_cmp (cmp_eq (hu64 hr)) (me_kd T.k_SIGNALS (by rfl) (me_var (pv 1)) (fun _ _ => rfl)) (me_var (pv 0)) (by rfl))
  (mss_cons (ms_ret (me_var (pv 1)))
  mss_nil)
  mss_nil)
  mss_nil))
  (mss_cons (ms_ret me_non)
  mss_nil))) (runN_ok rfl rfl), mgf, F.kp, F.binds (ps := ["signal"]) fun _ _ _ _ _ _ us hl => match us, hl with | [_], _ => rfl⟩
theorem ok_reading_count (T : Txt w mg) (F : Fun KK.K "reading_count" "reading_count" s_reading_count f fd) (mgf : mg "reading_count" = some (.ref f)) (c_letter_of : Cl P w mg base "letter_of" 1 (spN phi_letter_of)) : Cl P w mg base "reading_count" 2 (spN phi_reading_count) :=
  ⟨f, fd, ["message"], fn_mk F sc_reading_count (fun cdv A outer s H E hr => (mss_cons (ms_set (i := 1) sc_reading_count.nd rfl (.inr rfl) (me_lst (ma_cons me_int ma_nil)))
  (mss_cons (ms_for PassesOwn.never rfl (mi_range2 (by rfl) (T.z_range) (ma_cons me_int (ma_cons (me_bin bin_add (me_b1 c_len (by rfl) (T.z_len) (by decide +kernel) (me_var (pv 0))) me_int) ma_nil))) (mg_name (pg_name (i := 2) sc_reading_count.nd rfl (.inr rfl)))
  (mss_cons (ms_setLc (i := 3) (own := [("start", 4)]) rfl sc_reading_count.nd rfl rfl (sw_true rfl rfl rfl (by decide +kernel)) (mi_range2 (by rfl) (T.z_range) (ma_cons (me_b2 (c_max2 rfl) (by rfl) (T.z_max) (by decide +kernel) me_int (me_bin bin_sub (me_var (pv 2)) me_int)) (ma_cons (me_var (pv 2)) ma_nil))) (blkOk_by (N := ["message", "counts", "end", "starts", "start"]) (sc := (defScope s_reading_count)) (by decide +kernel)) (fun _ _ _ _ _ => (mg_name (pg_name (i := 4) sc_reading_count.nd rfl (.inl rfl)))) (fun _ _ _ _ _ => (mts_one (mt_cmp cmp_isnot (me_callC c_letter_of (hr.mono (by decide)) (by rfl) (ma_cons (me_slice (me_var (pv 0)) (mp_some (me_var (pv 4))) (mp_some (me_var (pv 2)))) ma_nil)) me_non (by rfl)))) (fun _ _ _ _ _ => (me_var (pv 4))))
  (mss_cons (ms_expr (me_append (pv 1) (me_b1 (c_sum rfl) (by rfl) (T.z_sum) (by decide +kernel) (me_lc (own := [("start", 4)]) rfl sc_reading_count.nd (mi_of (me_var (pv 3))) (blkOk_by (N := ["message", "counts", "end", "starts", "start"]) (sc := (defScope s_reading_count)) (by decide +kernel)) (fun _ _ _ _ _ => (mg_name (pg_name (i := 4) sc_reading_count.nd rfl (.inl rfl)))) (fun _ _ _ _ _ => mts_nil) (fun _ _ _ _ _ => (me_ix (me_var (pv 1)) (me_var (pv 4)) (fun _ _ => rfl)))))))
  mss_nil)))
  (mss_cons (ms_ret (me_ix (me_var (pv 1)) (me_un un_negD me_int) (fun _ _ => rfl)))
  mss_nil)))) (runN_ok rfl rfl), mgf, F.kp, F.binds (ps := ["message"]) fun _ _ _ _ _ _ us hl => match us, hl with | [_], _ => rfl⟩
theorem ok_readings (T : Txt w mg) (F : Fun KK.K "readings" "readings" s_readings f fd) (mgf : mg "readings" = some (.ref f))  : Cl P w mg base "readings" 1 (spN phi_readings) :=
  ⟨f, fd, ["message", "most"], fn_mk F sc_readings (fun cdv A outer s H E hr => (mss_cons (ms_set (i := 2) sc_readings.nd rfl (.inl rfl) (me_lst (ma_cons (me_tup (ma_cons me_str (ma_cons me_int ma_nil))) ma_nil)))
  (mss_cons (ms_set (i := 3) sc_readings.nd rfl (.inl rfl) (me_lst ma_nil))
  (mss_cons (ms_while (f := 100000) PassesOwn.never (MW.mt (mw_and (mt_cmp (cmp_gt (hu64 hr)) (me_b1 c_len (by rfl) (T.z_len) (by decide +kernel) (me_var (pv 2))) me_int (by rfl)) (mw_and1 (mt_cmp (cmp_lt (hu64 hr)) (me_b1 c_len (by rfl) (T.z_len) (by decide +kernel) (me_var (pv 3))) (me_var (pv 1)) (by rfl)))))
  (mss_cons (ms_asg (me_pop (pv 2)) (mg_tup rfl (mgs_cons (mg_name (pg_name (i := 4) sc_readings.nd rfl (.inl rfl))) (mgs_cons (mg_name (pg_name (i := 5) sc_readings.nd rfl (.inl rfl))) mgs_nil))))
  (mss_cons (ms_if (mt_cmp (cmp_eq (hu64 hr)) (me_var (pv 5)) (me_b1 c_len (by rfl) (T.z_len) (by decide +kernel) (me_var (pv 0))) (by rfl))
  (mss_cons (ms_expr (me_append (pv 3) (me_var (pv 4))))
  mss_nil)
  mss_nil)
  (mss_cons (ms_set (i := 6) sc_readings.nd rfl (.inl rfl) (me_lst ma_nil))
  (mss_cons (ms_for PassesOwn.never rfl (mi_of me_str) (mg_name (pg_name (i := 7) sc_readings.nd rfl (.inl rfl)))
  (mss_cons (ms_if (mt_val (me_starts3 (me_var (pv 0)) (me_kd T.k_SIGNALS (by rfl) (me_var (pv 7)) (fun _ _ => rfl)) (me_var (pv 5))) (fun _ => rfl))
  (mss_cons (ms_expr (me_append (pv 6) (me_tup (ma_cons (me_bin bin_add (me_var (pv 4)) (me_var (pv 7))) (ma_cons (me_bin bin_add (me_var (pv 5)) (me_b1 c_len (by rfl) (T.z_len) (by decide +kernel) (me_kd T.k_SIGNALS (by rfl) (me_var (pv 7)) (fun _ _ => rfl)))) ma_nil)))))
  mss_nil)
  mss_nil)
  mss_nil))
  (mss_cons (ms_expr (me_extend (pv 2) (me_listRev rfl (by rfl) (T.z_list) (by rfl) (T.z_reversed) (me_var (pv 6)))))
  mss_nil))))))
  (mss_cons (ms_ret (me_var (pv 3)))
  mss_nil))))) (runN_ok rfl rfl), mgf, F.kp, F.binds (ps := ["message", "most"]) fun _ _ _ _ _ _ us hl => match us, hl with | [_, _], _ => rfl⟩
theorem ok_shortest_word (T : Txt w mg) (F : Fun KK.K "shortest_word" "shortest_word" s_shortest_word f fd) (mgf : mg "shortest_word" = some (.ref f)) (c_letter_of : Cl P w mg base "letter_of" 1 (spN phi_letter_of)) : Cl P w mg base "shortest_word" 2 (spN phi_shortest_word) :=
  ⟨f, fd, ["message"], fn_mk F sc_shortest_word (fun cdv A outer s H E hr => (mss_cons (ms_set (i := 1) sc_shortest_word.nd rfl (.inl rfl) (me_lst (ma_cons (me_tup (ma_cons me_int (ma_cons me_str ma_nil))) ma_nil)))
  (mss_cons (ms_for PassesOwn.never rfl (mi_range3 (by rfl) (T.z_range) (ma_cons (me_b1 c_len (by rfl) (T.z_len) (by decide +kernel) (me_var (pv 0))) (ma_cons me_int (ma_cons (me_un un_negD me_int) ma_nil)))) (mg_name (pg_name (i := 2) sc_shortest_word.nd rfl (.inl rfl)))
  (mss_cons (ms_set (i := 3) sc_shortest_word.nd rfl (.inl rfl) (me_lst ma_nil))
  (mss_cons (ms_for PassesOwn.never rfl (mi_range2 (by rfl) (T.z_range) (ma_cons me_int (ma_cons me_int ma_nil))) (mg_name (pg_name (i := 4) sc_shortest_word.nd rfl (.inl rfl)))
  (mss_cons (ms_set (i := 5) sc_shortest_word.nd rfl (.inl rfl) (me_callC c_letter_of (hr.mono (by decide)) (by rfl) (ma_cons (me_slice (me_var (pv 0)) (mp_some (me_bin bin_sub (me_var (pv 2)) me_int)) (mp_some (me_bin bin_add (me_bin bin_sub (me_var (pv 2)) me_int) (me_var (pv 4))))) ma_nil)))
  (mss_cons (ms_if (MW.mt (mw_and (mt_cmp (cmp_le (hu64 hr)) (me_bin bin_add (me_bin bin_sub (me_var (pv 2)) me_int) (me_var (pv 4))) (me_b1 c_len (by rfl) (T.z_len) (by decide +kernel) (me_var (pv 0))) (by rfl)) (mw_and1 (mt_cmp cmp_isnot (me_var (pv 5)) me_non (by rfl)))))
  (mss_cons (ms_asg (me_ix (me_var (pv 1)) (me_bin bin_sub (me_b1 c_len (by rfl) (T.z_len) (by decide +kernel) (me_var (pv 0))) (me_bin bin_add (me_bin bin_sub (me_var (pv 2)) me_int) (me_var (pv 4)))) (fun _ _ => rfl)) (mg_tup rfl (mgs_cons (mg_name (pg_name (i := 6) sc_shortest_word.nd rfl (.inl rfl))) (mgs_cons (mg_name (pg_name (i := 7) sc_shortest_word.nd rfl (.inl rfl))) mgs_nil))))
  (mss_cons (ms_expr (me_append (pv 3) (me_tup (ma_cons (me_bin bin_add (me_var (pv 6)) me_int) (ma_cons (me_bin bin_add (me_var (pv 5)) (me_var (pv 7))) ma_nil)))))
  mss_nil))
  mss_nil)
  mss_nil)))
  (mss_cons (ms_expr (me_append (pv 1) (me_b1 (c_min rfl (hu64 hr)) (by rfl) (T.z_min) (by decide +kernel) (me_var (pv 3)))))
  mss_nil))))
  (mss_cons (ms_ret (me_ix (me_ix (me_var (pv 1)) (me_un un_negD me_int) (fun _ _ => rfl)) me_int (fun _ _ => rfl)))
  mss_nil)))) (runN_ok rfl rfl), mgf, F.kp, F.binds (ps := ["message"]) fun _ _ _ _ _ _ us hl => match us, hl with | [_], _ => rfl⟩
theorem ok_sounds_like (T : Txt w mg) (F : Fun KK.K "sounds_like" "sounds_like" s_sounds_like f fd) (mgf : mg "sounds_like" = some (.ref f)) (c_sent : Cl P w mg base "sent" 1 (spN phi_sent)) : Cl P w mg base "sounds_like" 2 (spN phi_sounds_like) :=
  ⟨f, fd, ["words", "word"], fn_mk F sc_sounds_like (fun cdv A outer s H E hr => (mss_cons (ms_ret (me_lc (own := [("far", 2)]) rfl sc_sounds_like.nd (mi_of (me_var (pv 0))) (blkOk_by (N := ["words", "word", "far"]) (sc := (defScope s_sounds_like)) (by decide +kernel)) (fun _ _ _ _ _ => (mg_name (pg_name (i := 2) sc_sounds_like.nd rfl (.inl rfl)))) (fun _ _ _ _ _ => (mts_one (mt_cmp (cmp_eq (hu64 hr)) (me_callC c_sent (hr.mono (by decide)) (by rfl) (ma_cons (me_var (pv 2)) ma_nil)) (me_callC c_sent (hr.mono (by decide)) (by rfl) (ma_cons (me_var (pv 1)) ma_nil)) (by rfl)))) (fun _ _ _ _ _ => (me_var (pv 2)))))
  mss_nil)) (runN_ok rfl rfl), mgf, F.kp, F.binds (ps := ["words", "word"]) fun _ _ _ _ _ _ us hl => match us, hl with | [_, _], _ => rfl⟩
theorem ok_law_cell (T : Txt w mg) (F : Fun KK.K "_law_cell" "_law_cell" s_law_cell f fd) (mgf : mg "_law_cell" = some (.ref f))  : Cl P w mg base "_law_cell" 1 (spN phi_law_cell) :=
  ⟨f, fd, ["script", "k"], fn_mk F sc_law_cell (fun cdv A outer s H E hr => (mss_cons (ms_if (mt_cmp (cmp_lt (hu64 hr)) (me_var (pv 1)) (me_b1 c_len (by rfl) (T.z_len) (by decide +kernel) (me_var (pv 0))) (by rfl))
  (mss_cons (ms_ret (me_ix (me_var (pv 0)) (me_var (pv 1)) (fun _ _ => rfl)))
  mss_nil)
  mss_nil)
  (mss_cons (ms_ret me_int)
  mss_nil))) (runN_ok rfl rfl), mgf, F.kp, F.binds (ps := ["script", "k"]) fun _ _ _ _ _ _ us hl => match us, hl with | [_, _], _ => rfl⟩
theorem ok_law_digits (T : Txt w mg) (F : Fun KK.K "_law_digits" "_law_digits" s_law_digits f fd) (mgf : mg "_law_digits" = some (.ref f)) (c_law_cell : Cl P w mg base "_law_cell" 1 (spN phi_law_cell)) : Cl P w mg base "_law_digits" 2 (spN phi_law_digits) :=
  ⟨f, fd, ["script", "first", "last"], fn_mk F sc_law_digits (fun cdv A outer s H E hr => (mss_cons (ms_set (i := 3) sc_law_digits.nd rfl (.inl rfl) (me_lst ma_nil))
  (mss_cons (ms_for PassesOwn.never rfl (mi_range2 (by rfl) (T.z_range) (ma_cons (me_var (pv 1)) (ma_cons (me_var (pv 2)) ma_nil))) (mg_name (pg_name (i := 4) sc_law_digits.nd rfl (.inl rfl)))
  (mss_cons (ms_set (i := 5) sc_law_digits.nd rfl (.inl rfl) (me_callC c_law_cell (hr.mono (by decide)) (by rfl) (ma_cons (me_var (pv 0)) (ma_cons (me_var (pv 4)) ma_nil))))
  (mss_cons (ms_if (mt_cmp (cmp_lt (hu64 hr)) (me_var (pv 5)) me_int (by rfl))
  (mss_cons (ms_set (i := 5) sc_law_digits.nd rfl (.inl rfl) (me_bin bin_sub me_int (me_bin bin_mul me_int (me_var (pv 5)))))
  mss_nil)
  mss_nil)
  (mss_cons (ms_if (mt_cmp (cmp_ge (hu64 hr)) (me_var (pv 5)) (me_bin bin_pow me_int me_int) (by rfl))
  (mss_cons (ms_for PassesOwn.never rfl (mi_range1 (by rfl) (T.z_range) (ma_cons me_int ma_nil)) (mg_name (pg_name (i := 6) sc_law_digits.nd rfl (.inl rfl)))
  (mss_cons (ms_if (mt_cmp (cmp_gt (hu64 hr)) (me_var (pv 5)) me_int (by rfl))
  (mss_cons (ms_expr (me_append (pv 3) (me_bin bin_mod (me_t1 c_int (by rfl) (T.z_int) (by decide +kernel) (me_var (pv 5))) me_int)))
  (mss_cons (ms_set (i := 5) sc_law_digits.nd rfl (.inl rfl) (me_bin bin_fdiv (me_var (pv 5)) me_int))
  mss_nil))
  mss_nil)
  mss_nil))
  mss_nil)
  (mss_cons (ms_set (i := 7) sc_law_digits.nd rfl (.inl rfl) (me_bin bin_mod (me_t1 c_int (by rfl) (T.z_int) (by decide +kernel) (me_bin bin_add (me_bin bin_add (me_bin bin_mul (me_var (pv 5)) me_int) (me_bin bin_mul (me_var (pv 4)) me_int)) me_int)) me_int))
  (mss_cons (ms_for PassesOwn.never rfl (mi_range1 (by rfl) (T.z_range) (ma_cons me_int ma_nil)) (mg_name (pg_name (i := 6) sc_law_digits.nd rfl (.inl rfl)))
  (mss_cons (ms_set (i := 7) sc_law_digits.nd rfl (.inl rfl) (me_bin bin_mod (me_t1 c_int (by rfl) (T.z_int) (by decide +kernel) (me_bin bin_add (me_bin bin_add (me_bin bin_mul (me_var (pv 7)) me_int) (me_bin bin_mul me_int (me_var (pv 6)))) me_int)) me_int))
  (mss_cons (ms_expr (me_append (pv 3) (me_bin bin_mod (me_t1 c_int (by rfl) (T.z_int) (by decide +kernel) (me_bin bin_fdiv (me_var (pv 7)) me_int)) me_int)))
  mss_nil)))
  mss_nil)))
  mss_nil))))
  (mss_cons (ms_ret (me_var (pv 3)))
  mss_nil)))) (runN_ok rfl rfl), mgf, F.kp, F.binds (ps := ["script", "first", "last"]) fun _ _ _ _ _ _ us hl => match us, hl with | [_, _, _], _ => rfl⟩
theorem ok_law_draw (T : Txt w mg) (F : Fun KK.K "_law_draw" "_law_draw" s_law_draw f fd) (mgf : mg "_law_draw" = some (.ref f))  : Cl P w mg base "_law_draw" 1 (spIO phi_law_draw) :=
  ⟨f, fd, ["box", "many"], fn_mkIO F sc_law_draw (fun cdv A outer s H E hr => (mss_cons (ms_put (pv 0) me_int (me_bin bin_add (me_ix (me_var (pv 0)) me_int (fun _ _ => rfl)) me_int))
  (mss_cons (ms_if (mt_cmp (cmp_gt (hu64 hr)) (me_ix (me_var (pv 0)) me_int (fun _ _ => rfl)) (me_b1 c_len (by rfl) (T.z_len) (by decide +kernel) (me_ix (me_var (pv 0)) me_int (fun _ _ => rfl))) (by rfl))
  (mss_cons (ms_ret (me_bin bin_mod (me_t1 c_int (by rfl) (T.z_int) (by decide +kernel) (me_bin bin_add (me_bin bin_mul (me_ix (me_var (pv 0)) me_int (fun _ _ => rfl)) me_int) me_int)) (me_var (pv 1))))
  mss_nil)
  mss_nil)
  (mss_cons (ms_ret (me_bin bin_mod (me_t1 c_int (by rfl) (T.z_int) (by decide +kernel) (me_ix (me_ix (me_var (pv 0)) me_int (fun _ _ => rfl)) (me_bin bin_sub (me_ix (me_var (pv 0)) me_int (fun _ _ => rfl)) me_int) (fun _ _ => rfl))) (me_var (pv 1))))
  mss_nil)))) (runIO_ok rfl rfl), mgf, F.kp, F.binds (ps := ["box", "many"]) fun _ _ _ _ _ _ us hl => match us, hl with | [_, _], _ => rfl⟩
theorem ok_law_pick (T : Txt w mg) (F : Fun KK.K "_law_pick" "_law_pick" s_law_pick f fd) (mgf : mg "_law_pick" = some (.ref f)) (c_law_draw : Cl P w mg base "_law_draw" 1 (spIO phi_law_draw)) : Cl P w mg base "_law_pick" 2 (spIO phi_law_pick) :=
  ⟨f, fd, ["box", "row"], fn_mkIO F sc_law_pick (fun cdv A outer s H E hr => (mss_cons (ms_ret (me_ix (me_var (pv 1)) (me_bin bin_mod (me_t1 c_int (by rfl) (T.z_int) (by decide +kernel) (me_callIOC c_law_draw (hr.mono (by decide)) (by rfl) (pv 0) (ma_cons me_int ma_nil))) (me_b1 c_len (by rfl) (T.z_len) (by decide +kernel) (me_var (pv 1)))) (fun _ _ => rfl)))
  mss_nil)) (runIO_ok rfl rfl), mgf, F.kp, F.binds (ps := ["box", "row"]) fun _ _ _ _ _ _ us hl => match us, hl with | [_, _], _ => rfl⟩
theorem ok_law_same (T : Txt w mg) (F : Fun KK.K "_law_same" "_law_same" s_law_same f fd) (mgf : mg "_law_same" = some (.ref f))  : ∀ n, Cl P w mg base "_law_same" (n + 0) (spN (phi_law_same n))
  | 0 => ⟨f, fd, ["told", "due"], none_ok (fun _ => rfl), mgf, F.kp, F.binds (ps := ["told", "due"]) fun _ _ _ _ _ _ us hl => match us, hl with | [_, _], _ => rfl⟩
  | n + 1 => by
    have c_law_same := ok_law_same T F mgf  n
    exact ⟨f, fd, ["told", "due"], (fn_mk (k := n + 0) F sc_law_same (fun cdv A outer s H E hr => (mss_cons (ms_if (mt_cmp cmp_isD (me_var (pv 1)) me_non (by rfl))
  (mss_cons (ms_ret (me_cmp cmp_isD (me_var (pv 0)) me_non (by rfl)))
  mss_nil)
  mss_nil)
  (mss_cons (ms_if (mt_cmp cmp_isD (me_var (pv 1)) me_bl (by rfl))
  (mss_cons (ms_ret (me_cmp cmp_isD (me_var (pv 0)) me_bl (by rfl)))
  mss_nil)
  mss_nil)
  (mss_cons (ms_if (mt_cmp cmp_isD (me_var (pv 1)) me_bl (by rfl))
  (mss_cons (ms_ret (me_cmp cmp_isD (me_var (pv 0)) me_bl (by rfl)))
  mss_nil)
  mss_nil)
  (mss_cons (ms_if (mt_val (me_isi (by rfl) (T.z_isinstance) (by decide +kernel) (me_var (pv 1)) (by rfl) (T.z_str) (by decide +kernel)) (fun _ => rfl))
  (mss_cons (ms_ret (me_and (me_isi (by rfl) (T.z_isinstance) (by decide +kernel) (me_var (pv 0)) (by rfl) (T.z_str) (by decide +kernel)) (me_one (me_cmp (cmp_eq (hu64 hr)) (me_b1 c_repr (by rfl) (T.z_repr) (by decide +kernel) (me_var (pv 0))) (me_b1 c_repr (by rfl) (T.z_repr) (by decide +kernel) (me_var (pv 1))) (by rfl)))))
  mss_nil)
  mss_nil)
  (mss_cons (ms_if (mt_val (me_isi (by rfl) (T.z_isinstance) (by decide +kernel) (me_var (pv 1)) (by rfl) (T.z_int) (by decide +kernel)) (fun _ => rfl))
  (mss_cons (ms_ret (me_and (me_isi (by rfl) (T.z_isinstance) (by decide +kernel) (me_var (pv 0)) (by rfl) (T.z_int) (by decide +kernel)) (me_and (me_not (me_isi (by rfl) (T.z_isinstance) (by decide +kernel) (me_var (pv 0)) (by rfl) (T.z_bool) (by decide +kernel))) (me_one (me_cmp (cmp_eq (hu64 hr)) (me_b1 c_repr (by rfl) (T.z_repr) (by decide +kernel) (me_var (pv 0))) (me_b1 c_repr (by rfl) (T.z_repr) (by decide +kernel) (me_var (pv 1))) (by rfl))))))
  mss_nil)
  mss_nil)
  (mss_cons (ms_if (MW.mt (mw_or (MW.mt (mw_and (mt_val (me_isi (by rfl) (T.z_isinstance) (by decide +kernel) (me_var (pv 1)) (by rfl) (T.z_tuple) (by decide +kernel)) (fun _ => rfl)) (mw_and1 (mt_not (mt_val (me_isi (by rfl) (T.z_isinstance) (by decide +kernel) (me_var (pv 0)) (by rfl) (T.z_tuple) (by decide +kernel)) (fun _ => rfl)))))) (mw_or1 (MW.mt (mw_and (mt_val (me_isi (by rfl) (T.z_isinstance) (by decide +kernel) (me_var (pv 1)) (by rfl) (T.z_list) (by decide +kernel)) (fun _ => rfl)) (mw_and1 (mt_not (mt_val (me_isi (by rfl) (T.z_isinstance) (by decide +kernel) (me_var (pv 0)) (by rfl) (T.z_list) (by decide +kernel)) (fun _ => rfl)))))))))
  (mss_cons (ms_ret me_bl)
  mss_nil)
  mss_nil)
  (mss_cons (ms_if (mt_cmp (cmp_ne (hu64 hr)) (me_b1 c_len (by rfl) (T.z_len) (by decide +kernel) (me_var (pv 0))) (me_b1 c_len (by rfl) (T.z_len) (by decide +kernel) (me_var (pv 1))) (by rfl))
  (mss_cons (ms_ret me_bl)
  mss_nil)
  mss_nil)
  (mss_cons (ms_for PassesOwn.never rfl (mi_range1 (by rfl) (T.z_range) (ma_cons (me_b1 c_len (by rfl) (T.z_len) (by decide +kernel) (me_var (pv 1))) ma_nil)) (mg_name (pg_name (i := 2) sc_law_same.nd rfl (.inl rfl)))
  (mss_cons (ms_if (mt_not (mt_val (me_callLC c_law_same (hr.mono (by omega)) (by rfl) (ml_cons (me_ix (me_var (pv 0)) (me_var (pv 2)) (fun _ _ => rfl)) (ml_cons (me_ix (me_var (pv 1)) (me_var (pv 2)) (fun _ _ => rfl)) ml_nil))) (fun _ => rfl)))
  (mss_cons (ms_ret me_bl)
  mss_nil)
  mss_nil)
  mss_nil))
  (mss_cons (ms_ret me_bl)
  mss_nil)))))))))) (runN_ok rfl rfl)).mono (by omega), mgf, F.kp, F.binds (ps := ["told", "due"]) fun _ _ _ _ _ _ us hl => match us, hl with | [_, _], _ => rfl⟩
theorem ok_law_mixed (T : Txt w mg) (F : Fun KK.K "_law_mixed" "_law_mixed" s_law_mixed f fd) (mgf : mg "_law_mixed" = some (.ref f)) (c_law_draw : Cl P w mg base "_law_draw" 1 (spIO phi_law_draw)) : Cl P w mg base "_law_mixed" 2 (spIO phi_law_mixed) :=
  ⟨f, fd, ["box", "row"], fn_mkIO F sc_law_mixed (fun cdv A outer s H E hr => (mss_cons (ms_set (i := 2) sc_law_mixed.nd rfl (.inl rfl) (me_t1 c_list (by rfl) (T.z_list) (by decide +kernel) (me_var (pv 1))))
  (mss_cons (ms_set (i := 3) sc_law_mixed.nd rfl (.inl rfl) (me_lst ma_nil))
  (mss_cons (ms_for PassesOwn.never rfl (mi_range1 (by rfl) (T.z_range) (ma_cons (me_b1 c_len (by rfl) (T.z_len) (by decide +kernel) (me_var (pv 1))) ma_nil)) (mg_name (pg_name (i := 4) sc_law_mixed.nd rfl (.inl rfl)))
  (mss_cons (ms_expr (me_append (pv 3) (me_popAt (pv 2) (me_callIOC c_law_draw (hr.mono (by decide)) (by rfl) (pv 0) (ma_cons (me_b1 c_len (by rfl) (T.z_len) (by decide +kernel) (me_var (pv 2))) ma_nil)))))
  mss_nil))
  (mss_cons (ms_ret (me_var (pv 3)))
  mss_nil))))) (runIO_ok rfl rfl), mgf, F.kp, F.binds (ps := ["box", "row"]) fun _ _ _ _ _ _ us hl => match us, hl with | [_, _], _ => rfl⟩
theorem ok_law_signals (T : Txt w mg) (F : Fun KK.K "_law_signals" "_law_signals" s_law_signals f fd) (mgf : mg "_law_signals" = some (.ref f))  : Cl P w mg base "_law_signals" 1 (spN phi_law_signals) :=
  ⟨f, fd, [], fn_mk F sc_law_signals (fun cdv A outer s H E hr => (mss_cons (ms_set (i := 0) sc_law_signals.nd rfl (.inl rfl) (me_lst (ma_cons me_str (ma_cons me_str (ma_cons me_str (ma_cons me_str (ma_cons me_str (ma_cons me_str (ma_cons me_str (ma_cons me_str (ma_cons me_str (ma_cons me_str (ma_cons me_str (ma_cons me_str (ma_cons me_str ma_nil)))))))))))))))
  (mss_cons (ms_ret (me_bin bin_add (me_var (pv 0)) (me_lst (ma_cons me_str (ma_cons me_str (ma_cons me_str (ma_cons me_str (ma_cons me_str (ma_cons me_str (ma_cons me_str (ma_cons me_str (ma_cons me_str (ma_cons me_str (ma_cons me_str (ma_cons me_str (ma_cons me_str ma_nil))))))))))))))))
  mss_nil))) (runN_ok rfl rfl), mgf, F.kp, F.binds (ps := []) fun _ _ _ _ _ _ us hl => match us, hl with | [], _ => rfl⟩
theorem ok_law_spelt (T : Txt w mg) (F : Fun KK.K "_law_spelt" "_law_spelt" s_law_spelt f fd) (mgf : mg "_law_spelt" = some (.ref f)) (c_law_signals : Cl P w mg base "_law_signals" 1 (spN phi_law_signals)) : Cl P w mg base "_law_spelt" 2 (spN phi_law_spelt) :=
  ⟨f, fd, ["word"], fn_mk F sc_law_spelt (fun cdv A outer s H E hr => (mss_cons (ms_ret (me_lc (own := [("sign", 1)]) rfl sc_law_spelt.nd (mi_of (me_var (pv 0))) (blkOk_by (N := ["word", "sign"]) (sc := (defScope s_law_spelt)) (by decide +kernel)) (fun _ _ _ _ _ => (mg_name (pg_name (i := 1) sc_law_spelt.nd rfl (.inl rfl)))) (fun _ _ _ _ _ => mts_nil) (fun _ _ _ _ _ => (me_ix (me_call0 c_law_signals (hr.mono (by decide)) (by rfl)) (me_sindex me_str (me_var (pv 1))) (fun _ _ => rfl)))))
  mss_nil)) (runN_ok rfl rfl), mgf, F.kp, F.binds (ps := ["word"]) fun _ _ _ _ _ _ us hl => match us, hl with | [_], _ => rfl⟩
theorem ok_law_fits (T : Txt w mg) (F : Fun KK.K "_law_fits" "_law_fits" s_law_fits f fd) (mgf : mg "_law_fits" = some (.ref f)) (c_law_signals : Cl P w mg base "_law_signals" 1 (spN phi_law_signals)) : Cl P w mg base "_law_fits" 2 (spN phi_law_fits) :=
  ⟨f, fd, ["message"], fn_mk F sc_law_fits (fun cdv A outer s H E hr => (mss_cons (ms_set (i := 1) sc_law_fits.nd rfl (.inl rfl) (me_call0 c_law_signals (hr.mono (by decide)) (by rfl)))
  (mss_cons (ms_set (i := 2) sc_law_fits.nd rfl (.inl rfl) (me_lst ma_nil))
  (mss_cons (ms_for PassesOwn.never rfl (mi_range1 (by rfl) (T.z_range) (ma_cons (me_b1 c_len (by rfl) (T.z_len) (by decide +kernel) (me_var (pv 0))) ma_nil)) (mg_name (pg_name (i := 3) sc_law_fits.nd rfl (.inl rfl)))
  (mss_cons (ms_set (i := 4) sc_law_fits.nd rfl (.inl rfl) (me_lst ma_nil))
  (mss_cons (ms_for PassesOwn.never rfl (mi_range1 (by rfl) (T.z_range) (ma_cons me_int ma_nil)) (mg_name (pg_name (i := 5) sc_law_fits.nd rfl (.inl rfl)))
  (mss_cons (ms_if (mt_cmp (cmp_eq (hu64 hr)) (me_slice (me_var (pv 0)) (mp_some (me_var (pv 3))) (mp_some (me_bin bin_add (me_var (pv 3)) (me_b1 c_len (by rfl) (T.z_len) (by decide +kernel) (me_ix (me_var (pv 1)) (me_var (pv 5)) (fun _ _ => rfl)))))) (me_ix (me_var (pv 1)) (me_var (pv 5)) (fun _ _ => rfl)) (by rfl))
  (mss_cons (ms_expr (me_append (pv 4) (me_tup (ma_cons (me_ix me_str (me_var (pv 5)) (fun _ _ => rfl)) (ma_cons (me_bin bin_add (me_var (pv 3)) (me_b1 c_len (by rfl) (T.z_len) (by decide +kernel) (me_ix (me_var (pv 1)) (me_var (pv 5)) (fun _ _ => rfl)))) ma_nil)))))
  mss_nil)
  mss_nil)
  mss_nil))
  (mss_cons (ms_expr (me_append (pv 2) (me_var (pv 4))))
  mss_nil))))
  (mss_cons (ms_ret (me_var (pv 2)))
  mss_nil))))) (runN_ok rfl rfl), mgf, F.kp, F.binds (ps := ["message"]) fun _ _ _ _ _ _ us hl => match us, hl with | [_], _ => rfl⟩
theorem ok_law_counts (T : Txt w mg) (F : Fun KK.K "_law_counts" "_law_counts" s_law_counts f fd) (mgf : mg "_law_counts" = some (.ref f))  : Cl P w mg base "_law_counts" 1 (spN phi_law_counts) :=
  ⟨f, fd, ["rows"], fn_mk F sc_law_counts (fun cdv A outer s H E hr => (mss_cons (ms_asg (me_tup (ma_cons (me_lst (ma_cons me_int ma_nil)) (ma_cons (me_lst (ma_cons me_int ma_nil)) ma_nil))) (mg_tup rfl (mgs_cons (mg_name (pg_name (i := 1) sc_law_counts.nd rfl (.inr rfl))) (mgs_cons (mg_name (pg_name (i := 2) sc_law_counts.nd rfl (.inr rfl))) mgs_nil))))
  (mss_cons (ms_for PassesOwn.never rfl (mi_range3 (by rfl) (T.z_range) (ma_cons (me_bin bin_sub (me_b1 c_len (by rfl) (T.z_len) (by decide +kernel) (me_var (pv 0))) me_int) (ma_cons (me_un un_negD me_int) (ma_cons (me_un un_negD me_int) ma_nil)))) (mg_name (pg_name (i := 3) sc_law_counts.nd rfl (.inr rfl)))
  (mss_cons (ms_setLc (i := 4) (own := [("sign", 5), ("end", 6)]) rfl sc_law_counts.nd rfl rfl (sw_true rfl rfl rfl (by decide +kernel)) (mi_of (me_ix (me_var (pv 0)) (me_var (pv 3)) (fun _ _ => rfl))) (blkOk_by (N := ["rows", "many", "few", "at", "ends", "sign", "end"]) (sc := (defScope s_law_counts)) (by decide +kernel)) (fun _ _ _ _ _ => (mg_tup rfl (mgs_cons (mg_name (pg_name (i := 5) sc_law_counts.nd rfl (.inl rfl))) (mgs_cons (mg_name (pg_name (i := 6) sc_law_counts.nd rfl (.inl rfl))) mgs_nil)))) (fun _ _ _ _ _ => mts_nil) (fun _ _ _ _ _ => (me_bin bin_sub (me_bin bin_sub (me_var (pv 6)) (me_var (pv 3))) me_int)))
  (mss_cons (ms_set (i := 1) sc_law_counts.nd rfl (.inr rfl) (me_bin bin_add (me_lst (ma_cons (me_b1 (c_sum rfl) (by rfl) (T.z_sum) (by decide +kernel) (me_lc (own := [("end", 6)]) rfl sc_law_counts.nd (mi_of (me_var (pv 4))) (blkOk_by (N := ["rows", "many", "few", "at", "ends", "sign", "end"]) (sc := (defScope s_law_counts)) (by decide +kernel)) (fun _ _ _ _ _ => (mg_name (pg_name (i := 6) sc_law_counts.nd rfl (.inl rfl)))) (fun _ _ _ _ _ => mts_nil) (fun _ _ _ _ _ => (me_ix (me_var (pv 1)) (me_var (pv 6)) (fun _ _ => rfl))))) ma_nil)) (me_var (pv 1))))
  (mss_cons (ms_set (i := 2) sc_law_counts.nd rfl (.inr rfl) (me_bin bin_add (me_lst (ma_cons (me_bin bin_add me_int (me_b1 (c_min rfl (hu64 hr)) (by rfl) (T.z_min) (by decide +kernel) (me_lc (own := [("end", 6)]) rfl sc_law_counts.nd (mi_of (me_var (pv 4))) (blkOk_by (N := ["rows", "many", "few", "at", "ends", "sign", "end"]) (sc := (defScope s_law_counts)) (by decide +kernel)) (fun _ _ _ _ _ => (mg_name (pg_name (i := 6) sc_law_counts.nd rfl (.inl rfl)))) (fun _ _ _ _ _ => mts_nil) (fun _ _ _ _ _ => (me_ix (me_var (pv 2)) (me_var (pv 6)) (fun _ _ => rfl)))))) ma_nil)) (me_var (pv 2))))
  mss_nil))))
  (mss_cons (ms_ret (me_tup (ma_cons (me_var (pv 1)) (ma_cons (me_var (pv 2)) ma_nil))))
  mss_nil)))) (runN_ok rfl rfl), mgf, F.kp, F.binds (ps := ["rows"]) fun _ _ _ _ _ _ us hl => match us, hl with | [_], _ => rfl⟩
theorem ok_law_nth (T : Txt w mg) (F : Fun KK.K "_law_nth" "_law_nth" s_law_nth f fd) (mgf : mg "_law_nth" = some (.ref f))  : Cl P w mg base "_law_nth" 1 (spN phi_law_nth) :=
  ⟨f, fd, ["rows", "many", "number"], fn_mk F sc_law_nth (fun cdv A outer s H E hr => (mss_cons (ms_asg (me_tup (ma_cons me_str (ma_cons me_int ma_nil))) (mg_tup rfl (mgs_cons (mg_name (pg_name (i := 3) sc_law_nth.nd rfl (.inl rfl))) (mgs_cons (mg_name (pg_name (i := 4) sc_law_nth.nd rfl (.inl rfl))) mgs_nil))))
  (mss_cons (ms_for PassesOwn.never rfl (mi_range1 (by rfl) (T.z_range) (ma_cons (me_b1 c_len (by rfl) (T.z_len) (by decide +kernel) (me_var (pv 0))) ma_nil)) (mg_name (pg_name (i := 5) sc_law_nth.nd rfl (.inl rfl)))
  (mss_cons (ms_if (mt_cmp (cmp_lt (hu64 hr)) (me_var (pv 4)) (me_b1 c_len (by rfl) (T.z_len) (by decide +kernel) (me_var (pv 0))) (by rfl))
  (mss_cons (ms_set (i := 6) sc_law_nth.nd rfl (.inl rfl) (me_var (pv 4)))
  (mss_cons (ms_for PassesOwn.never rfl (mi_of (me_ix (me_var (pv 0)) (me_var (pv 6)) (fun _ _ => rfl))) (mg_tup rfl (mgs_cons (mg_name (pg_name (i := 7) sc_law_nth.nd rfl (.inl rfl))) (mgs_cons (mg_name (pg_name (i := 8) sc_law_nth.nd rfl (.inl rfl))) mgs_nil)))
  (mss_cons (ms_if (mt_cmp (cmp_eq (hu64 hr)) (me_var (pv 4)) (me_var (pv 6)) (by rfl))
  (mss_cons (ms_if (mt_cmp (cmp_lt (hu64 hr)) (me_var (pv 2)) (me_ix (me_var (pv 1)) (me_var (pv 8)) (fun _ _ => rfl)) (by rfl))
  (mss_cons (ms_par (i := 3) (j := 4) rfl sc_law_nth.nd rfl rfl (by decide) rfl rfl (ma_cons (me_bin bin_add (me_var (pv 3)) (me_var (pv 7))) (ma_cons (me_var (pv 8)) ma_nil)))
  mss_nil)
  (mss_cons (ms_set (i := 2) sc_law_nth.nd rfl (.inl rfl) (me_bin bin_sub (me_var (pv 2)) (me_ix (me_var (pv 1)) (me_var (pv 8)) (fun _ _ => rfl))))
  mss_nil))
  mss_nil)
  mss_nil)
  mss_nil))
  mss_nil))
  mss_nil)
  mss_nil))
  (mss_cons (ms_ret (me_var (pv 3)))
  mss_nil)))) (runN_ok rfl rfl), mgf, F.kp, F.binds (ps := ["rows", "many", "number"]) fun _ _ _ _ _ _ us hl => match us, hl with | [_, _, _], _ => rfl⟩
theorem ok_law_shortest (T : Txt w mg) (F : Fun KK.K "_law_shortest" "_law_shortest" s_law_shortest f fd) (mgf : mg "_law_shortest" = some (.ref f))  : Cl P w mg base "_law_shortest" 1 (spN phi_law_shortest) :=
  ⟨f, fd, ["rows", "few"], fn_mk F sc_law_shortest (fun cdv A outer s H E hr => (mss_cons (ms_asg (me_tup (ma_cons me_str (ma_cons me_int ma_nil))) (mg_tup rfl (mgs_cons (mg_name (pg_name (i := 2) sc_law_shortest.nd rfl (.inl rfl))) (mgs_cons (mg_name (pg_name (i := 3) sc_law_shortest.nd rfl (.inr rfl))) mgs_nil))))
  (mss_cons (ms_for PassesOwn.never rfl (mi_range1 (by rfl) (T.z_range) (ma_cons (me_b1 c_len (by rfl) (T.z_len) (by decide +kernel) (me_var (pv 0))) ma_nil)) (mg_name (pg_name (i := 4) sc_law_shortest.nd rfl (.inl rfl)))
  (mss_cons (ms_if (mt_cmp (cmp_lt (hu64 hr)) (me_var (pv 3)) (me_b1 c_len (by rfl) (T.z_len) (by decide +kernel) (me_var (pv 0))) (by rfl))
  (mss_cons (ms_asg (me_ix (me_lc (own := [("sign", 5), ("end", 6)]) rfl sc_law_shortest.nd (mi_of (me_ix (me_var (pv 0)) (me_var (pv 3)) (fun _ _ => rfl))) (blkOk_by (N := ["rows", "few", "word", "at", "turn", "sign", "end"]) (sc := (defScope s_law_shortest)) (by decide +kernel)) (fun _ _ _ _ _ => (mg_tup rfl (mgs_cons (mg_name (pg_name (i := 5) sc_law_shortest.nd rfl (.inl rfl))) (mgs_cons (mg_name (pg_name (i := 6) sc_law_shortest.nd rfl (.inl rfl))) mgs_nil)))) (fun _ _ _ _ _ => (mts_one (mt_cmp (cmp_eq (hu64 hr)) (me_ix (me_var (pv 1)) (me_var (pv 6)) (fun _ _ => rfl)) (me_bin bin_sub (me_ix (me_var (pv 1)) (me_var (pv 3)) (fun _ _ => rfl)) me_int) (by rfl)))) (fun _ _ _ _ _ => (me_tup (ma_cons (me_var (pv 5)) (ma_cons (me_var (pv 6)) ma_nil))))) me_int (fun _ _ => rfl)) (mg_tup rfl (mgs_cons (mg_name (pg_name (i := 5) sc_law_shortest.nd rfl (.inl rfl))) (mgs_cons (mg_name (pg_name (i := 6) sc_law_shortest.nd rfl (.inl rfl))) mgs_nil))))
  (mss_cons (ms_asg (me_tup (ma_cons (me_bin bin_add (me_var (pv 2)) (me_var (pv 5))) (ma_cons (me_var (pv 6)) ma_nil))) (mg_tup rfl (mgs_cons (mg_name (pg_name (i := 2) sc_law_shortest.nd rfl (.inl rfl))) (mgs_cons (mg_name (pg_name (i := 3) sc_law_shortest.nd rfl (.inr rfl))) mgs_nil))))
  mss_nil))
  mss_nil)
  mss_nil))
  (mss_cons (ms_ret (me_var (pv 2)))
  mss_nil)))) (runN_ok rfl rfl), mgf, F.kp, F.binds (ps := ["rows", "few"]) fun _ _ _ _ _ _ us hl => match us, hl with | [_, _], _ => rfl⟩
theorem ok_law_message (T : Txt w mg) (F : Fun KK.K "_law_message" "_law_message" s_law_message f fd) (mgf : mg "_law_message" = some (.ref f)) (c_law_draw : Cl P w mg base "_law_draw" 1 (spIO phi_law_draw)) (c_law_pick : Cl P w mg base "_law_pick" 2 (spIO phi_law_pick)) (c_law_spelt : Cl P w mg base "_law_spelt" 2 (spN phi_law_spelt)) : Cl P w mg base "_law_message" 3 (spIO phi_law_message) :=
  ⟨f, fd, ["box"], fn_mkIO F sc_law_message (fun cdv A outer s H E hr => (mss_cons (ms_set (i := 1) sc_law_message.nd rfl (.inl rfl) (me_callIOC c_law_draw (hr.mono (by decide)) (by rfl) (pv 0) (ma_cons me_int ma_nil)))
  (mss_cons (ms_set (i := 2) sc_law_message.nd rfl (.inl rfl) (me_callIOC c_law_pick (hr.mono (by decide)) (by rfl) (pv 0) (ma_cons (me_lst (ma_cons me_int (ma_cons me_int (ma_cons me_int (ma_cons me_int (ma_cons me_int (ma_cons me_int (ma_cons me_int (ma_cons me_int (ma_cons me_int ma_nil)))))))))) ma_nil)))
  (mss_cons (ms_if (mt_cmp (cmp_eq (hu64 hr)) (me_var (pv 1)) me_int (by rfl))
  (mss_cons (ms_set (i := 3) sc_law_message.nd rfl (.inl rfl) (me_join me_str (me_lc (own := [("k", 4)]) rfl sc_law_message.nd (mi_range1 (by rfl) (T.z_range) (ma_cons (me_bin bin_add me_int (me_callIOC c_law_draw (hr.mono (by decide)) (by rfl) (pv 0) (ma_cons me_int ma_nil))) ma_nil)) (blkOk_by (N := ["box", "kind", "size", "word", "k"]) (sc := (defScope s_law_message)) (by decide +kernel)) (fun _ _ _ _ _ => (mg_name (pg_name (i := 4) sc_law_message.nd rfl (.inl rfl)))) (fun _ _ _ _ _ => mts_nil) (fun _ _ _ _ _ => (me_callIOC c_law_pick (hr.mono (by decide)) (by rfl) (pv 0) (ma_cons me_str ma_nil))))))
  (mss_cons (ms_ret (me_slice (me_join me_str (me_callC c_law_spelt (hr.mono (by decide)) (by rfl) (ma_cons (me_var (pv 3)) ma_nil))) mp_none (mp_some me_int)))
  mss_nil))
  mss_nil)
  (mss_cons (ms_if (mt_cmp (cmp_eq (hu64 hr)) (me_var (pv 1)) me_int (by rfl))
  (mss_cons (ms_ret (me_bin bin_mulS (me_callIOC c_law_pick (hr.mono (by decide)) (by rfl) (pv 0) (ma_cons me_str ma_nil)) (me_var (pv 2))))
  mss_nil)
  mss_nil)
  (mss_cons (ms_ret (me_join me_str (me_lc (own := [("k", 4)]) rfl sc_law_message.nd (mi_range1 (by rfl) (T.z_range) (ma_cons (me_var (pv 2)) ma_nil)) (blkOk_by (N := ["box", "kind", "size", "word", "k"]) (sc := (defScope s_law_message)) (by decide +kernel)) (fun _ _ _ _ _ => (mg_name (pg_name (i := 4) sc_law_message.nd rfl (.inl rfl)))) (fun _ _ _ _ _ => mts_nil) (fun _ _ _ _ _ => (me_callIOC c_law_pick (hr.mono (by decide)) (by rfl) (pv 0) (ma_cons me_str ma_nil))))))
  mss_nil)))))) (runIO_ok rfl rfl), mgf, F.kp, F.binds (ps := ["box"]) fun _ _ _ _ _ _ us hl => match us, hl with | [_], _ => rfl⟩
theorem ok_law_looked (T : Txt w mg) (F : Fun KK.K "_law_looked" "_law_looked" s_law_looked f fd) (mgf : mg "_law_looked" = some (.ref f)) (c_law_fits : Cl P w mg base "_law_fits" 2 (spN phi_law_fits)) (c_law_counts : Cl P w mg base "_law_counts" 1 (spN phi_law_counts)) (c_law_draw : Cl P w mg base "_law_draw" 1 (spIO phi_law_draw)) (c_law_pick : Cl P w mg base "_law_pick" 2 (spIO phi_law_pick)) (c_readings : Cl P w mg base "readings" 1 (spN phi_readings)) (c_law_same : Cl P w mg base "_law_same" 12 (spN (phi_law_same 12))) (c_law_nth : Cl P w mg base "_law_nth" 1 (spN phi_law_nth)) (c_reading_count : Cl P w mg base "reading_count" 2 (spN phi_reading_count)) (c_shortest_word : Cl P w mg base "shortest_word" 2 (spN phi_shortest_word)) (c_law_shortest : Cl P w mg base "_law_shortest" 1 (spN phi_law_shortest)) (c_sent : Cl P w mg base "sent" 1 (spN phi_sent)) : Cl P w mg base "_law_looked" 13 (spIO phi_law_looked) :=
  ⟨f, fd, ["box", "message"], fn_mkIO F sc_law_looked (fun cdv A outer s H E hr => (mss_cons (ms_set (i := 2) sc_law_looked.nd rfl (.inr rfl) (me_callC c_law_fits (hr.mono (by decide)) (by rfl) (ma_cons (me_var (pv 1)) ma_nil)))
  (mss_cons (ms_asg (me_callC c_law_counts (hr.mono (by decide)) (by rfl) (ma_cons (me_var (pv 2)) ma_nil)) (mg_tup rfl (mgs_cons (mg_name (pg_name (i := 3) sc_law_looked.nd rfl (.inr rfl))) (mgs_cons (mg_name (pg_name (i := 4) sc_law_looked.nd rfl (.inl rfl))) mgs_nil))))
  (mss_cons (ms_if (MW.mt (mw_or (mt_not (mt_val (me_callLC c_law_same (hr.mono (by decide)) (by rfl) (ml_cons (me_callC c_reading_count (hr.mono (by decide)) (by rfl) (ma_cons (me_var (pv 1)) ma_nil)) (ml_cons (me_ix (me_var (pv 3)) me_int (fun _ _ => rfl)) ml_nil))) (fun _ => rfl))) (mw_or1 (mt_not (mt_val (me_callLC c_law_same (hr.mono (by decide)) (by rfl) (ml_cons (me_callC c_shortest_word (hr.mono (by decide)) (by rfl) (ma_cons (me_var (pv 1)) ma_nil)) (ml_cons (me_callC c_law_shortest (hr.mono (by decide)) (by rfl) (ma_cons (me_var (pv 2)) (ma_cons (me_var (pv 4)) ma_nil))) ml_nil))) (fun _ => rfl))))))
  (mss_cons (ms_ret me_bl)
  mss_nil)
  mss_nil)
  (mss_cons (ms_for PassesOwn.never rfl (mi_of (me_lst (ma_cons (me_callIOC c_law_draw (hr.mono (by decide)) (by rfl) (pv 0) (ma_cons me_int ma_nil)) (ma_cons (me_callIOC c_law_pick (hr.mono (by decide)) (by rfl) (pv 0) (ma_cons (me_lst (ma_cons me_int (ma_cons me_int (ma_cons (me_if (mt_cmp (cmp_lt (hu64 hr)) (me_ix (me_var (pv 3)) me_int (fun _ _ => rfl)) me_int (by rfl)) (me_ix (me_var (pv 3)) me_int (fun _ _ => rfl)) me_int) ma_nil)))) ma_nil)) ma_nil)))) (mg_name (pg_name (i := 5) sc_law_looked.nd rfl (.inl rfl)))
  (mss_cons (ms_setLc (i := 6) (own := [("k", 9)]) rfl sc_law_looked.nd rfl rfl (sw_true rfl rfl rfl (by decide +kernel)) (mi_range1 (by rfl) (T.z_range) (ma_cons (me_b2 (c_min2 rfl) (by rfl) (T.z_min) (by decide +kernel) (me_var (pv 5)) (me_ix (me_var (pv 3)) me_int (fun _ _ => rfl))) ma_nil)) (blkOk_by (N := ["box", "message", "rows", "many", "few", "most", "due", "told", "word", "k"]) (sc := (defScope s_law_looked)) (by decide +kernel)) (fun _ _ _ _ _ => (mg_name (pg_name (i := 9) sc_law_looked.nd rfl (.inl rfl)))) (fun _ _ _ _ _ => mts_nil) (fun _ _ _ _ _ => (me_callC c_law_nth (hr.mono (by decide)) (by rfl) (ma_cons (me_var (pv 2)) (ma_cons (me_var (pv 3)) (ma_cons (me_var (pv 9)) ma_nil))))))
  (mss_cons (ms_set (i := 7) sc_law_looked.nd rfl (.inl rfl) (me_callC c_readings (hr.mono (by decide)) (by rfl) (ma_cons (me_var (pv 1)) (ma_cons (me_var (pv 5)) ma_nil))))
  (mss_cons (ms_if (mt_not (mt_val (me_callLC c_law_same (hr.mono (by decide)) (by rfl) (ml_cons (me_var (pv 7)) (ml_cons (me_var (pv 6)) ml_nil))) (fun _ => rfl)))
  (mss_cons (ms_ret me_bl)
  mss_nil)
  mss_nil)
  (mss_cons (ms_for PassesOwn.never rfl (mi_of (me_var (pv 7))) (mg_name (pg_name (i := 8) sc_law_looked.nd rfl (.inl rfl)))
  (mss_cons (ms_if (mt_not (mt_val (me_callLC c_law_same (hr.mono (by decide)) (by rfl) (ml_cons (me_callC c_sent (hr.mono (by decide)) (by rfl) (ma_cons (me_var (pv 8)) ma_nil)) (ml_cons (me_var (pv 1)) ml_nil))) (fun _ => rfl)))
  (mss_cons (ms_ret me_bl)
  mss_nil)
  mss_nil)
  mss_nil))
  mss_nil)))))
  (mss_cons (ms_ret me_bl)
  mss_nil)))))) (runIO_ok rfl rfl), mgf, F.kp, F.binds (ps := ["box", "message"]) fun _ _ _ _ _ _ us hl => match us, hl with | [_, _], _ => rfl⟩
theorem ok_law_alike (T : Txt w mg) (F : Fun KK.K "_law_alike" "_law_alike" s_law_alike f fd) (mgf : mg "_law_alike" = some (.ref f)) (c_law_fits : Cl P w mg base "_law_fits" 2 (spN phi_law_fits)) (c_law_counts : Cl P w mg base "_law_counts" 1 (spN phi_law_counts)) (c_law_pick : Cl P w mg base "_law_pick" 2 (spIO phi_law_pick)) (c_sounds_like : Cl P w mg base "sounds_like" 2 (spN phi_sounds_like)) (c_law_same : Cl P w mg base "_law_same" 12 (spN (phi_law_same 12))) (c_law_nth : Cl P w mg base "_law_nth" 1 (spN phi_law_nth)) (c_law_shortest : Cl P w mg base "_law_shortest" 1 (spN phi_law_shortest)) (c_law_mixed : Cl P w mg base "_law_mixed" 2 (spIO phi_law_mixed)) (c_law_spelt : Cl P w mg base "_law_spelt" 2 (spN phi_law_spelt)) (c_law_draw : Cl P w mg base "_law_draw" 1 (spIO phi_law_draw)) : Cl P w mg base "_law_alike" 13 (spIO phi_law_alike) :=
  ⟨f, fd, ["box", "message"], fn_mkIO F sc_law_alike (fun cdv A outer s H E hr => (mss_cons (ms_set (i := 2) sc_law_alike.nd rfl (.inr rfl) (me_callC c_law_fits (hr.mono (by decide)) (by rfl) (ma_cons (me_var (pv 1)) ma_nil)))
  (mss_cons (ms_asg (me_callC c_law_counts (hr.mono (by decide)) (by rfl) (ma_cons (me_var (pv 2)) ma_nil)) (mg_tup rfl (mgs_cons (mg_name (pg_name (i := 3) sc_law_alike.nd rfl (.inr rfl))) (mgs_cons (mg_name (pg_name (i := 4) sc_law_alike.nd rfl (.inl rfl))) mgs_nil))))
  (mss_cons (ms_setLc (i := 5) (own := [("k", 10)]) rfl sc_law_alike.nd rfl rfl (sw_true rfl rfl rfl (by decide +kernel)) (mi_range1 (by rfl) (T.z_range) (ma_cons me_int ma_nil)) (blkOk_by (N := ["box", "message", "rows", "many", "few", "words", "word", "due", "handed", "told", "k", "far"]) (sc := (defScope s_law_alike)) (by decide +kernel)) (fun _ _ _ _ _ => (mg_name (pg_name (i := 10) sc_law_alike.nd rfl (.inl rfl)))) (fun _ _ _ _ _ => mts_nil) (fun _ _ _ _ _ => (me_callC c_law_nth (hr.mono (by decide)) (by rfl) (ma_cons (me_var (pv 2)) (ma_cons (me_var (pv 3)) (ma_cons (me_bin bin_mod (me_t1 c_int (by rfl) (T.z_int) (by decide +kernel) (me_bin bin_add (me_bin bin_mul (me_callIOC c_law_draw (hr.mono (by decide)) (by rfl) (pv 0) (ma_cons me_int ma_nil)) me_int) (me_var (pv 10)))) (me_ix (me_var (pv 3)) me_int (fun _ _ => rfl))) ma_nil))))))
  (mss_cons (ms_set (i := 5) sc_law_alike.nd rfl (.inl rfl) (me_bin bin_add (me_lc (own := [("word", 6)]) rfl sc_law_alike.nd (mi_of (me_var (pv 5))) (blkOk_by (N := ["box", "message", "rows", "many", "few", "words", "word", "due", "handed", "told", "k", "far"]) (sc := (defScope s_law_alike)) (by decide +kernel)) (fun _ _ _ _ _ => (mg_name (pg_name (i := 6) sc_law_alike.nd rfl (.inl rfl)))) (fun _ _ _ _ _ => (mts_one (mt_cmp (cmp_lt (hu64 hr)) (me_b1 c_len (by rfl) (T.z_len) (by decide +kernel) (me_var (pv 6))) me_int (by rfl)))) (fun _ _ _ _ _ => (me_var (pv 6)))) (me_lst (ma_cons (me_callC c_law_shortest (hr.mono (by decide)) (by rfl) (ma_cons (me_var (pv 2)) (ma_cons (me_var (pv 4)) ma_nil))) ma_nil))))
  (mss_cons (ms_set (i := 5) sc_law_alike.nd rfl (.inl rfl) (me_bin bin_add (me_var (pv 5)) (me_lc (own := [("far", 11)]) rfl sc_law_alike.nd (mi_range1 (by rfl) (T.z_range) (ma_cons me_int ma_nil)) (blkOk_by (N := ["box", "message", "rows", "many", "few", "words", "word", "due", "handed", "told", "k", "far"]) (sc := (defScope s_law_alike)) (by decide +kernel)) (fun _ _ _ _ _ => (mg_name (pg_name (i := 11) sc_law_alike.nd rfl (.inl rfl)))) (fun _ _ _ _ _ => mts_nil) (fun _ _ _ _ _ => (me_join me_str (me_lc (own := [("k", 10)]) rfl sc_law_alike.nd (mi_range1 (by rfl) (T.z_range) (ma_cons (me_callIOC c_law_draw (hr.mono (by decide)) (by rfl) (pv 0) (ma_cons me_int ma_nil)) ma_nil)) (blkOk_by (N := ["box", "message", "rows", "many", "few", "words", "word", "due", "handed", "told", "k", "far"]) (sc := (relS _ (defScope s_law_alike))) (by decide +kernel)) (fun _ _ _ _ _ => (mg_name (pg_name (i := 10) sc_law_alike.nd rfl (.inl rfl)))) (fun _ _ _ _ _ => mts_nil) (fun _ _ _ _ _ => (me_callIOC c_law_pick (hr.mono (by decide)) (by rfl) (pv 0) (ma_cons me_str ma_nil)))))))))
  (mss_cons (ms_setLc (i := 5) (own := [("word", 6)]) rfl sc_law_alike.nd rfl rfl (sw_true rfl rfl rfl (by decide +kernel)) (mi_of (me_callIOC c_law_mixed (hr.mono (by decide)) (by rfl) (pv 0) (ma_cons (me_bin bin_add (me_var (pv 5)) (me_slice (me_var (pv 5)) mp_none (mp_some me_int))) ma_nil))) (blkOk_by (N := ["box", "message", "rows", "many", "few", "words", "word", "due", "handed", "told", "k", "far"]) (sc := (defScope s_law_alike)) (by decide +kernel)) (fun _ _ _ _ _ => (mg_name (pg_name (i := 6) sc_law_alike.nd rfl (.inl rfl)))) (fun _ _ _ _ _ => (mts_one (mt_cmp (cmp_lt (hu64 hr)) (me_b1 c_len (by rfl) (T.z_len) (by decide +kernel) (me_var (pv 6))) me_int (by rfl)))) (fun _ _ _ _ _ => (me_var (pv 6))))
  (mss_cons (ms_if (mt_cmp (cmp_eq (hu64 hr)) (me_var (pv 5)) (me_lst ma_nil) (by rfl))
  (mss_cons (ms_ret me_bl)
  mss_nil)
  mss_nil)
  (mss_cons (ms_set (i := 6) sc_law_alike.nd rfl (.inr rfl) (me_callIOC c_law_pick (hr.mono (by decide)) (by rfl) (pv 0) (ma_cons (me_var (pv 5)) ma_nil)))
  (mss_cons (ms_setLc (i := 7) (own := [("far", 11)]) rfl sc_law_alike.nd rfl rfl (sw_true rfl rfl rfl (by decide +kernel)) (mi_of (me_var (pv 5))) (blkOk_by (N := ["box", "message", "rows", "many", "few", "words", "word", "due", "handed", "told", "k", "far"]) (sc := (defScope s_law_alike)) (by decide +kernel)) (fun _ _ _ _ _ => (mg_name (pg_name (i := 11) sc_law_alike.nd rfl (.inl rfl)))) (fun _ _ _ _ _ => (mts_one (mt_cmp (cmp_eq (hu64 hr)) (me_join me_str (me_callC c_law_spelt (hr.mono (by decide)) (by rfl) (ma_cons (me_var (pv 11)) ma_nil))) (me_join me_str (me_callC c_law_spelt (hr.mono (by decide)) (by rfl) (ma_cons (me_var (pv 6)) ma_nil))) (by rfl)))) (fun _ _ _ _ _ => (me_var (pv 11))))
  (mss_cons (ms_set (i := 8) sc_law_alike.nd rfl (.inl rfl) (me_t1 c_list (by rfl) (T.z_list) (by decide +kernel) (me_var (pv 5))))
  (mss_cons (ms_set (i := 9) sc_law_alike.nd rfl (.inl rfl) (me_callC c_sounds_like (hr.mono (by decide)) (by rfl) (ma_cons (me_var (pv 8)) (ma_cons (me_var (pv 6)) ma_nil))))
  (mss_cons (ms_if (MW.mt (mw_or (mt_not (mt_val (me_callLC c_law_same (hr.mono (by decide)) (by rfl) (ml_cons (me_var (pv 9)) (ml_cons (me_var (pv 7)) ml_nil))) (fun _ => rfl))) (mw_or1 (mt_cmp (cmp_ne (hu64 hr)) (me_var (pv 8)) (me_var (pv 5)) (by rfl)))))
  (mss_cons (ms_ret me_bl)
  mss_nil)
  mss_nil)
  (mss_cons (ms_expr (me_append (pv 9) me_str))
  (mss_cons (ms_ret (me_callLC c_law_same (hr.mono (by decide)) (by rfl) (ml_cons (me_callC c_sounds_like (hr.mono (by decide)) (by rfl) (ma_cons (me_var (pv 8)) (ma_cons (me_var (pv 6)) ma_nil))) (ml_cons (me_var (pv 7)) ml_nil))))
  mss_nil))))))))))))))) (runIO_ok rfl rfl), mgf, F.kp, F.binds (ps := ["box", "message"]) fun _ _ _ _ _ _ us hl => match us, hl with | [_, _], _ => rfl⟩
theorem ok_law (T : Txt w mg) (F : Fun KK.K "law" "law" s_law f fd) (c_law_signals : Cl P w mg base "_law_signals" 1 (spN phi_law_signals)) (c_law_digits : Cl P w mg base "_law_digits" 2 (spN phi_law_digits)) (c_law_message : Cl P w mg base "_law_message" 3 (spIO phi_law_message)) (c_law_pick : Cl P w mg base "_law_pick" 2 (spIO phi_law_pick)) (c_law_same : Cl P w mg base "_law_same" 12 (spN (phi_law_same 12))) (c_readings : Cl P w mg base "readings" 1 (spN phi_readings)) (c_reading_count : Cl P w mg base "reading_count" 2 (spN phi_reading_count)) (c_law_looked : Cl P w mg base "_law_looked" 13 (spIO phi_law_looked)) (c_law_alike : Cl P w mg base "_law_alike" 13 (spIO phi_law_alike)) (c_letter_of : Cl P w mg base "letter_of" 1 (spN phi_letter_of)) (c_law_draw : Cl P w mg base "_law_draw" 1 (spIO phi_law_draw)) (c_shortest_word : Cl P w mg base "shortest_word" 2 (spN phi_shortest_word)) (c_sent : Cl P w mg base "sent" 1 (spN phi_sent)) (c_law_spelt : Cl P w mg base "_law_spelt" 2 (spN phi_law_spelt)) : FnOk P w KK.K mg base CX0 14 f fd ["script"] (spN phi_law) :=
  fn_mk F sc_law (fun cdv A outer s H E hr => (mss_cons (ms_set (i := 1) sc_law.nd rfl (.inr rfl) (me_lst (ma_cons (me_callC c_law_digits (hr.mono (by decide)) (by rfl) (ma_cons (me_var (pv 0)) (ma_cons me_int (ma_cons me_int ma_nil)))) (ma_cons me_int ma_nil))))
  (mss_cons (ms_for PassesOwn.never rfl (mi_range1 (by rfl) (T.z_range) (ma_cons me_int ma_nil)) (mg_name (pg_name (i := 2) sc_law.nd rfl (.inl rfl)))
  (mss_cons (ms_set (i := 3) sc_law.nd rfl (.inl rfl) (me_callIOC c_law_message (hr.mono (by decide)) (by rfl) (pv 1) ma_nil))
  (mss_cons (ms_if (MW.mt (mw_or (mt_not (mt_val (me_callIOC c_law_looked (hr.mono (by decide)) (by rfl) (pv 1) (ma_cons (me_var (pv 3)) ma_nil)) (fun _ => rfl))) (mw_or1 (mt_not (mt_val (me_callIOC c_law_alike (hr.mono (by decide)) (by rfl) (pv 1) (ma_cons (me_var (pv 3)) ma_nil)) (fun _ => rfl))))))
  (mss_cons (ms_ret me_bl)
  mss_nil)
  mss_nil)
  mss_nil)))
  (mss_cons (ms_set (i := 4) sc_law.nd rfl (.inr rfl) (me_call0 c_law_signals (hr.mono (by decide)) (by rfl)))
  (mss_cons (ms_for PassesOwn.never rfl (mi_range1 (by rfl) (T.z_range) (ma_cons me_int ma_nil)) (mg_name (pg_name (i := 2) sc_law.nd rfl (.inl rfl)))
  (mss_cons (ms_set (i := 5) sc_law.nd rfl (.inr rfl) (me_join me_str (me_lc (own := [("k", 9)]) rfl sc_law.nd (mi_range1 (by rfl) (T.z_range) (ma_cons (me_callIOC c_law_draw (hr.mono (by decide)) (by rfl) (pv 1) (ma_cons me_int ma_nil)) ma_nil)) (blkOk_by (N := ["script", "box", "turn", "message", "signals", "signal", "due", "sign", "word", "k"]) (sc := (defScope s_law)) (by decide +kernel)) (fun _ _ _ _ _ => (mg_name (pg_name (i := 9) sc_law.nd rfl (.inl rfl)))) (fun _ _ _ _ _ => mts_nil) (fun _ _ _ _ _ => (me_callIOC c_law_pick (hr.mono (by decide)) (by rfl) (pv 1) (ma_cons me_str ma_nil))))))
  (mss_cons (ms_setLc (i := 6) (own := [("k", 9)]) rfl sc_law.nd rfl rfl (sw_true rfl rfl rfl (by decide +kernel)) (mi_range1 (by rfl) (T.z_range) (ma_cons me_int ma_nil)) (blkOk_by (N := ["script", "box", "turn", "message", "signals", "signal", "due", "sign", "word", "k"]) (sc := (defScope s_law)) (by decide +kernel)) (fun _ _ _ _ _ => (mg_name (pg_name (i := 9) sc_law.nd rfl (.inl rfl)))) (fun _ _ _ _ _ => (mts_one (mt_cmp (cmp_eq (hu64 hr)) (me_ix (me_var (pv 4)) (me_var (pv 9)) (fun _ _ => rfl)) (me_var (pv 5)) (by rfl)))) (fun _ _ _ _ _ => (me_var (pv 9))))
  (mss_cons (ms_if (mt_not (mt_val (me_callLC c_law_same (hr.mono (by decide)) (by rfl) (ml_cons (me_callC c_letter_of (hr.mono (by decide)) (by rfl) (ma_cons (me_var (pv 5)) ma_nil)) (ml_cons (me_if (mt_cmp (cmp_eq (hu64 hr)) (me_var (pv 6)) (me_lst ma_nil) (by rfl)) me_non (me_ix me_str (me_ix (me_var (pv 6)) me_int (fun _ _ => rfl)) (fun _ _ => rfl))) ml_nil))) (fun _ => rfl)))
  (mss_cons (ms_ret me_bl)
  mss_nil)
  mss_nil)
  (mss_cons (ms_set (i := 7) sc_law.nd rfl (.inl rfl) (me_callIOC c_law_pick (hr.mono (by decide)) (by rfl) (pv 1) (ma_cons me_str ma_nil)))
  (mss_cons (ms_set (i := 8) sc_law.nd rfl (.inl rfl) (me_bin bin_add (me_var (pv 7)) (me_bin bin_mulS (me_callIOC c_law_pick (hr.mono (by decide)) (by rfl) (pv 1) (ma_cons me_str ma_nil)) (me_callIOC c_law_draw (hr.mono (by decide)) (by rfl) (pv 1) (ma_cons me_int ma_nil)))))
  (mss_cons (ms_if (MW.mt (mw_or (mt_not (mt_val (me_callLC c_law_same (hr.mono (by decide)) (by rfl) (ml_cons (me_callC c_sent (hr.mono (by decide)) (by rfl) (ma_cons (me_var (pv 8)) ma_nil)) (ml_cons (me_join me_str (me_callC c_law_spelt (hr.mono (by decide)) (by rfl) (ma_cons (me_var (pv 8)) ma_nil))) ml_nil))) (fun _ => rfl))) (mw_or1 (mt_not (mt_val (me_callLC c_law_same (hr.mono (by decide)) (by rfl) (ml_cons (me_callC c_letter_of (hr.mono (by decide)) (by rfl) (ma_cons (me_ix (me_callC c_law_spelt (hr.mono (by decide)) (by rfl) (ma_cons (me_var (pv 7)) ma_nil)) me_int (fun _ _ => rfl)) ma_nil)) (ml_cons (me_var (pv 7)) ml_nil))) (fun _ => rfl))))))
  (mss_cons (ms_ret me_bl)
  mss_nil)
  mss_nil)
  mss_nil)))))))
  (mss_cons (ms_if (MW.mt (mw_or (mt_not (mt_val (me_callLC c_law_same (hr.mono (by decide)) (by rfl) (ml_cons (me_callC c_readings (hr.mono (by decide)) (by rfl) (ma_cons me_str (ma_cons me_int ma_nil))) (ml_cons (me_lst (ma_cons me_str ma_nil)) ml_nil))) (fun _ => rfl))) (mw_or (mt_not (mt_val (me_callLC c_law_same (hr.mono (by decide)) (by rfl) (ml_cons (me_callC c_reading_count (hr.mono (by decide)) (by rfl) (ma_cons me_str ma_nil)) (ml_cons me_int ml_nil))) (fun _ => rfl))) (mw_or1 (mt_not (mt_val (me_callLC c_law_same (hr.mono (by decide)) (by rfl) (ml_cons (me_callC c_shortest_word (hr.mono (by decide)) (by rfl) (ma_cons me_str ma_nil)) (ml_cons me_str ml_nil))) (fun _ => rfl)))))))
  (mss_cons (ms_ret me_bl)
  mss_nil)
  mss_nil)
  (mss_cons (ms_ret (me_and (me_callLC c_law_same (hr.mono (by decide)) (by rfl) (ml_cons (me_callC c_readings (hr.mono (by decide)) (by rfl) (ma_cons me_str (ma_cons me_int ma_nil))) (ml_cons (me_lst (ma_cons me_str (ma_cons me_str (ma_cons me_str (ma_cons me_str ma_nil))))) ml_nil))) (me_and (me_cmp (cmp_eq (hu64 hr)) (me_callC c_readings (hr.mono (by decide)) (by rfl) (ma_cons me_str (ma_cons me_int ma_nil))) (me_lst ma_nil) (by rfl)) (me_one (me_callLC c_law_same (hr.mono (by decide)) (by rfl) (ml_cons (me_callC c_reading_count (hr.mono (by decide)) (by rfl) (ma_cons me_str ma_nil)) (ml_cons me_int ml_nil)))))))
  mss_nil))))))) (runN_ok rfl rfl)
end
theorem all_mk {l : PySem.W.OpenLaw} {w : World} {fd_SIGNALS : Addr} {es_SIGNALS : Array DictEntry} {n_SIGNALS : Nat} {v_SIGNALS0 v_SIGNALS1 v_SIGNALS2 v_SIGNALS3 v_SIGNALS4 v_SIGNALS5 v_SIGNALS6 v_SIGNALS7 v_SIGNALS8 v_SIGNALS9 v_SIGNALS10 v_SIGNALS11 v_SIGNALS12 v_SIGNALS13 v_SIGNALS14 v_SIGNALS15 v_SIGNALS16 v_SIGNALS17 v_SIGNALS18 v_SIGNALS19 v_SIGNALS20 v_SIGNALS21 v_SIGNALS22 v_SIGNALS23 v_SIGNALS24 v_SIGNALS25 : Value} {K : PySem.W.Frag} {h : Heap} {mg : Str → Option Value} {fa f1 f2 f3 f4 f5 f6 f7 f8 f9 f10 f11 f12 f13 f14 f15 f16 f17 f18 f19 f20 f21 f22 : Addr} (X : K.In h) (G : h.Ns mainGlobals mg) (hfa : mg "law" = some (.ref fa))
    {od1 an1 od2 an2 od3 an3 od4 an4 od5 an5 od6 an6 od7 an7 od8 an8 od9 an9 od10 an10 od11 an11 od12 an12 od13 an13 od14 an14 od15 an15 od16 an16 od17 an17 od18 an18 od19 an19 od20 an20 od21 an21 od22 an22 : Option Addr} {sl1 sl2 sl3 sl4 sl5 sl6 sl7 sl8 sl9 sl10 sl11 sl12 sl13 sl14 sl15 sl16 sl17 sl18 sl19 sl20 sl21 sl22 : Array (Option Value)} {oc1 kV1 dc1 pm1 cd1 ct1 oc2 kV2 dc2 pm2 cd2 ct2 oc3 kV3 dc3 pm3 cd3 ct3 oc4 kV4 dc4 pm4 cd4 ct4 oc5 kV5 dc5 pm5 cd5 ct5 oc6 kV6 dc6 pm6 cd6 ct6 oc7 kV7 dc7 pm7 cd7 ct7 oc8 kV8 dc8 pm8 cd8 ct8 oc9 kV9 dc9 pm9 cd9 ct9 oc10 kV10 dc10 pm10 cd10 ct10 oc11 kV11 dc11 pm11 cd11 ct11 oc12 kV12 dc12 pm12 cd12 ct12 oc13 kV13 dc13 pm13 cd13 ct13 oc14 kV14 dc14 pm14 cd14 ct14 oc15 kV15 dc15 pm15 cd15 ct15 oc16 kV16 dc16 pm16 cd16 ct16 oc17 kV17 dc17 pm17 cd17 ct17 oc18 kV18 dc18 pm18 cd18 ct18 oc19 kV19 dc19 pm19 cd19 ct19 oc20 kV20 dc20 pm20 cd20 ct20 oc21 kV21 dc21 pm21 cd21 ct21 oc22 kV22 dc22 pm22 cd22 ct22 : Value}
    (a1 : PySem.W.nsIn K mainGlobals "sent" = some (some (.ref f1))) (l1 : K.lookup f1 = some ⟨oc1, od1, .func (PySem.W.fnOf "sent" "sent" (defArgs s_sent) (defBody s_sent) (defScope s_sent) .none kV1 dc1 pm1 an1 cd1 ct1), sl1⟩) (c1 : PySem.W.codeIn K cd1 "sent" = true) (k1 : PySem.W.keepIn K (.ref f1) = true)
    (a2 : PySem.W.nsIn K mainGlobals "letter_of" = some (some (.ref f2))) (l2 : K.lookup f2 = some ⟨oc2, od2, .func (PySem.W.fnOf "letter_of" "letter_of" (defArgs s_letter_of) (defBody s_letter_of) (defScope s_letter_of) .none kV2 dc2 pm2 an2 cd2 ct2), sl2⟩) (c2 : PySem.W.codeIn K cd2 "letter_of" = true) (k2 : PySem.W.keepIn K (.ref f2) = true)
    (a3 : PySem.W.nsIn K mainGlobals "reading_count" = some (some (.ref f3))) (l3 : K.lookup f3 = some ⟨oc3, od3, .func (PySem.W.fnOf "reading_count" "reading_count" (defArgs s_reading_count) (defBody s_reading_count) (defScope s_reading_count) .none kV3 dc3 pm3 an3 cd3 ct3), sl3⟩) (c3 : PySem.W.codeIn K cd3 "reading_count" = true) (k3 : PySem.W.keepIn K (.ref f3) = true)
    (a4 : PySem.W.nsIn K mainGlobals "readings" = some (some (.ref f4))) (l4 : K.lookup f4 = some ⟨oc4, od4, .func (PySem.W.fnOf "readings" "readings" (defArgs s_readings) (defBody s_readings) (defScope s_readings) .none kV4 dc4 pm4 an4 cd4 ct4), sl4⟩) (c4 : PySem.W.codeIn K cd4 "readings" = true) (k4 : PySem.W.keepIn K (.ref f4) = true)
    (a5 : PySem.W.nsIn K mainGlobals "shortest_word" = some (some (.ref f5))) (l5 : K.lookup f5 = some ⟨oc5, od5, .func (PySem.W.fnOf "shortest_word" "shortest_word" (defArgs s_shortest_word) (defBody s_shortest_word) (defScope s_shortest_word) .none kV5 dc5 pm5 an5 cd5 ct5), sl5⟩) (c5 : PySem.W.codeIn K cd5 "shortest_word" = true) (k5 : PySem.W.keepIn K (.ref f5) = true)
    (a6 : PySem.W.nsIn K mainGlobals "sounds_like" = some (some (.ref f6))) (l6 : K.lookup f6 = some ⟨oc6, od6, .func (PySem.W.fnOf "sounds_like" "sounds_like" (defArgs s_sounds_like) (defBody s_sounds_like) (defScope s_sounds_like) .none kV6 dc6 pm6 an6 cd6 ct6), sl6⟩) (c6 : PySem.W.codeIn K cd6 "sounds_like" = true) (k6 : PySem.W.keepIn K (.ref f6) = true)
    (a7 : PySem.W.nsIn K mainGlobals "_law_cell" = some (some (.ref f7))) (l7 : K.lookup f7 = some ⟨oc7, od7, .func (PySem.W.fnOf "_law_cell" "_law_cell" (defArgs s_law_cell) (defBody s_law_cell) (defScope s_law_cell) .none kV7 dc7 pm7 an7 cd7 ct7), sl7⟩) (c7 : PySem.W.codeIn K cd7 "_law_cell" = true) (k7 : PySem.W.keepIn K (.ref f7) = true)
    (a8 : PySem.W.nsIn K mainGlobals "_law_digits" = some (some (.ref f8))) (l8 : K.lookup f8 = some ⟨oc8, od8, .func (PySem.W.fnOf "_law_digits" "_law_digits" (defArgs s_law_digits) (defBody s_law_digits) (defScope s_law_digits) .none kV8 dc8 pm8 an8 cd8 ct8), sl8⟩) (c8 : PySem.W.codeIn K cd8 "_law_digits" = true) (k8 : PySem.W.keepIn K (.ref f8) = true)
    (a9 : PySem.W.nsIn K mainGlobals "_law_draw" = some (some (.ref f9))) (l9 : K.lookup f9 = some ⟨oc9, od9, .func (PySem.W.fnOf "_law_draw" "_law_draw" (defArgs s_law_draw) (defBody s_law_draw) (defScope s_law_draw) .none kV9 dc9 pm9 an9 cd9 ct9), sl9⟩) (c9 : PySem.W.codeIn K cd9 "_law_draw" = true) (k9 : PySem.W.keepIn K (.ref f9) = true)
    (a10 : PySem.W.nsIn K mainGlobals "_law_pick" = some (some (.ref f10))) (l10 : K.lookup f10 = some ⟨oc10, od10, .func (PySem.W.fnOf "_law_pick" "_law_pick" (defArgs s_law_pick) (defBody s_law_pick) (defScope s_law_pick) .none kV10 dc10 pm10 an10 cd10 ct10), sl10⟩) (c10 : PySem.W.codeIn K cd10 "_law_pick" = true) (k10 : PySem.W.keepIn K (.ref f10) = true)
    (a11 : PySem.W.nsIn K mainGlobals "_law_same" = some (some (.ref f11))) (l11 : K.lookup f11 = some ⟨oc11, od11, .func (PySem.W.fnOf "_law_same" "_law_same" (defArgs s_law_same) (defBody s_law_same) (defScope s_law_same) .none kV11 dc11 pm11 an11 cd11 ct11), sl11⟩) (c11 : PySem.W.codeIn K cd11 "_law_same" = true) (k11 : PySem.W.keepIn K (.ref f11) = true)
    (a12 : PySem.W.nsIn K mainGlobals "_law_mixed" = some (some (.ref f12))) (l12 : K.lookup f12 = some ⟨oc12, od12, .func (PySem.W.fnOf "_law_mixed" "_law_mixed" (defArgs s_law_mixed) (defBody s_law_mixed) (defScope s_law_mixed) .none kV12 dc12 pm12 an12 cd12 ct12), sl12⟩) (c12 : PySem.W.codeIn K cd12 "_law_mixed" = true) (k12 : PySem.W.keepIn K (.ref f12) = true)
    (a13 : PySem.W.nsIn K mainGlobals "_law_signals" = some (some (.ref f13))) (l13 : K.lookup f13 = some ⟨oc13, od13, .func (PySem.W.fnOf "_law_signals" "_law_signals" (defArgs s_law_signals) (defBody s_law_signals) (defScope s_law_signals) .none kV13 dc13 pm13 an13 cd13 ct13), sl13⟩) (c13 : PySem.W.codeIn K cd13 "_law_signals" = true) (k13 : PySem.W.keepIn K (.ref f13) = true)
    (a14 : PySem.W.nsIn K mainGlobals "_law_spelt" = some (some (.ref f14))) (l14 : K.lookup f14 = some ⟨oc14, od14, .func (PySem.W.fnOf "_law_spelt" "_law_spelt" (defArgs s_law_spelt) (defBody s_law_spelt) (defScope s_law_spelt) .none kV14 dc14 pm14 an14 cd14 ct14), sl14⟩) (c14 : PySem.W.codeIn K cd14 "_law_spelt" = true) (k14 : PySem.W.keepIn K (.ref f14) = true)
    (a15 : PySem.W.nsIn K mainGlobals "_law_fits" = some (some (.ref f15))) (l15 : K.lookup f15 = some ⟨oc15, od15, .func (PySem.W.fnOf "_law_fits" "_law_fits" (defArgs s_law_fits) (defBody s_law_fits) (defScope s_law_fits) .none kV15 dc15 pm15 an15 cd15 ct15), sl15⟩) (c15 : PySem.W.codeIn K cd15 "_law_fits" = true) (k15 : PySem.W.keepIn K (.ref f15) = true)
    (a16 : PySem.W.nsIn K mainGlobals "_law_counts" = some (some (.ref f16))) (l16 : K.lookup f16 = some ⟨oc16, od16, .func (PySem.W.fnOf "_law_counts" "_law_counts" (defArgs s_law_counts) (defBody s_law_counts) (defScope s_law_counts) .none kV16 dc16 pm16 an16 cd16 ct16), sl16⟩) (c16 : PySem.W.codeIn K cd16 "_law_counts" = true) (k16 : PySem.W.keepIn K (.ref f16) = true)
    (a17 : PySem.W.nsIn K mainGlobals "_law_nth" = some (some (.ref f17))) (l17 : K.lookup f17 = some ⟨oc17, od17, .func (PySem.W.fnOf "_law_nth" "_law_nth" (defArgs s_law_nth) (defBody s_law_nth) (defScope s_law_nth) .none kV17 dc17 pm17 an17 cd17 ct17), sl17⟩) (c17 : PySem.W.codeIn K cd17 "_law_nth" = true) (k17 : PySem.W.keepIn K (.ref f17) = true)
    (a18 : PySem.W.nsIn K mainGlobals "_law_shortest" = some (some (.ref f18))) (l18 : K.lookup f18 = some ⟨oc18, od18, .func (PySem.W.fnOf "_law_shortest" "_law_shortest" (defArgs s_law_shortest) (defBody s_law_shortest) (defScope s_law_shortest) .none kV18 dc18 pm18 an18 cd18 ct18), sl18⟩) (c18 : PySem.W.codeIn K cd18 "_law_shortest" = true) (k18 : PySem.W.keepIn K (.ref f18) = true)
    (a19 : PySem.W.nsIn K mainGlobals "_law_message" = some (some (.ref f19))) (l19 : K.lookup f19 = some ⟨oc19, od19, .func (PySem.W.fnOf "_law_message" "_law_message" (defArgs s_law_message) (defBody s_law_message) (defScope s_law_message) .none kV19 dc19 pm19 an19 cd19 ct19), sl19⟩) (c19 : PySem.W.codeIn K cd19 "_law_message" = true) (k19 : PySem.W.keepIn K (.ref f19) = true)
    (a20 : PySem.W.nsIn K mainGlobals "_law_looked" = some (some (.ref f20))) (l20 : K.lookup f20 = some ⟨oc20, od20, .func (PySem.W.fnOf "_law_looked" "_law_looked" (defArgs s_law_looked) (defBody s_law_looked) (defScope s_law_looked) .none kV20 dc20 pm20 an20 cd20 ct20), sl20⟩) (c20 : PySem.W.codeIn K cd20 "_law_looked" = true) (k20 : PySem.W.keepIn K (.ref f20) = true)
    (a21 : PySem.W.nsIn K mainGlobals "_law_alike" = some (some (.ref f21))) (l21 : K.lookup f21 = some ⟨oc21, od21, .func (PySem.W.fnOf "_law_alike" "_law_alike" (defArgs s_law_alike) (defBody s_law_alike) (defScope s_law_alike) .none kV21 dc21 pm21 an21 cd21 ct21), sl21⟩) (c21 : PySem.W.codeIn K cd21 "_law_alike" = true) (k21 : PySem.W.keepIn K (.ref f21) = true)
    (a22 : PySem.W.nsIn K mainGlobals "law" = some (some (.ref f22))) (l22 : K.lookup f22 = some ⟨oc22, od22, .func (PySem.W.fnOf "law" "law" (defArgs s_law) (defBody s_law) (defScope s_law) .none kV22 dc22 pm22 an22 cd22 ct22), sl22⟩) (c22 : PySem.W.codeIn K cd22 "law" = true) (k22 : PySem.W.keepIn K (.ref f22) = true)
    (dA_SIGNALS : PySem.W.nsIn K mainGlobals "SIGNALS" = some (some (.ref fd_SIGNALS))) (dL_SIGNALS : K.lookup fd_SIGNALS = some ⟨.type "dict", none, .dict es_SIGNALS n_SIGNALS, #[]⟩) (dK_SIGNALS : PySem.W.KeysLit w.params es_SIGNALS.toList)
    (dV_SIGNALS0 : PySem.W.nsIn K fd_SIGNALS "a" = some (some v_SIGNALS0)) (dR_SIGNALS0 : RelV (.str (Str.ofString ".-")) v_SIGNALS0)
    (dV_SIGNALS1 : PySem.W.nsIn K fd_SIGNALS "b" = some (some v_SIGNALS1)) (dR_SIGNALS1 : RelV (.str (Str.ofString "-...")) v_SIGNALS1)
    (dV_SIGNALS2 : PySem.W.nsIn K fd_SIGNALS "c" = some (some v_SIGNALS2)) (dR_SIGNALS2 : RelV (.str (Str.ofString "-.-.")) v_SIGNALS2)
    (dV_SIGNALS3 : PySem.W.nsIn K fd_SIGNALS "d" = some (some v_SIGNALS3)) (dR_SIGNALS3 : RelV (.str (Str.ofString "-..")) v_SIGNALS3)
    (dV_SIGNALS4 : PySem.W.nsIn K fd_SIGNALS "e" = some (some v_SIGNALS4)) (dR_SIGNALS4 : RelV (.str (Str.ofString ".")) v_SIGNALS4)
    (dV_SIGNALS5 : PySem.W.nsIn K fd_SIGNALS "f" = some (some v_SIGNALS5)) (dR_SIGNALS5 : RelV (.str (Str.ofString "..-.")) v_SIGNALS5)
    (dV_SIGNALS6 : PySem.W.nsIn K fd_SIGNALS "g" = some (some v_SIGNALS6)) (dR_SIGNALS6 : RelV (.str (Str.ofString "--.")) v_SIGNALS6)
    (dV_SIGNALS7 : PySem.W.nsIn K fd_SIGNALS "h" = some (some v_SIGNALS7)) (dR_SIGNALS7 : RelV (.str (Str.ofString "....")) v_SIGNALS7)
    (dV_SIGNALS8 : PySem.W.nsIn K fd_SIGNALS "i" = some (some v_SIGNALS8)) (dR_SIGNALS8 : RelV (.str (Str.ofString "..")) v_SIGNALS8)
    (dV_SIGNALS9 : PySem.W.nsIn K fd_SIGNALS "j" = some (some v_SIGNALS9)) (dR_SIGNALS9 : RelV (.str (Str.ofString ".---")) v_SIGNALS9)
    (dV_SIGNALS10 : PySem.W.nsIn K fd_SIGNALS "k" = some (some v_SIGNALS10)) (dR_SIGNALS10 : RelV (.str (Str.ofString "-.-")) v_SIGNALS10)
    (dV_SIGNALS11 : PySem.W.nsIn K fd_SIGNALS "l" = some (some v_SIGNALS11)) (dR_SIGNALS11 : RelV (.str (Str.ofString ".-..")) v_SIGNALS11)
    (dV_SIGNALS12 : PySem.W.nsIn K fd_SIGNALS "m" = some (some v_SIGNALS12)) (dR_SIGNALS12 : RelV (.str (Str.ofString "--")) v_SIGNALS12)
    (dV_SIGNALS13 : PySem.W.nsIn K fd_SIGNALS "n" = some (some v_SIGNALS13)) (dR_SIGNALS13 : RelV (.str (Str.ofString "-.")) v_SIGNALS13)
    (dV_SIGNALS14 : PySem.W.nsIn K fd_SIGNALS "o" = some (some v_SIGNALS14)) (dR_SIGNALS14 : RelV (.str (Str.ofString "---")) v_SIGNALS14)
    (dV_SIGNALS15 : PySem.W.nsIn K fd_SIGNALS "p" = some (some v_SIGNALS15)) (dR_SIGNALS15 : RelV (.str (Str.ofString ".--.")) v_SIGNALS15)
    (dV_SIGNALS16 : PySem.W.nsIn K fd_SIGNALS "q" = some (some v_SIGNALS16)) (dR_SIGNALS16 : RelV (.str (Str.ofString "--.-")) v_SIGNALS16)
    (dV_SIGNALS17 : PySem.W.nsIn K fd_SIGNALS "r" = some (some v_SIGNALS17)) (dR_SIGNALS17 : RelV (.str (Str.ofString ".-.")) v_SIGNALS17)
    (dV_SIGNALS18 : PySem.W.nsIn K fd_SIGNALS "s" = some (some v_SIGNALS18)) (dR_SIGNALS18 : RelV (.str (Str.ofString "...")) v_SIGNALS18)
    (dV_SIGNALS19 : PySem.W.nsIn K fd_SIGNALS "t" = some (some v_SIGNALS19)) (dR_SIGNALS19 : RelV (.str (Str.ofString "-")) v_SIGNALS19)
    (dV_SIGNALS20 : PySem.W.nsIn K fd_SIGNALS "u" = some (some v_SIGNALS20)) (dR_SIGNALS20 : RelV (.str (Str.ofString "..-")) v_SIGNALS20)
    (dV_SIGNALS21 : PySem.W.nsIn K fd_SIGNALS "v" = some (some v_SIGNALS21)) (dR_SIGNALS21 : RelV (.str (Str.ofString "...-")) v_SIGNALS21)
    (dV_SIGNALS22 : PySem.W.nsIn K fd_SIGNALS "w" = some (some v_SIGNALS22)) (dR_SIGNALS22 : RelV (.str (Str.ofString ".--")) v_SIGNALS22)
    (dV_SIGNALS23 : PySem.W.nsIn K fd_SIGNALS "x" = some (some v_SIGNALS23)) (dR_SIGNALS23 : RelV (.str (Str.ofString "-..-")) v_SIGNALS23)
    (dV_SIGNALS24 : PySem.W.nsIn K fd_SIGNALS "y" = some (some v_SIGNALS24)) (dR_SIGNALS24 : RelV (.str (Str.ofString "-.--")) v_SIGNALS24)
    (dV_SIGNALS25 : PySem.W.nsIn K fd_SIGNALS "z" = some (some v_SIGNALS25)) (dR_SIGNALS25 : RelV (.str (Str.ofString "--..")) v_SIGNALS25)
    (z_bool : PySem.W.nsIn K mainGlobals "bool" = some none)
    (z_int : PySem.W.nsIn K mainGlobals "int" = some none)
    (z_isinstance : PySem.W.nsIn K mainGlobals "isinstance" = some none)
    (z_len : PySem.W.nsIn K mainGlobals "len" = some none)
    (z_list : PySem.W.nsIn K mainGlobals "list" = some none)
    (z_max : PySem.W.nsIn K mainGlobals "max" = some none)
    (z_min : PySem.W.nsIn K mainGlobals "min" = some none)
    (z_range : PySem.W.nsIn K mainGlobals "range" = some none)
    (z_repr : PySem.W.nsIn K mainGlobals "repr" = some none)
    (z_reversed : PySem.W.nsIn K mainGlobals "reversed" = some none)
    (z_str : PySem.W.nsIn K mainGlobals "str" = some none)
    (z_sum : PySem.W.nsIn K mainGlobals "sum" = some none)
    (z_tuple : PySem.W.nsIn K mainGlobals "tuple" = some none)
    : ∃ fd : FuncData, (∀ (s : Shared) (v : Value), BindsTo s fd ⟨[v], []⟩ [("script", v)]) ∧ ∀ base : Heap, K.In base → base.Ns mainGlobals mg → FnOk l.prog w K mg base CX0 14 fa fd ["script"] (@spN ⟨K⟩ phi_law) := by
  have e := hfa.symm.trans (PySem.W.mg_of X G a22)
  cases e
  letI : KK := ⟨K⟩
  have T : Txt w mg := ⟨PySem.W.mg_none_of X G z_bool, PySem.W.mg_none_of X G z_int, PySem.W.mg_none_of X G z_isinstance, PySem.W.mg_none_of X G z_len, PySem.W.mg_none_of X G z_list, PySem.W.mg_none_of X G z_max, PySem.W.mg_none_of X G z_min, PySem.W.mg_none_of X G z_range, PySem.W.mg_none_of X G z_repr, PySem.W.mg_none_of X G z_reversed, PySem.W.mg_none_of X G z_str, PySem.W.mg_none_of X G z_sum, PySem.W.mg_none_of X G z_tuple, ⟨fd_SIGNALS, PySem.W.mg_of X G dA_SIGNALS, fun p hp => by unfold kd_SIGNALS at hp; simp only [List.mem_cons, List.not_mem_nil, or_false] at hp; rcases hp with rfl | rfl | rfl | rfl | rfl | rfl | rfl | rfl | rfl | rfl | rfl | rfl | rfl | rfl | rfl | rfl | rfl | rfl | rfl | rfl | rfl | rfl | rfl | rfl | rfl | rfl; exact ⟨_, _, _, dL_SIGNALS, dK_SIGNALS, dV_SIGNALS0, dR_SIGNALS0⟩; exact ⟨_, _, _, dL_SIGNALS, dK_SIGNALS, dV_SIGNALS1, dR_SIGNALS1⟩; exact ⟨_, _, _, dL_SIGNALS, dK_SIGNALS, dV_SIGNALS2, dR_SIGNALS2⟩; exact ⟨_, _, _, dL_SIGNALS, dK_SIGNALS, dV_SIGNALS3, dR_SIGNALS3⟩; exact ⟨_, _, _, dL_SIGNALS, dK_SIGNALS, dV_SIGNALS4, dR_SIGNALS4⟩; exact ⟨_, _, _, dL_SIGNALS, dK_SIGNALS, dV_SIGNALS5, dR_SIGNALS5⟩; exact ⟨_, _, _, dL_SIGNALS, dK_SIGNALS, dV_SIGNALS6, dR_SIGNALS6⟩; exact ⟨_, _, _, dL_SIGNALS, dK_SIGNALS, dV_SIGNALS7, dR_SIGNALS7⟩; exact ⟨_, _, _, dL_SIGNALS, dK_SIGNALS, dV_SIGNALS8, dR_SIGNALS8⟩; exact ⟨_, _, _, dL_SIGNALS, dK_SIGNALS, dV_SIGNALS9, dR_SIGNALS9⟩; exact ⟨_, _, _, dL_SIGNALS, dK_SIGNALS, dV_SIGNALS10, dR_SIGNALS10⟩; exact ⟨_, _, _, dL_SIGNALS, dK_SIGNALS, dV_SIGNALS11, dR_SIGNALS11⟩; exact ⟨_, _, _, dL_SIGNALS, dK_SIGNALS, dV_SIGNALS12, dR_SIGNALS12⟩; exact ⟨_, _, _, dL_SIGNALS, dK_SIGNALS, dV_SIGNALS13, dR_SIGNALS13⟩; exact ⟨_, _, _, dL_SIGNALS, dK_SIGNALS, dV_SIGNALS14, dR_SIGNALS14⟩; exact ⟨_, _, _, dL_SIGNALS, dK_SIGNALS, dV_SIGNALS15, dR_SIGNALS15⟩; exact ⟨_, _, _, dL_SIGNALS, dK_SIGNALS, dV_SIGNALS16, dR_SIGNALS16⟩; exact ⟨_, _, _, dL_SIGNALS, dK_SIGNALS, dV_SIGNALS17, dR_SIGNALS17⟩; exact ⟨_, _, _, dL_SIGNALS, dK_SIGNALS, dV_SIGNALS18, dR_SIGNALS18⟩; exact ⟨_, _, _, dL_SIGNALS, dK_SIGNALS, dV_SIGNALS19, dR_SIGNALS19⟩; exact ⟨_, _, _, dL_SIGNALS, dK_SIGNALS, dV_SIGNALS20, dR_SIGNALS20⟩; exact ⟨_, _, _, dL_SIGNALS, dK_SIGNALS, dV_SIGNALS21, dR_SIGNALS21⟩; exact ⟨_, _, _, dL_SIGNALS, dK_SIGNALS, dV_SIGNALS22, dR_SIGNALS22⟩; exact ⟨_, _, _, dL_SIGNALS, dK_SIGNALS, dV_SIGNALS23, dR_SIGNALS23⟩; exact ⟨_, _, _, dL_SIGNALS, dK_SIGNALS, dV_SIGNALS24, dR_SIGNALS24⟩; exact ⟨_, _, _, dL_SIGNALS, dK_SIGNALS, dV_SIGNALS25, dR_SIGNALS25⟩⟩⟩
  exact ⟨PySem.W.fnOf "law" "law" (defArgs s_law) (defBody s_law) (defScope s_law) .none kV22 dc22 pm22 an22 cd22 ct22, fun s v => .of_eq rfl, fun base _ _ => by
    have F_sent : Fun KK.K "sent" "sent" s_sent f1 _ := fun_mk (st := s_sent) l1 c1 k1
    have c_sent := ok_sent (P := l.prog) (w := w) (base := base) T F_sent (PySem.W.mg_of X G a1) 
    have F_letter_of : Fun KK.K "letter_of" "letter_of" s_letter_of f2 _ := fun_mk (st := s_letter_of) l2 c2 k2
    have c_letter_of := ok_letter_of (P := l.prog) (w := w) (base := base) T F_letter_of (PySem.W.mg_of X G a2) 
    have F_reading_count : Fun KK.K "reading_count" "reading_count" s_reading_count f3 _ := fun_mk (st := s_reading_count) l3 c3 k3
    have c_reading_count := ok_reading_count (P := l.prog) (w := w) (base := base) T F_reading_count (PySem.W.mg_of X G a3) c_letter_of
    have F_readings : Fun KK.K "readings" "readings" s_readings f4 _ := fun_mk (st := s_readings) l4 c4 k4
    have c_readings := ok_readings (P := l.prog) (w := w) (base := base) T F_readings (PySem.W.mg_of X G a4) 
    have F_shortest_word : Fun KK.K "shortest_word" "shortest_word" s_shortest_word f5 _ := fun_mk (st := s_shortest_word) l5 c5 k5
    have c_shortest_word := ok_shortest_word (P := l.prog) (w := w) (base := base) T F_shortest_word (PySem.W.mg_of X G a5) c_letter_of
    have F_sounds_like : Fun KK.K "sounds_like" "sounds_like" s_sounds_like f6 _ := fun_mk (st := s_sounds_like) l6 c6 k6
    have c_sounds_like := ok_sounds_like (P := l.prog) (w := w) (base := base) T F_sounds_like (PySem.W.mg_of X G a6) c_sent
    have F_law_cell : Fun KK.K "_law_cell" "_law_cell" s_law_cell f7 _ := fun_mk (st := s_law_cell) l7 c7 k7
    have c_law_cell := ok_law_cell (P := l.prog) (w := w) (base := base) T F_law_cell (PySem.W.mg_of X G a7) 
    have F_law_digits : Fun KK.K "_law_digits" "_law_digits" s_law_digits f8 _ := fun_mk (st := s_law_digits) l8 c8 k8
    have c_law_digits := ok_law_digits (P := l.prog) (w := w) (base := base) T F_law_digits (PySem.W.mg_of X G a8) c_law_cell
    have F_law_draw : Fun KK.K "_law_draw" "_law_draw" s_law_draw f9 _ := fun_mk (st := s_law_draw) l9 c9 k9
    have c_law_draw := ok_law_draw (P := l.prog) (w := w) (base := base) T F_law_draw (PySem.W.mg_of X G a9) 
    have F_law_pick : Fun KK.K "_law_pick" "_law_pick" s_law_pick f10 _ := fun_mk (st := s_law_pick) l10 c10 k10
    have c_law_pick := ok_law_pick (P := l.prog) (w := w) (base := base) T F_law_pick (PySem.W.mg_of X G a10) c_law_draw
    have F_law_same : Fun KK.K "_law_same" "_law_same" s_law_same f11 _ := fun_mk (st := s_law_same) l11 c11 k11
    have c_law_same := ok_law_same (P := l.prog) (w := w) (base := base) T F_law_same (PySem.W.mg_of X G a11)  12
    have F_law_mixed : Fun KK.K "_law_mixed" "_law_mixed" s_law_mixed f12 _ := fun_mk (st := s_law_mixed) l12 c12 k12
    have c_law_mixed := ok_law_mixed (P := l.prog) (w := w) (base := base) T F_law_mixed (PySem.W.mg_of X G a12) c_law_draw
    have F_law_signals : Fun KK.K "_law_signals" "_law_signals" s_law_signals f13 _ := fun_mk (st := s_law_signals) l13 c13 k13
    have c_law_signals := ok_law_signals (P := l.prog) (w := w) (base := base) T F_law_signals (PySem.W.mg_of X G a13) 
    have F_law_spelt : Fun KK.K "_law_spelt" "_law_spelt" s_law_spelt f14 _ := fun_mk (st := s_law_spelt) l14 c14 k14
    have c_law_spelt := ok_law_spelt (P := l.prog) (w := w) (base := base) T F_law_spelt (PySem.W.mg_of X G a14) c_law_signals
    have F_law_fits : Fun KK.K "_law_fits" "_law_fits" s_law_fits f15 _ := fun_mk (st := s_law_fits) l15 c15 k15
    have c_law_fits := ok_law_fits (P := l.prog) (w := w) (base := base) T F_law_fits (PySem.W.mg_of X G a15) c_law_signals
    have F_law_counts : Fun KK.K "_law_counts" "_law_counts" s_law_counts f16 _ := fun_mk (st := s_law_counts) l16 c16 k16
    have c_law_counts := ok_law_counts (P := l.prog) (w := w) (base := base) T F_law_counts (PySem.W.mg_of X G a16) 
    have F_law_nth : Fun KK.K "_law_nth" "_law_nth" s_law_nth f17 _ := fun_mk (st := s_law_nth) l17 c17 k17
    have c_law_nth := ok_law_nth (P := l.prog) (w := w) (base := base) T F_law_nth (PySem.W.mg_of X G a17) 
    have F_law_shortest : Fun KK.K "_law_shortest" "_law_shortest" s_law_shortest f18 _ := fun_mk (st := s_law_shortest) l18 c18 k18
    have c_law_shortest := ok_law_shortest (P := l.prog) (w := w) (base := base) T F_law_shortest (PySem.W.mg_of X G a18) 
    have F_law_message : Fun KK.K "_law_message" "_law_message" s_law_message f19 _ := fun_mk (st := s_law_message) l19 c19 k19
    have c_law_message := ok_law_message (P := l.prog) (w := w) (base := base) T F_law_message (PySem.W.mg_of X G a19) c_law_draw c_law_pick c_law_spelt
    have F_law_looked : Fun KK.K "_law_looked" "_law_looked" s_law_looked f20 _ := fun_mk (st := s_law_looked) l20 c20 k20
    have c_law_looked := ok_law_looked (P := l.prog) (w := w) (base := base) T F_law_looked (PySem.W.mg_of X G a20) c_law_fits c_law_counts c_law_draw c_law_pick c_readings c_law_same c_law_nth c_reading_count c_shortest_word c_law_shortest c_sent
    have F_law_alike : Fun KK.K "_law_alike" "_law_alike" s_law_alike f21 _ := fun_mk (st := s_law_alike) l21 c21 k21
    have c_law_alike := ok_law_alike (P := l.prog) (w := w) (base := base) T F_law_alike (PySem.W.mg_of X G a21) c_law_fits c_law_counts c_law_pick c_sounds_like c_law_same c_law_nth c_law_shortest c_law_mixed c_law_spelt c_law_draw
    have F_law : Fun KK.K "law" "law" s_law fa _ := fun_mk (st := s_law) l22 c22 k22
    exact ok_law (P := l.prog) (w := w) (base := base) T F_law c_law_signals c_law_digits c_law_message c_law_pick c_law_same c_readings c_reading_count c_law_looked c_law_alike c_letter_of c_law_draw c_shortest_word c_sent c_law_spelt⟩
end Law
open PySem PySem.W PyProof.Rows in
set_option maxRecDepth 100000 in
set_option maxHeartbeats 0 in
theorem PySem.Challenge.cw_postlands_k57_whole_words_that_signals_m_holds : PySem.Challenge.rw_postlands_k57_whole_words_that_signals_m.Holds := by
  w_on; o_law; k_head; (case hw => w_witness2)
  k_fill
  refine L2.walk_of (l := PySem.Challenge.rw_postlands_k57_whole_words_that_signals_m) (n := 63) (k := 14) (x := "script") (CX := fun _ => L2.CX0) (sp := fun w => @Mi.spN ⟨_⟩ Law.phi_law) rfl (by decide) rfl ⟨rfl, by decide, by decide⟩ (fun w h Y => PySem.W.kIn_of Y) ?F (fun w H a ns hl _ hS => Mi.law_sp ⟨_⟩ hS (Law.main ns hl)) (fun _ _ _ _ _ h => h)
  case F =>
    intro w mg fa h KX G hmg
    refine' Law.all_mk KX G hmg ?a1 ?l1 ?c1 ?k1 ?a2 ?l2 ?c2 ?k2 ?a3 ?l3 ?c3 ?k3 ?a4 ?l4 ?c4 ?k4 ?a5 ?l5 ?c5 ?k5 ?a6 ?l6 ?c6 ?k6 ?a7 ?l7 ?c7 ?k7 ?a8 ?l8 ?c8 ?k8 ?a9 ?l9 ?c9 ?k9 ?a10 ?l10 ?c10 ?k10 ?a11 ?l11 ?c11 ?k11 ?a12 ?l12 ?c12 ?k12 ?a13 ?l13 ?c13 ?k13 ?a14 ?l14 ?c14 ?k14 ?a15 ?l15 ?c15 ?k15 ?a16 ?l16 ?c16 ?k16 ?a17 ?l17 ?c17 ?k17 ?a18 ?l18 ?c18 ?k18 ?a19 ?l19 ?c19 ?k19 ?a20 ?l20 ?c20 ?k20 ?a21 ?l21 ?c21 ?k21 ?a22 ?l22 ?c22 ?k22 ?dA_SIGNALS ?dL_SIGNALS ?dK_SIGNALS ?dV_SIGNALS0 ?dR_SIGNALS0 ?dV_SIGNALS1 ?dR_SIGNALS1 ?dV_SIGNALS2 ?dR_SIGNALS2 ?dV_SIGNALS3 ?dR_SIGNALS3 ?dV_SIGNALS4 ?dR_SIGNALS4 ?dV_SIGNALS5 ?dR_SIGNALS5 ?dV_SIGNALS6 ?dR_SIGNALS6 ?dV_SIGNALS7 ?dR_SIGNALS7 ?dV_SIGNALS8 ?dR_SIGNALS8 ?dV_SIGNALS9 ?dR_SIGNALS9 ?dV_SIGNALS10 ?dR_SIGNALS10 ?dV_SIGNALS11 ?dR_SIGNALS11 ?dV_SIGNALS12 ?dR_SIGNALS12 ?dV_SIGNALS13 ?dR_SIGNALS13 ?dV_SIGNALS14 ?dR_SIGNALS14 ?dV_SIGNALS15 ?dR_SIGNALS15 ?dV_SIGNALS16 ?dR_SIGNALS16 ?dV_SIGNALS17 ?dR_SIGNALS17 ?dV_SIGNALS18 ?dR_SIGNALS18 ?dV_SIGNALS19 ?dR_SIGNALS19 ?dV_SIGNALS20 ?dR_SIGNALS20 ?dV_SIGNALS21 ?dR_SIGNALS21 ?dV_SIGNALS22 ?dR_SIGNALS22 ?dV_SIGNALS23 ?dR_SIGNALS23 ?dV_SIGNALS24 ?dR_SIGNALS24 ?dV_SIGNALS25 ?dR_SIGNALS25 ?z_bool ?z_int ?z_isinstance ?z_len ?z_list ?z_max ?z_min ?z_range ?z_repr ?z_reversed ?z_str ?z_sum ?z_tuple
    (case a1 => k_is); (case l1 => k_is); (case c1 => k_is); (case k1 => k_is); (case a2 => k_is); (case l2 => k_is); (case c2 => k_is); (case k2 => k_is); (case a3 => k_is); (case l3 => k_is); (case c3 => k_is); (case k3 => k_is); (case a4 => k_is); (case l4 => k_is); (case c4 => k_is); (case k4 => k_is); (case a5 => k_is); (case l5 => k_is); (case c5 => k_is); (case k5 => k_is); (case a6 => k_is); (case l6 => k_is); (case c6 => k_is); (case k6 => k_is); (case a7 => k_is); (case l7 => k_is); (case c7 => k_is); (case k7 => k_is); (case a8 => k_is); (case l8 => k_is); (case c8 => k_is); (case k8 => k_is); (case a9 => k_is); (case l9 => k_is); (case c9 => k_is); (case k9 => k_is); (case a10 => k_is); (case l10 => k_is); (case c10 => k_is); (case k10 => k_is); (case a11 => k_is); (case l11 => k_is); (case c11 => k_is); (case k11 => k_is); (case a12 => k_is); (case l12 => k_is); (case c12 => k_is); (case k12 => k_is); (case a13 => k_is); (case l13 => k_is); (case c13 => k_is); (case k13 => k_is); (case a14 => k_is); (case l14 => k_is); (case c14 => k_is); (case k14 => k_is); (case a15 => k_is); (case l15 => k_is); (case c15 => k_is); (case k15 => k_is); (case a16 => k_is); (case l16 => k_is); (case c16 => k_is); (case k16 => k_is); (case a17 => k_is); (case l17 => k_is); (case c17 => k_is); (case k17 => k_is); (case a18 => k_is); (case l18 => k_is); (case c18 => k_is); (case k18 => k_is); (case a19 => k_is); (case l19 => k_is); (case c19 => k_is); (case k19 => k_is); (case a20 => k_is); (case l20 => k_is); (case c20 => k_is); (case k20 => k_is); (case a21 => k_is); (case l21 => k_is); (case c21 => k_is); (case k21 => k_is); (case a22 => k_is); (case l22 => k_is); (case c22 => k_is); (case k22 => k_is); (case dA_SIGNALS => k_is); (case dL_SIGNALS => k_is); (case dK_SIGNALS => k_keys); (case dV_SIGNALS0 => k_is); (case dR_SIGNALS0 => exact ⟨_, rfl⟩); (case dV_SIGNALS1 => k_is); (case dR_SIGNALS1 => exact ⟨_, rfl⟩); (case dV_SIGNALS2 => k_is); (case dR_SIGNALS2 => exact ⟨_, rfl⟩); (case dV_SIGNALS3 => k_is); (case dR_SIGNALS3 => exact ⟨_, rfl⟩); (case dV_SIGNALS4 => k_is); (case dR_SIGNALS4 => exact ⟨_, rfl⟩); (case dV_SIGNALS5 => k_is); (case dR_SIGNALS5 => exact ⟨_, rfl⟩); (case dV_SIGNALS6 => k_is); (case dR_SIGNALS6 => exact ⟨_, rfl⟩); (case dV_SIGNALS7 => k_is); (case dR_SIGNALS7 => exact ⟨_, rfl⟩); (case dV_SIGNALS8 => k_is); (case dR_SIGNALS8 => exact ⟨_, rfl⟩); (case dV_SIGNALS9 => k_is); (case dR_SIGNALS9 => exact ⟨_, rfl⟩); (case dV_SIGNALS10 => k_is); (case dR_SIGNALS10 => exact ⟨_, rfl⟩); (case dV_SIGNALS11 => k_is); (case dR_SIGNALS11 => exact ⟨_, rfl⟩); (case dV_SIGNALS12 => k_is); (case dR_SIGNALS12 => exact ⟨_, rfl⟩); (case dV_SIGNALS13 => k_is); (case dR_SIGNALS13 => exact ⟨_, rfl⟩); (case dV_SIGNALS14 => k_is); (case dR_SIGNALS14 => exact ⟨_, rfl⟩); (case dV_SIGNALS15 => k_is); (case dR_SIGNALS15 => exact ⟨_, rfl⟩); (case dV_SIGNALS16 => k_is); (case dR_SIGNALS16 => exact ⟨_, rfl⟩); (case dV_SIGNALS17 => k_is); (case dR_SIGNALS17 => exact ⟨_, rfl⟩); (case dV_SIGNALS18 => k_is); (case dR_SIGNALS18 => exact ⟨_, rfl⟩); (case dV_SIGNALS19 => k_is); (case dR_SIGNALS19 => exact ⟨_, rfl⟩); (case dV_SIGNALS20 => k_is); (case dR_SIGNALS20 => exact ⟨_, rfl⟩); (case dV_SIGNALS21 => k_is); (case dR_SIGNALS21 => exact ⟨_, rfl⟩); (case dV_SIGNALS22 => k_is); (case dR_SIGNALS22 => exact ⟨_, rfl⟩); (case dV_SIGNALS23 => k_is); (case dR_SIGNALS23 => exact ⟨_, rfl⟩); (case dV_SIGNALS24 => k_is); (case dR_SIGNALS24 => exact ⟨_, rfl⟩); (case dV_SIGNALS25 => k_is); (case dR_SIGNALS25 => exact ⟨_, rfl⟩); (case z_bool => k_is); (case z_int => k_is); (case z_isinstance => k_is); (case z_len => k_is); (case z_list => k_is); (case z_max => k_is); (case z_min => k_is); (case z_range => k_is); (case z_repr => k_is); (case z_reversed => k_is); (case z_str => k_is); (case z_sum => k_is); (case z_tuple => k_is)
